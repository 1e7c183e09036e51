import PyProof.Rows.All
import Wide.All
import OpenK.AllK
import Wide.FinOn
import PySem.Challenge.RW_pitchward_k60_whole_lines_and_rows
import HandS.ForMost
import HandS.Conv
import HandS.TupAny
import HandS.Strs
import HandS.IsInst
import HandS.Flow
import HandS.Zip
import HandS.Small
import HandS.Wide
import HandS.Deep
import KE.SortData
import KE.LtData
import KE.SortKeyHeap
import PyProof.ReprRoads
import HandS.Style
import PyProof.EnumMake
import PyProof.Draws
import PyProof.WalksEnum
import KE.GoesEnum
import KE.GoesMore
import PyProof.StrOps2
import HandS.Dict
import PyProof.DictWalks
import PyProof.CollectWalk
import PyProof.ListNew
import KE.KItemsList
import HandS.Sort
import HandS.Comp
import HandS.TryOnly
import PyProof.AutoSeq1
import HandS.Exc
import HandS.SetFor
import HandS.SetKeys
import KE.KSortKey
import HandS.SortKw
import KE.KDictList
import HandS.More
import KE.KDictPairs
import HandS.ListItems
import HandS.ExcOwn
import HandS.ExcIs
import KE.KExcIs
import HandS.ExcInit
import HandS.Words
import KE.GoesZip
import HandS.WordsDict
import PyProof.SeqIndex
import HandS.TupMul
import HandS.RaiseMore
import HandS.Text
import HandS.NoneIn
import KE.KDictZip
import PyProof.TupleOfGen
import HandS.ExcValue
import HandS.Codes
set_option Elab.async false
set_option linter.all false
set_option maxRecDepth 100000
set_option maxHeartbeats 4000000
namespace DL
open PySem PySem.Spec PyProof.Rows L2
def PqT (K : PySem.W.Frag) (G : Hp) (a : Addr) (vs : List V) : Prop :=
  (∃ o, G a = some (.frz o (.tup vs)) ∧ o.dict = none) ∨ ∃ (o : Obj) (its : Array Value) (n : Nat), K.lookup a = some o ∧ o.cls = .type "tuple" ∧ o.dict = none ∧ o.data = .seq its n ∧ its.size ≤ sizeLine ∧ Vals vs its.toList
theorem PqT.sq {K : PySem.W.Frag} {G : Hp} {a : Addr} {vs : List V} (h : PqT K G a vs) : SqT K G a vs := by
  rcases h with ⟨o, e, _⟩ | ⟨o, its, n, e, c, _, r⟩
  · exact .inl (.inr ⟨o, e⟩)
  · exact .inr ⟨o, its, n, e, c, r⟩
theorem PqT.keep {K : PySem.W.Frag} {G G' : Hp} {a : Addr} {vs : List V} (s : ∀ o, G a = some (.frz o (.tup vs)) → G' a = some (.frz o (.tup vs))) (h : PqT K G a vs) : PqT K G' a vs := by
  rcases h with ⟨o, e, d⟩ | h
  · exact .inl ⟨o, s _ e, d⟩
  · exact .inr h
theorem PqT.new {K : PySem.W.Frag} {G : Hp} {p : Addr} {vs : List V} {o : Obj} (d : o.dict = none) : PqT K (upd G p (.frz o (.tup vs))) p vs := .inl ⟨o, upd_same, d⟩
section
variable {X : Cx} {pins : List (Addr × Obj)} {σ : L2.St} {H : Hp} {s : Shared} {h' : Heap}
def tupOb (us : List Value) : Obj := { cls := .type "tuple", data := .seq us.toArray }
theorem laidF {xs : List V} {us : List Value} {Q : VK} (I : Inv X pins σ H s) (r : Vals xs us) (z : xs.length ≤ sizeLine) (q : ∀ p o, o.dict = none → H p = none → Q (.ref p) (upd H p (.frz o (.tup xs)))) :
    EP X pins σ Q (.ref s.heap.objs.size) { s with heap := s.heap.push (tupOb us) } := by
  have at0 : (s.heap.push (tupOb us)).get? s.heap.objs.size = some (tupOb us) := Heap.get?_push_size _ rfl
  have new : ObjOk X.prog X.w (upd H s.heap.objs.size (.frz (tupOb us) (.tup xs))) (s.heap.push (tupOb us)) s.heap.objs.size (.frz (tupOb us) (.tup xs)) := ⟨at0, z, us, r, ⟨_, at0, rfl, 0, rfl⟩⟩
  have I2 := I.laid (t' := s.toks) (fun b u e => Heap.get?_push_of_some (tupOb us) e) (Nat.le_refl _) new
  exact ⟨.ref s.heap.objs.size, _, I2, rfl, q _ _ rfl (I.hok.fresh (Nat.le_refl _))⟩
end
def tTupF (t : TA) : TE := fun σ H Q => t σ H fun xs H1 => xs.length ≤ sizeLine ∧ ∀ p o, o.dict = none → H1 p = none → Q (.ref p) (upd H1 p (.frz o (.tup xs)))
section
variable {X : Cx} {es : List Expr} {t : TA} {pos : Pos}
theorem pe_tupF {x1} (h : PA X es t) : PE X (.Tuple es x1 pos) (tTupF t) := by
  constructor
  intro pins s σ H Q I hq
  refine wpAny_Tuple_spliced (thn (h.run pos pins s σ H _ I hq) ?_)
  rintro us s1 ⟨xs, H1, I1, r, z, q⟩
  have z' : us.length ≤ sizeLine := by have := r.length; omega
  exact ⟨z', laidF I1 r z q⟩
theorem call_tupF : CallR X (.type "tuple") (fun xs H Q => ∃ p ys, xs = [.ref p] ∧ ((SqL X.K H p ys ∧ ∀ l o, o.dict = none → H l = none → Q (.ref l) (upd H l (.frz o (.tup ys)))) ∨ (SqT X.K H p ys ∧ Q (.ref p) H))) := by
  rintro pins s σ H xs us Q I r ⟨p, ys, rfl, h⟩
  obtain ⟨u, rfl, rx⟩ := vals1 r
  obtain rfl : u = Value.ref p := rx
  cases h with
  | inl h =>
    obtain ⟨its, rv, pl, hz⟩ := I.list h.1
    refine call_tuple_list pl.isList (fun h2 kp => ?_) (by rw [List.size_toArray, ← rv.length]; exact hz)
    exact laidF (s := { s with heap := h2 }) (I.kept (t' := s.toks) kp) rv hz h.2
  | inr h =>
    obtain ⟨its, _, pl, _⟩ := I.tuple h.1
    exact call_tuple_same pl ⟨.ref p, H, I, rfl, h.2⟩
def rSlF (K : PySem.W.Frag) : V → Option Int → Option Int → Hp → VK → Prop := fun x lo hi H Q => ∃ a xs, x = .ref a ∧ SqT K H a xs ∧
  (HT.sIx xs.length 0 lo = 0 ∧ HT.sIx xs.length xs.length hi = xs.length → Q (.ref a) H) ∧
  (¬ (HT.sIx xs.length 0 lo = 0 ∧ HT.sIx xs.length xs.length hi = xs.length) → ∀ p o, o.dict = none → H p = none → Q (.ref p) (upd H p (.frz o (.tup (cutV xs lo hi)))))
theorem sl_tupF : SlR X (rSlF X.K) := by
  rintro pins s σ H x v vl vu lo hi sl Q I rx hs pl pu ⟨a, xs, rfl, hx, q1, q2⟩
  by_cases hw : HT.sIx xs.length 0 lo = 0 ∧ HT.sIx xs.length xs.length hi = xs.length
  · exact sl_tupA pins s σ H _ v vl vu lo hi sl Q I rx hs pl pu ⟨a, xs, rfl, hx, q1, fun n => absurd hw n⟩
  · obtain rfl : v = Value.ref a := rx
    obtain ⟨its, r, ht, hz⟩ := I.tuple hx
    have hl : its.toArray.size = xs.length := by rw [List.size_toArray, r.length]
    refine ⟨"tuple", _, PyProof.Rows.slot_tuple_getitem.lookup, ht.typeIs, HT.getItem_tuple_cut ht hs pl pu (by rw [hl]; exact hw) ?_ (by rw [hl]; exact hz)⟩
    rw [hl]
    exact laidF I ((r.drop _).take _) (Nat.le_trans (cutV_length xs lo hi) hz) (q2 hw)
def rCatF (K : PySem.W.Frag) : R2 := fun x y H Q => ∃ a b xs ys, x = .ref a ∧ y = .ref b ∧ SqT K H a xs ∧ SqT K H b ys ∧ xs.length + ys.length ≤ sizeLine ∧
  (xs = [] → Q (.ref b) H) ∧ (xs ≠ [] → ys = [] → Q (.ref a) H) ∧ (xs ≠ [] → ys ≠ [] → ∀ p o, o.dict = none → H p = none → Q (.ref p) (upd H p (.frz o (.tup (xs ++ ys)))))
theorem op_catF : OpR X (binaryOp .Add) (rCatF X.K) := by
  rintro pins s σ H x y v u Q I rx ry ⟨a, b, xs, ys, rfl, rfl, ha, hb, hz, q0, q1, q2⟩
  by_cases hx : xs = []
  · exact op_catA pins s σ H _ _ v u Q I rx ry ⟨a, b, xs, ys, rfl, rfl, ha, hb, hz, q0, fun n => absurd hx n, fun n => absurd hx n⟩
  · by_cases hy : ys = []
    · exact op_catA pins s σ H _ _ v u Q I rx ry ⟨a, b, xs, ys, rfl, rfl, ha, hb, hz, q0, q1, fun _ n => absurd hy n⟩
    · obtain rfl : v = Value.ref a := rx
      obtain rfl : u = Value.ref b := ry
      obtain ⟨us, r1, p1, _⟩ := I.tuple ha
      obtain ⟨ws, r2, p2, _⟩ := I.tuple hb
      refine HT.cat_tup p1 p2 (fun z => hx (r1.nil_iff.mp z)) (fun z => absurd (r2.nil_iff.mp z) hy) (fun _ => ?_) (by have := r1.length; have := r2.length; omega)
      exact laidF I (r1.append r2) (by rw [List.length_append]; exact hz) (q2 hx hy)
end
set_option Elab.async false
set_option linter.all false
set_option maxRecDepth 100000
set_option maxHeartbeats 4000000
abbrev D := PyData
def kD : Key → D
  | .inl i => .int i
  | .inr x => .str x
mutual
inductive Den (K : PySem.W.Frag) (G : Hp) : V → D → Prop
  | non : Den K G .non .none
  | bl (b : Bool) : Den K G (.bl b) (.bool b)
  | int (i : Int) : Den K G (.int i) (.int i)
  | str (x : Str) : x.length ≤ sizeLine → PyData.strOk x = true → Den K G (.str x) (.str x)
  | lst {a : Addr} {vs : List V} {ds : List D} : G a = some (.lst vs) → vs.length ≤ sizeLine → DenAll K G vs ds → Den K G (.ref a) (.list ds)
  | tup {a : Addr} {vs : List V} {ds : List D} : PqT K G a vs → vs.length ≤ sizeLine → DenAll K G vs ds → Den K G (.ref a) (.tuple ds)
  | emp {a : Addr} : G a = some (.dK []) → Den K G (.ref a) (.dict [])
  | dct {a : Addr} {xs : List (Key × V)} {es : List (D × D)} : G a = some (.dK xs) → xs.length ≤ sizeLine → DenKV K G xs es → Den K G (.ref a) (.dict ((.none, .bool true) :: es))
  | obj {a C dx : Addr} {x : Str} {fs : List (Str × V)} {es : List (D × D)} : G a = some (.ins C dx fs) → PySem.W.nsIn K mainGlobals x = some (some (.ref C)) → DenFs K G fs es → Den K G (.ref a) (.dict ((.none, .str x) :: es))
inductive DenAll (K : PySem.W.Frag) (G : Hp) : List V → List D → Prop
  | nil : DenAll K G [] []
  | cons {v : V} {vs : List V} {d : D} {ds : List D} : Den K G v d → DenAll K G vs ds → DenAll K G (v :: vs) (d :: ds)
inductive DenKV (K : PySem.W.Frag) (G : Hp) : List (Key × V) → List (D × D) → Prop
  | nil : DenKV K G [] []
  | cons {k : Key} {v : V} {d : D} {r : List (Key × V)} {s : List (D × D)} : Den K G (kV k) (kD k) → Den K G v d → DenKV K G r s → DenKV K G ((k, v) :: r) ((kD k, d) :: s)
inductive DenFs (K : PySem.W.Frag) (G : Hp) : List (Str × V) → List (D × D) → Prop
  | nil : DenFs K G [] []
  | cons {f : Str} {v : V} {d : D} {r : List (Str × V)} {s : List (D × D)} : Den K G v d → DenFs K G r s → DenFs K G ((f, v) :: r) ((.str f, d) :: s)
end
section
variable {K : PySem.W.Frag} {G G' : Hp}
mutual
theorem Den.mono (s : Same G G') : ∀ {v : V} {d : D}, Den K G v d → Den K G' v d
  | _, _, .non => .non
  | _, _, .bl b => .bl b
  | _, _, .int i => .int i
  | _, _, .str x h o => .str x h o
  | _, _, .lst e z r => .lst (s _ _ e) z (DenAll.mono s r)
  | _, _, .tup q z r => .tup (q.keep fun o e => s _ _ e) z (DenAll.mono s r)
  | _, _, .emp e => .emp (s _ _ e)
  | _, _, .dct e z r => .dct (s _ _ e) z (DenKV.mono s r)
  | _, _, .obj e n r => .obj (s _ _ e) n (DenFs.mono s r)
theorem DenKV.mono (s : Same G G') : ∀ {vs : List (Key × V)} {ds : List (D × D)}, DenKV K G vs ds → DenKV K G' vs ds
  | _, _, .nil => .nil
  | _, _, .cons k h r => .cons (Den.mono s k) (Den.mono s h) (DenKV.mono s r)
theorem DenFs.mono (s : Same G G') : ∀ {vs : List (Str × V)} {ds : List (D × D)}, DenFs K G vs ds → DenFs K G' vs ds
  | _, _, .nil => .nil
  | _, _, .cons h r => .cons (Den.mono s h) (DenFs.mono s r)
theorem DenAll.mono (s : Same G G') : ∀ {vs : List V} {ds : List D}, DenAll K G vs ds → DenAll K G' vs ds
  | _, _, .nil => .nil
  | _, _, .cons h r => .cons (Den.mono s h) (DenAll.mono s r)
end
end
mutual
def noD : D → Bool
  | .none => true | .bool _ => true | .int _ => true | .str _ => true
  | .list xs => noDAll xs
  | .tuple xs => noDAll xs
  | .dict _ => false
def noDAll : List D → Bool
  | [] => true
  | x :: xs => noD x && noDAll xs
end
mutual
theorem noD_lay : ∀ {d : D}, d.canLay0 = true → noD d = true
  | .none, _ => rfl
  | .bool _, _ => rfl
  | .int _, _ => rfl
  | .str _, _ => rfl
  | .list xs, h => noDAll_lay (by unfold PyData.canLay0 at h; exact h)
  | .tuple xs, h => noDAll_lay (by unfold PyData.canLay0 at h; exact h)
  | .dict _, h => by unfold PyData.canLay0 at h; cases h
theorem noDAll_lay : ∀ {ds : List D}, PyData.canLayAll0 ds = true → noDAll ds = true
  | [], _ => rfl
  | x :: xs, h => by
    unfold PyData.canLayAll0 at h
    obtain ⟨h1, h2⟩ := Bool.and_eq_true_iff.mp h
    unfold noDAll
    rw [noD_lay h1, noDAll_lay h2]
    rfl
end
theorem noDAll_map {α : Type} {f : α → D} : ∀ {l : List α}, (∀ x ∈ l, noD (f x) = true) → noDAll (l.map f) = true
  | [], _ => rfl
  | x :: l, h => by
    rw [List.map_cons]
    unfold noDAll
    rw [h x (.head _), noDAll_map fun y hy => h y (.tail _ hy)]
    rfl
theorem noD_strs (l : List Str) : noDAll (l.map .str) = true := noDAll_map fun _ _ => rfl
theorem noD_ints (l : List Int) : noDAll (l.map .int) = true := noDAll_map fun _ _ => rfl
section
variable {K : PySem.W.Frag} {G G' : Hp}
mutual
theorem Den.dp : ∀ {v : V} {d : D}, Den K G v d → noD d = true → Dp K G v d
  | _, _, .non, _ => .non
  | _, _, .bl b, _ => .bl b
  | _, _, .int i, _ => .int i
  | _, _, .str x h o, _ => .str x
  | _, _, .lst e z r, h => .lst (SqL.of e) (DenAll.dp r (by unfold noD at h; exact h))
  | _, _, .tup e z r, h => .tup e.sq (DenAll.dp r (by unfold noD at h; exact h))
  | _, _, .emp _, h => by cases h
  | _, _, .dct _ _ _, h => by cases h
  | _, _, .obj _ _ _, h => by cases h
theorem DenAll.dp : ∀ {vs : List V} {ds : List D}, DenAll K G vs ds → noDAll ds = true → DpAll K G vs ds
  | _, _, .nil, _ => .nil
  | _, _, .cons h r, e => by
    unfold noDAll at e
    obtain ⟨e1, e2⟩ := Bool.and_eq_true_iff.mp e
    exact .cons (Den.dp h e1) (DenAll.dp r e2)
end
theorem DenAll.length : ∀ {vs : List V} {ds : List D}, DenAll K G vs ds → vs.length = ds.length
  | _, _, .nil => rfl
  | _, _, .cons _ r => congrArg (· + 1) (DenAll.length r)
theorem DenAll.get : ∀ {vs : List V} {ds : List D} {i : Nat} {d : D}, DenAll K G vs ds → ds[i]? = some d → ∃ v, vs[i]? = some v ∧ Den K G v d
  | _, _, _, _, .nil, e => by simp at e
  | _, _, 0, _, .cons h _, e => by simp at e; subst e; exact ⟨_, rfl, h⟩
  | _, _, i + 1, _, .cons _ r, e => by
    obtain ⟨v, h1, h2⟩ := DenAll.get (i := i) r (by simpa using e)
    exact ⟨v, by simpa using h1, h2⟩
theorem DenAll.getV : ∀ {vs : List V} {ds : List D} {i : Nat} {v : V}, DenAll K G vs ds → vs[i]? = some v → ∃ d, ds[i]? = some d ∧ Den K G v d
  | _, _, _, _, .nil, e => by simp at e
  | _, _, 0, _, .cons h _, e => by simp at e; subst e; exact ⟨_, rfl, h⟩
  | _, _, i + 1, _, .cons _ r, e => by
    obtain ⟨v, h1, h2⟩ := DenAll.getV (i := i) r (by simpa using e)
    exact ⟨v, by simpa using h1, h2⟩
theorem DenAll.append : ∀ {vs ws : List V} {ds es : List D}, DenAll K G vs ds → DenAll K G ws es → DenAll K G (vs ++ ws) (ds ++ es)
  | _, _, _, _, .nil, s => s
  | _, _, _, _, .cons h r, s => .cons h (DenAll.append r s)
theorem DenAll.take : ∀ {vs : List V} {ds : List D} (n : Nat), DenAll K G vs ds → DenAll K G (vs.take n) (ds.take n)
  | _, _, 0, _ => by simp only [List.take_zero]; exact .nil
  | _, _, _ + 1, .nil => by simp only [List.take_nil]; exact .nil
  | _, _, n + 1, .cons h r => .cons h (DenAll.take n r)
theorem DenAll.drop : ∀ {vs : List V} {ds : List D} (n : Nat), DenAll K G vs ds → DenAll K G (vs.drop n) (ds.drop n)
  | _, _, 0, r => by simpa using r
  | _, _, _ + 1, .nil => by simp only [List.drop_nil]; exact .nil
  | _, _, n + 1, .cons _ r => by simpa using DenAll.drop n r
theorem DenAll.set {v : V} {d : D} (h : Den K G v d) : ∀ {vs : List V} {ds : List D} (i : Nat), DenAll K G vs ds → DenAll K G (vs.set i v) (ds.set i d)
  | _, _, _, .nil => .nil
  | _, _, 0, .cons _ r => .cons h r
  | _, _, i + 1, .cons q r => .cons q (DenAll.set h i r)
theorem Den.at_new {p : Addr} {o : HO} {v : V} {d : D} (h : Den K G v d) (hn : G p = none) : Den K (upd G p o) v d := h.mono fun b u e => by rw [upd_ne (ne_of_none e hn)]; exact e
end
structure Gr (G H G' H' : Hp) : Prop where
  keep : Same G G'
  sub : Same G' H'
  all : Same H H'
  new : ∀ b, G' b ≠ none → G b ≠ none ∨ H b = none
theorem Gr.refl {G H : Hp} (s : Same G H) : Gr G H G H := ⟨Same.refl _, s, Same.refl _, fun _ h => .inl h⟩
theorem Gr.trans {G H G1 H1 G2 H2 : Hp} (a : Gr G H G1 H1) (b : Gr G1 H1 G2 H2) : Gr G H G2 H2 := ⟨a.keep.trans b.keep, b.sub, a.all.trans b.all, fun c h => by
  rcases b.new c h with h1 | h1
  · exact a.new c h1
  · exact .inr (a.all.free h1)⟩
theorem Gr.upd {G H : Hp} {p : Addr} {o : HO} (s : Same G H) (hp : H p = none) : Gr G H (L2.upd G p o) (L2.upd H p o) := by
  have hg : G p = none := s.free hp
  refine ⟨fun b u e => ?_, fun b u e => ?_, fun b u e => ?_, fun b h => ?_⟩
  · rw [upd_ne (ne_of_none e hg)]; exact e
  · by_cases hb : b = p
    · subst hb; rw [upd_same] at e ⊢; exact e
    · rw [upd_ne hb] at e ⊢; exact s b u e
  · rw [upd_ne (ne_of_none e hp)]; exact e
  · by_cases hb : b = p
    · subst hb; exact .inr hp
    · rw [upd_ne hb] at h; exact .inl h
theorem Gr.own {G H : Hp} {p : Addr} {o : HO} (s : Same G H) (hp : H p = none) : Gr G H G (L2.upd H p o) := by
  refine ⟨Same.refl _, fun b u e => ?_, fun b u e => ?_, fun b h => .inl h⟩
  · rw [upd_ne (ne_of_none (s b u e) hp)]; exact s b u e
  · rw [upd_ne (ne_of_none e hp)]; exact e
theorem Gr.freeze {G H G' H' : Hp} {p : Addr} {o : HO} (g : Gr G H G' H') (h1 : G' p = none) (h2 : H p = none) (h3 : H' p = some o) : Gr G H (L2.upd G' p o) H' := by
  refine ⟨fun b u e => ?_, fun b u e => ?_, g.all, fun b h => ?_⟩
  · have e' := g.keep b u e
    rw [upd_ne (ne_of_none e' h1)]; exact e'
  · by_cases hb : b = p
    · subst hb; rw [upd_same] at e; cases e; exact h3
    · rw [upd_ne hb] at e; exact g.sub b u e
  · by_cases hb : b = p
    · subst hb; exact .inr h2
    · rw [upd_ne hb] at h; exact g.new b h
inductive KVsD (K : PySem.W.Frag) (G : Hp) : List (Key × V) → List (Key × D) → Prop
  | nil : KVsD K G [] []
  | cons {k : Key} {v : V} {d : D} {r : List (Key × V)} {s : List (Key × D)} : Den K G (kV k) (kD k) → Den K G v d → KVsD K G r s → KVsD K G ((k, v) :: r) ((k, d) :: s)
theorem KVsD.mono {K : PySem.W.Frag} {G G' : Hp} (s : Same G G') : ∀ {xs : List (Key × V)} {kvs : List (Key × D)}, KVsD K G xs kvs → KVsD K G' xs kvs
  | _, _, .nil => .nil
  | _, _, .cons a b r => .cons (a.mono s) (b.mono s) (KVsD.mono s r)
def SameX (G G' : Hp) : Prop := ∀ b o, G b = some o → (∀ od xs, o ≠ .frz od (.dK xs)) → G' b = some o
theorem nx_l {vs : List V} : ∀ od xs, HO.lst vs ≠ .frz od (.dK xs) := by intro _ _ y; cases y
theorem nx_t {o : Obj} {vs : List V} : ∀ od xs, HO.frz o (.tup vs) ≠ .frz od (.dK xs) := by intro _ _ y; cases y
theorem nx_d {ys : List (Key × V)} : ∀ od xs, HO.dK ys ≠ .frz od (.dK xs) := by intro _ _ y; cases y
theorem nx_i {C dx : Addr} {fs : List (Str × V)} : ∀ od xs, HO.ins C dx fs ≠ .frz od (.dK xs) := by intro _ _ y; cases y
section
variable {K : PySem.W.Frag} {G G' H H' : Hp}
mutual
theorem Den.off (s : SameX G G') : ∀ {v : V} {d : D}, Den K G v d → Den K G' v d
  | _, _, .non => .non
  | _, _, .bl b => .bl b
  | _, _, .int i => .int i
  | _, _, .str x h o => .str x h o
  | _, _, .lst e z r => .lst (s _ _ e nx_l) z (DenAll.off s r)
  | _, _, .tup q z r => .tup (q.keep fun o e => s _ _ e nx_t) z (DenAll.off s r)
  | _, _, .emp e => .emp (s _ _ e nx_d)
  | _, _, .dct e z r => .dct (s _ _ e nx_d) z (DenKV.off s r)
  | _, _, .obj e n r => .obj (s _ _ e nx_i) n (DenFs.off s r)
theorem DenKV.off (s : SameX G G') : ∀ {vs : List (Key × V)} {ds : List (D × D)}, DenKV K G vs ds → DenKV K G' vs ds
  | _, _, .nil => .nil
  | _, _, .cons k h r => .cons (Den.off s k) (Den.off s h) (DenKV.off s r)
theorem DenAll.off (s : SameX G G') : ∀ {vs : List V} {ds : List D}, DenAll K G vs ds → DenAll K G' vs ds
  | _, _, .nil => .nil
  | _, _, .cons h r => .cons (Den.off s h) (DenAll.off s r)
theorem DenFs.off (s : SameX G G') : ∀ {vs : List (Str × V)} {ds : List (D × D)}, DenFs K G vs ds → DenFs K G' vs ds
  | _, _, .nil => .nil
  | _, _, .cons h r => .cons (Den.off s h) (DenFs.off s r)
end
theorem KVsD.off (s : SameX G G') : ∀ {xs : List (Key × V)} {kvs : List (Key × D)}, KVsD K G xs kvs → KVsD K G' xs kvs
  | _, _, .nil => .nil
  | _, _, .cons a b r => .cons (a.off s) (b.off s) (KVsD.off s r)
end
theorem SameX.of {G G' : Hp} (s : Same G G') : SameX G G' := fun b o e _ => s b o e
theorem KVsD.length {K : PySem.W.Frag} {G : Hp} : ∀ {xs : List (Key × V)} {kvs : List (Key × D)}, KVsD K G xs kvs → xs.length = kvs.length
  | _, _, .nil => rfl
  | _, _, .cons _ _ r => congrArg (· + 1) (KVsD.length r)
inductive FV where
  | d (x : D) | l (xs : List D) | k (kvs : List (Key × D))
def encKs (kvs : List (Key × D)) : List (D × D) := kvs.map fun p => (kD p.1, p.2)
def fvD : FV → D
  | .d x => x
  | .l xs => .list xs
  | .k kvs => .dict ((.none, .bool true) :: encKs kvs)
def fsD (fs : List (Str × FV)) : List (D × D) := fs.map fun p => (.str p.1, fvD p.2)
def objD (x : Str) (fs : List (Str × FV)) : D := .dict ((.none, .str x) :: fsD fs)
inductive MO (S : Type) where
  | d (x : D) | lst (xs : List D) | st (s : S) | scr (ns : List Int) | dic (kvs : List (Key × D)) | lk (kvs : List (Key × D)) | dp (x : D) | obj (x : Str) (fs : List (Str × FV))
abbrev DS (S : Type) := List (Option (MO S))
def ViewAt (K : PySem.W.Frag) (G : Hp) {S : Type} (v : V) : MO S → Prop
  | .d x => Den K G v x
  | .lst xs => Den K G v (.list xs)
  | .st _ => True
  | .scr ns => ∃ a, v = .ref a ∧ SqL K G a (ns.map V.int)
  | .dic kvs => ∃ a xs, v = .ref a ∧ G a = some (.dK xs) ∧ KVsD K G xs kvs
  | .lk kvs => ∃ a o xs, v = .ref a ∧ G a = some (.frz o (.dK xs)) ∧ xs.length ≤ sizeLine ∧ KVsD K G xs kvs
  | .dp _ => True
  | .obj x fs => Den K G v (objD x fs)
structure View (K : PySem.W.Frag) (G : Hp) {S : Type} (σ : L2.St) (ds : DS S) : Prop where
  len : ds.length = σ.length
  has : ∀ (i : Nat) (m : MO S), ds[i]? = some (some m) → ∃ v, σ[i]? = some (some v) ∧ ViewAt K G v m
theorem sql_mono {K : PySem.W.Frag} {G G' : Hp} {a : Addr} {xs : List V} (s : Same G G') (h : SqL K G a xs) : SqL K G' a xs := s.seq h
theorem sqt_mono {K : PySem.W.Frag} {G G' : Hp} {a : Addr} {xs : List V} (s : Same G G') (h : SqT K G a xs) : SqT K G' a xs := by
  rcases h with (h | ⟨o, h⟩) | h
  · exact .inl (.inl (s _ _ h))
  · exact .inl (.inr ⟨o, s _ _ h⟩)
  · exact .inr h
theorem rd_mono {G G' : Hp} {a : Addr} {u : HO} (s : Same G G') (h : Rd G a u) : Rd G' a u := by
  rcases h with h | ⟨o, h⟩
  · exact .inl (s _ _ h)
  · exact .inr ⟨o, s _ _ h⟩
theorem ViewAt.mono {K : PySem.W.Frag} {G G' : Hp} {S : Type} {v : V} {m : MO S} (s : Same G G') (h : ViewAt K G v m) : ViewAt K G' v m := by
  cases m with
  | d x => exact Den.mono s h
  | lst xs => exact Den.mono s h
  | st _ => trivial
  | scr ns => obtain ⟨a, e, h⟩ := h; exact ⟨a, e, sql_mono s h⟩
  | dic kvs => obtain ⟨a, xs, e, q, h⟩ := h; exact ⟨a, xs, e, s _ _ q, h.mono s⟩
  | lk kvs => obtain ⟨a, o, xs, e, q, z, h⟩ := h; exact ⟨a, o, xs, e, s _ _ q, z, h.mono s⟩
  | dp _ => trivial
  | obj x fs => exact Den.mono s h
theorem View.mono {K : PySem.W.Frag} {G G' : Hp} {S : Type} {σ : L2.St} {ds : DS S} (s : Same G G') (h : View K G σ ds) : View K G' σ ds := ⟨h.len, fun i m e => by
  obtain ⟨v, h1, h2⟩ := h.has i m e
  exact ⟨v, h1, h2.mono s⟩⟩
section
variable {S : Type}
def tP (K : PySem.W.Frag) (g : DS S → Option D) : TE := fun σ H Q => ∃ G ds d, Same G H ∧ View K G σ ds ∧ g ds = some d ∧ ∀ v G' H', Gr G H G' H' → Den K G' v d → Q v H'
def tF (K : PySem.W.Frag) (g : DS S → Option (List D)) : TE := fun σ H Q => ∃ G ds xs, Same G H ∧ View K G σ ds ∧ g ds = some xs ∧
  ∀ p vs G' H', Gr G H G' H' → G' p = none → H p = none → H' p = some (.lst vs) → vs.length ≤ sizeLine → DenAll K G' vs xs → Q (.ref p) H'
def tPT (K : PySem.W.Frag) (g : DS S → Option Bool) : TT := fun σ H Q => ∃ G ds b, Same G H ∧ View K G σ ds ∧ g ds = some b ∧ ∀ G' H', Gr G H G' H' → Q b H'
def tPA (K : PySem.W.Frag) (g : DS S → Option (List D)) : TA := fun σ H Q => ∃ G ds xs, Same G H ∧ View K G σ ds ∧ g ds = some xs ∧ ∀ vs G' H', Gr G H G' H' → DenAll K G' vs xs → Q vs H'
end
theorem PE.imp {X : Cx} {e : Expr} {t t' : TE} (h : PE X e t) (i : ∀ σ H Q, t' σ H Q → t σ H Q) : PE X e t' := ⟨fun pins s σ H Q I q => h.run pins s σ H Q I (i σ H Q q)⟩
theorem PT.imp {X : Cx} {e : Expr} {t t' : TT} (h : PT X e t) (i : ∀ σ H Q, t' σ H Q → t σ H Q) : PT X e t' := ⟨fun pins s σ H Q I q => h.run pins s σ H Q I (i σ H Q q)⟩
theorem PW.imp {X : Cx} {e : Expr} {t t' : TT} (h : PW X e t) (i : ∀ σ H Q, t' σ H Q → t σ H Q) : PW X e t' := ⟨fun wh pins s σ H Q I q => h.run wh pins s σ H Q I (i σ H Q q)⟩
theorem PTs.imp {X : Cx} {e : List Expr} {t t' : TT} (h : PTs X e t) (i : ∀ σ H Q, t' σ H Q → t σ H Q) : PTs X e t' := ⟨fun pins s σ H Q I q => h.run pins s σ H Q I (i σ H Q q)⟩
theorem PA.imp {X : Cx} {e : List Expr} {t t' : TA} (h : PA X e t) (i : ∀ σ H Q, t' σ H Q → t σ H Q) : PA X e t' := ⟨fun pos pins s σ H Q I q => h.run pos pins s σ H Q I (i σ H Q q)⟩
theorem PS.imp {X : Cx} {e : Stmt} {t t' : TS} (h : PS X e t) (i : ∀ D σ H, t' D σ H → t D σ H) : PS X e t' := ⟨fun pins s σ H D I q => h.run pins s σ H D I (i D σ H q)⟩
theorem PSs.imp {X : Cx} {e : List Stmt} {t t' : TS} (h : PSs X e t) (i : ∀ D σ H, t' D σ H → t D σ H) : PSs X e t' := ⟨fun pins s σ H D I q => h.run pins s σ H D I (i D σ H q)⟩
section
variable {S : Type} {X : Cx} {a b c e : Expr} {es : List Expr} {ga gb gc : DS S → Option D} {pos : Pos}
def gVar (i : Nat) : DS S → Option D := fun ds => match ds[i]? with
  | some (some (.d x)) => some x
  | some (some (.lst xs)) => some (.list xs)
  | some (some (.obj x fs)) => some (objD x fs)
  | _ => none
theorem ep_var {i : Nat} (h : PE X e (tVar i)) : PE X e (tP X.K (gVar (S := S) i)) := PE.imp h fun σ H Q ⟨G, ds, d, s, w, e, k⟩ => by
  unfold gVar at e
  split at e
  · rename_i x q
    cases e
    obtain ⟨v, h1, h2⟩ := w.has i _ q
    exact ⟨v, h1, k v G H (.refl s) h2⟩
  · rename_i x q
    cases e
    obtain ⟨v, h1, h2⟩ := w.has i _ q
    exact ⟨v, h1, k v G H (.refl s) h2⟩
  · rename_i x q
    cases e
    obtain ⟨v, h1, h2⟩ := w.has i _ q
    exact ⟨v, h1, k v G H (.refl s) h2⟩
  · cases e
def gC (d : D) : DS S → Option D := fun _ => some d
theorem ep_c {v : V} {d : D} (h : PE X e (tC v)) (r : ∀ G, Den X.K G v d) : PE X e (tP X.K (gC (S := S) d)) := PE.imp h fun σ H Q ⟨G, ds, d, s, w, e, k⟩ => by
  cases e
  exact k v G H (.refl s) (r G)
theorem ep_int {i : Int} {j pos} : PE X (.Constant (.int i) j pos) (tP X.K (gC (S := S) (.int i))) := ep_c pe_int fun _ => .int i
theorem ep_bl {b : Bool} {j pos} : PE X (.Constant (.bool b) j pos) (tP X.K (gC (S := S) (.bool b))) := ep_c pe_bl fun _ => .bl b
theorem ep_non {j pos} : PE X (.Constant .none j pos) (tP X.K (gC (S := S) .none)) := ep_c pe_non fun _ => .non
theorem ep_str {x : Str} {j pos} (h : x.length ≤ sizeLine := by decide +kernel) (o : PyData.strOk x = true := by decide +kernel) : PE X (.Constant (.str x) j pos) (tP X.K (gC (S := S) (.str x))) := ep_c pe_str fun _ => .str x h o
def R2D (K : PySem.W.Frag) (r : R2) (g : D → D → Option D) : Prop := ∀ x y dx dy d G H (Q : VK), Same G H → Den K G x dx → Den K G y dy → g dx dy = some d → (∀ v G' H', Gr G H G' H' → Den K G' v d → Q v H') → r x y H Q
def R2F (K : PySem.W.Frag) (r : R2) (g : D → D → Option (List D)) : Prop := ∀ x y dx dy xs G H (Q : VK), Same G H → Den K G x dx → Den K G y dy → g dx dy = some xs →
  (∀ p vs G' H', Gr G H G' H' → G' p = none → H p = none → H' p = some (.lst vs) → vs.length ≤ sizeLine → DenAll K G' vs xs → Q (.ref p) H') → r x y H Q
def gOp (g : D → D → Option D) (ga gb : DS S → Option D) : DS S → Option D := fun ds => (ga ds).bind fun x => (gb ds).bind fun y => g x y
theorem p_op {r : R2} {g : D → D → Option D} (hr : R2D X.K r g) {σ : L2.St} {H : Hp} {Q : VK} (h : tP X.K (gOp g ga gb) σ H Q) : tOp r (tP X.K ga) (tP X.K gb) σ H Q := by
  obtain ⟨G, ds, d, s, w, e, k⟩ := h
  unfold gOp at e
  cases ea : ga ds with
  | none => rw [ea] at e; cases e
  | some x =>
    rw [ea] at e
    cases eb : gb ds with
    | none => simp [eb] at e
    | some y =>
      simp only [eb, Option.bind_some] at e
      refine ⟨G, ds, x, s, w, ea, fun v G1 H1 g1 d1 => ?_⟩
      refine ⟨G1, ds, y, g1.sub, w.mono g1.keep, eb, fun u G2 H2 g2 d2 => ?_⟩
      exact hr v u x y d G2 H2 Q g2.sub (d1.mono g2.keep) d2 e fun z G3 H3 g3 d3 => k z G3 H3 ((g1.trans g2).trans g3) d3
theorem ep_bin {op : Operator} {r : R2} {g : D → D → Option D} (ho : OpR X (binaryOp op) r) (hr : R2D X.K r g) (ha : PE X a (tP X.K ga)) (hb : PE X b (tP X.K gb)) : PE X (.BinOp a op b pos) (tP X.K (gOp g ga gb)) :=
  PE.imp (pe_op ho ha hb) fun _ _ _ h => p_op hr h
theorem ep_cmp {op : CmpOp} {r : R2} {g : D → D → Option D} (ho : OpR X (compareOp op) r) (hr : R2D X.K r g) (ha : PE X a (tP X.K ga)) (hb : PE X b (tP X.K gb)) (hm : behindInMarks op b = false) : PE X (.Compare a [op] [b] pos) (tP X.K (gOp g ga gb)) :=
  PE.imp (pe_cmpR ho ha hb hm) fun _ _ _ h => p_op hr h
theorem ep_ix {r : R2} {g : D → D → Option D} (ho : IxR X r) (hr : R2D X.K r g) (ha : PE X a (tP X.K ga)) (hb : PE X b (tP X.K gb)) (hs : PlainIx b) : PE X (.Subscript a b pos) (tP X.K (gOp g ga gb)) :=
  PE.imp (pe_ix ho ha hb hs) fun _ _ _ h => p_op hr h
def gOpF (g : D → D → Option (List D)) (ga gb : DS S → Option D) : DS S → Option (List D) := fun ds => (ga ds).bind fun x => (gb ds).bind fun y => g x y
def gL (g : DS S → Option (List D)) : DS S → Option D := fun ds => (g ds).map .list
theorem ep_f {g : DS S → Option (List D)} (h : PE X e (tF X.K g)) : PE X e (tP X.K (gL g)) := PE.imp h fun σ H Q ⟨G, ds, d, s, w, e, k⟩ => by
  unfold gL at e
  cases eg : g ds with
  | none => rw [eg] at e; cases e
  | some xs =>
    rw [eg] at e
    cases e
    refine ⟨G, ds, xs, s, w, eg, fun p vs G' H' g h1 h2 h3 z d => ?_⟩
    refine k (.ref p) (upd G' p (.lst vs)) H' (g.freeze h1 h2 h3) (.lst upd_same z (d.mono fun b u e => ?_))
    rw [upd_ne (ne_of_none e h1)]; exact e
def R1D (K : PySem.W.Frag) (r : V → Hp → VK → Prop) (g : D → Option D) : Prop := ∀ x dx d G H (Q : VK), Same G H → Den K G x dx → g dx = some d → (∀ v G' H', Gr G H G' H' → Den K G' v d → Q v H') → r x H Q
def gUn (g : D → Option D) (ga : DS S → Option D) : DS S → Option D := fun ds => (ga ds).bind g
theorem ep_un {op : UnaryOp} {r : V → Hp → VK → Prop} {g : D → Option D} (ho : UnR X (unaryOp op) r) (hr : R1D X.K r g) (ha : PE X a (tP X.K ga)) : PE X (.UnaryOp op a pos) (tP X.K (gUn g ga)) :=
  PE.imp (pe_un ho ha) fun σ H Q ⟨G, ds, d, s, w, e, k⟩ => by
    unfold gUn at e
    cases ea : ga ds with
    | none => rw [ea] at e; cases e
    | some x =>
      rw [ea] at e
      refine ⟨G, ds, x, s, w, ea, fun v G1 H1 g1 d1 => ?_⟩
      exact hr v x d G1 H1 Q g1.sub d1 e fun z G3 H3 g3 d3 => k z G3 H3 (g1.trans g3) d3
def gNil : DS S → Option (List D) := fun _ => some []
def gCons (g : DS S → Option D) (r : DS S → Option (List D)) : DS S → Option (List D) := fun ds => (g ds).bind fun x => (r ds).bind fun xs => some (x :: xs)
theorem ap_nil : PA X [] (tPA X.K (gNil (S := S))) := PA.imp pa_nil fun σ H Q ⟨G, ds, d, s, w, e, k⟩ => by
  cases e
  exact k [] G H (.refl s) .nil
theorem ap_cons {gr : DS S → Option (List D)} (ha : PE X e (tP X.K ga)) (hr : PA X es (tPA X.K gr)) (hs : starEach (e :: es) X.env = (false, eval e X.env) :: starEach es X.env := by rfl) : PA X (e :: es) (tPA X.K (gCons ga gr)) :=
  PA.imp (pa_cons ha hr hs) fun σ H Q ⟨G, ds, d, s, w, e, k⟩ => by
    unfold gCons at e
    cases ea : ga ds with
    | none => rw [ea] at e; cases e
    | some x =>
      rw [ea] at e
      cases eb : gr ds with
      | none => simp [eb] at e
      | some xs =>
        simp only [eb, Option.bind_some] at e
        cases e
        refine ⟨G, ds, x, s, w, ea, fun v G1 H1 g1 d1 => ?_⟩
        exact ⟨G1, ds, xs, g1.sub, w.mono g1.keep, eb, fun vs G2 H2 g2 d2 => k (v :: vs) G2 H2 (g1.trans g2) (.cons (d1.mono g2.keep) d2)⟩
def gTup (g : DS S → Option (List D)) : DS S → Option D := fun ds => (g ds).bind fun xs => if xs.length ≤ sizeLine then some (.tuple xs) else none
theorem ep_tup {g : DS S → Option (List D)} {x1} (h : PA X es (tPA X.K g)) : PE X (.Tuple es x1 pos) (tP X.K (gTup g)) := PE.imp (pe_tupF h) fun σ H Q ⟨G, ds, d, s, w, e, k⟩ => by
  unfold gTup at e
  cases eg : g ds with
  | none => rw [eg] at e; cases e
  | some xs =>
    simp only [eg, Option.bind_some] at e
    split at e
    · cases e
      rename_i hz
      refine ⟨G, ds, xs, s, w, eg, fun vs G1 H1 g1 d1 => ⟨by rw [d1.length]; exact hz, fun p o dn hp => ?_⟩⟩
      have hg := g1.sub.free hp
      exact k (.ref p) (upd G1 p (.frz o (.tup vs))) _ (g1.trans (.upd g1.sub hp)) (.tup (PqT.new dn) (by rw [d1.length]; exact hz) (d1.mono fun b u e => by rw [upd_ne (ne_of_none e hg)]; exact e))
    · cases e
def gLst (g : DS S → Option (List D)) : DS S → Option (List D) := fun ds => (g ds).bind fun xs => if xs.length ≤ sizeLine then some xs else none
theorem ef_lst {g : DS S → Option (List D)} (h : PA X es (tPA X.K g)) : PE X (.List es pos) (tF X.K (gLst g)) := PE.imp (pe_lst h) fun σ H Q ⟨G, ds, d, s, w, e, k⟩ => by
  unfold gLst at e
  cases eg : g ds with
  | none => rw [eg] at e; cases e
  | some xs =>
    simp only [eg, Option.bind_some] at e
    split at e
    · cases e
      rename_i hz
      refine ⟨G, ds, _, s, w, eg, fun vs G1 H1 g1 d1 => ⟨by rw [d1.length]; exact hz, fun p hp => ?_⟩⟩
      exact k p vs G1 (upd H1 p (.lst vs)) (g1.trans (.own g1.sub hp)) (g1.sub.free hp) (g1.all.free hp) upd_same (by rw [d1.length]; exact hz) d1
    · cases e
def truD : D → Option Bool
  | .none => some false
  | .bool b => some b
  | .int i => some (i != 0)
  | .str x => some ((x.length : Int) != 0)
  | .list xs => some (!xs.isEmpty)
  | .tuple xs => some (!xs.isEmpty)
  | .dict _ => none
theorem isEmpty_den {K : PySem.W.Frag} {G : Hp} {vs : List V} {ds : List D} (h : DenAll K G vs ds) : vs.isEmpty = ds.isEmpty := by cases h <;> rfl
theorem truD_ok {K : PySem.W.Frag} {G H : Hp} {v : V} {d : D} {k : Bool} (s : Same G H) (h : Den K G v d) (e : truD d = some k) : TruV K v H k := by
  cases h with
  | non => cases e; rfl
  | bl b => cases e; rfl
  | int i => cases e; rfl
  | str x hx ho => cases e; exact ⟨hx, rfl⟩
  | lst q z r => cases e; exact .inl ⟨_, SqL.of (s _ _ q), by rw [isEmpty_den r]⟩
  | tup q z r => cases e; exact .inr (.inl ⟨_, sqt_mono s q.sq, by rw [isEmpty_den r]⟩)
  | emp q => cases e
  | dct _ _ _ => cases e
  | obj _ _ _ => cases e
def gTr (g : DS S → Option D) : DS S → Option Bool := fun ds => (g ds).bind truD
theorem p_tr {σ : L2.St} {H : Hp} {Q : Bool → Hp → Prop} (h : tPT X.K (gTr ga) σ H Q) : tP X.K ga σ H fun x H' => ∃ k, TruV X.K x H' k ∧ Q k H' := by
  obtain ⟨G, ds, b, s, w, e, k⟩ := h
  unfold gTr at e
  cases ea : ga ds with
  | none => rw [ea] at e; cases e
  | some x =>
    rw [ea] at e
    exact ⟨G, ds, x, s, w, ea, fun v G1 H1 g1 d1 => ⟨b, truD_ok g1.sub d1 e, k G1 H1 g1⟩⟩
theorem tp_tr (ha : PE X a (tP X.K ga)) (he : ∀ whole, isTrue a X.env whole = (do let v ← whole; standAt a.pos; holding [v] (truthy v)) := by intro _; rfl) : PT X a (tPT X.K (gTr ga)) :=
  PT.imp (pt_truth ha he) fun _ _ _ h => p_tr h
def gB (g : DS S → Option D) : DS S → Option Bool := fun ds => match g ds with
  | some (.bool b) => some b
  | _ => none
theorem tp_cmp {op : CmpOp} {r : R2} {g : D → D → Option D} (ho : OpR X (compareOp op) r) (hr : R2D X.K r g) (ha : PE X a (tP X.K ga)) (hb : PE X b (tP X.K gb)) (hm : behindInMarks op b = false) : PT X (.Compare a [op] [b] pos) (tPT X.K (gB (gOp g ga gb))) :=
  PT.imp (pt_cmpR ho ha hb hm) fun σ H Q ⟨G, ds, b, s, w, e, k⟩ => by
    unfold gB at e
    split at e
    · cases e
      rename_i eg
      refine p_op (g := g) hr ⟨G, ds, _, s, w, eg, fun v G1 H1 g1 d1 => ?_⟩
      cases d1
      exact ⟨_, rfl, k G1 H1 g1⟩
    · cases e
def gNot (g : DS S → Option Bool) : DS S → Option Bool := fun ds => (g ds).map (!·)
theorem tp_not {g : DS S → Option Bool} (h : PT X a (tPT X.K g)) : PT X (.UnaryOp .Not a pos) (tPT X.K (gNot g)) := PT.imp (pt_not h) fun σ H Q ⟨G, ds, b, s, w, e, k⟩ => by
  unfold gNot at e
  cases eg : g ds with
  | none => rw [eg] at e; cases e
  | some c =>
    rw [eg] at e
    cases e
    exact ⟨G, ds, c, s, w, eg, fun G1 H1 g1 => k G1 H1 g1⟩
def gAnd (g h : DS S → Option Bool) : DS S → Option Bool := fun ds => (g ds).bind fun b => if b then h ds else some false
def gOr (g h : DS S → Option Bool) : DS S → Option Bool := fun ds => (g ds).bind fun b => if b then some true else h ds
variable {tests : List Expr} {h1 h2 : DS S → Option Bool}
theorem p_and {σ : L2.St} {H : Hp} {Q : Bool → Hp → Prop} (h : tPT X.K (gAnd h1 h2) σ H Q) : tAnd (tPT X.K h1) (tPT X.K h2) σ H Q := by
  obtain ⟨G, ds, b, s, w, e, k⟩ := h
  unfold gAnd at e
  cases e1 : h1 ds with
  | none => rw [e1] at e; cases e
  | some c =>
    rw [e1] at e
    refine ⟨G, ds, c, s, w, e1, fun G1 H1 g1 => ?_⟩
    cases c with
    | true => exact iteT ⟨G1, ds, b, g1.sub, w.mono g1.keep, by simpa using e, fun G2 H2 g2 => k G2 H2 (g1.trans g2)⟩
    | false =>
      have e' : b = false := by simpa using e.symm
      subst e'
      exact iteF (k G1 H1 g1)
theorem p_or {σ : L2.St} {H : Hp} {Q : Bool → Hp → Prop} (h : tPT X.K (gOr h1 h2) σ H Q) : tOr (tPT X.K h1) (tPT X.K h2) σ H Q := by
  obtain ⟨G, ds, b, s, w, e, k⟩ := h
  unfold gOr at e
  cases e1 : h1 ds with
  | none => rw [e1] at e; cases e
  | some c =>
    rw [e1] at e
    refine ⟨G, ds, c, s, w, e1, fun G1 H1 g1 => ?_⟩
    cases c with
    | false => exact iteF ⟨G1, ds, b, g1.sub, w.mono g1.keep, by simpa using e, fun G2 H2 g2 => k G2 H2 (g1.trans g2)⟩
    | true =>
      have e' : b = true := by simpa using e.symm
      subst e'
      exact iteT (k G1 H1 g1)
end
section
variable {S : Type} {X : Cx} {a b c e : Expr} {es rest : List Expr} {ga gb gc : DS S → Option D} {h1 h2 : DS S → Option Bool} {pos : Pos}
theorem tw_and1 (ha : PT X a (tPT X.K h1)) : PW X (.BoolOp .And [a] pos) (tPT X.K h1) := pw_and1 ha
theorem tw_or1 (ha : PT X a (tPT X.K h1)) : PW X (.BoolOp .Or [a] pos) (tPT X.K h1) := pw_or1 ha
theorem tw_and (ha : PT X a (tPT X.K h1)) (hb : PW X (.BoolOp .And (b :: rest) pos) (tPT X.K h2)) : PW X (.BoolOp .And (a :: b :: rest) pos) (tPT X.K (gAnd h1 h2)) := PW.imp (pw_and ha hb) fun _ _ _ h => p_and h
theorem tw_or (ha : PT X a (tPT X.K h1)) (hb : PW X (.BoolOp .Or (b :: rest) pos) (tPT X.K h2)) : PW X (.BoolOp .Or (a :: b :: rest) pos) (tPT X.K (gOr h1 h2)) := PW.imp (pw_or ha hb) fun _ _ _ h => p_or h
def gOrV (ga gb : DS S → Option D) : DS S → Option D := fun ds => (ga ds).bind fun x => (truD x).bind fun k => if k then some x else gb ds
def gAndV (ga gb : DS S → Option D) : DS S → Option D := fun ds => (ga ds).bind fun x => (truD x).bind fun k => if k then gb ds else some x
def gNotV (ga : DS S → Option D) : DS S → Option D := fun ds => (ga ds).bind fun x => (truD x).map fun k => .bool (!k)
theorem ep_one {op} (h : PE X a (tP X.K ga)) : PE X (.BoolOp op [a] pos) (tP X.K ga) := pe_one h
theorem ep_or (ha : PE X a (tP X.K ga)) (hb : PE X (.BoolOp .Or (b :: rest) pos) (tP X.K gb)) : PE X (.BoolOp .Or (a :: b :: rest) pos) (tP X.K (gOrV ga gb)) := PE.imp (pe_orT ha hb) fun σ H Q ⟨G, ds, d, s, w, e, k⟩ => by
  unfold gOrV at e
  cases ea : ga ds with
  | none => rw [ea] at e; cases e
  | some x =>
    rw [ea] at e
    cases et : truD x with
    | none => simp [et] at e
    | some t =>
      simp only [et, Option.bind_some] at e
      refine ⟨G, ds, x, s, w, ea, fun v G1 H1 g1 d1 => ⟨t, truD_ok g1.sub d1 et, ?_⟩⟩
      cases t with
      | true =>
        have e' : x = d := by simpa using e
        subst e'
        exact iteT (k v G1 H1 g1 d1)
      | false => exact iteF ⟨G1, ds, d, g1.sub, w.mono g1.keep, by simpa using e, fun u G2 H2 g2 d2 => k u G2 H2 (g1.trans g2) d2⟩
theorem ep_and (ha : PE X a (tP X.K ga)) (hb : PE X (.BoolOp .And (b :: rest) pos) (tP X.K gb)) : PE X (.BoolOp .And (a :: b :: rest) pos) (tP X.K (gAndV ga gb)) := PE.imp (pe_andT ha hb) fun σ H Q ⟨G, ds, d, s, w, e, k⟩ => by
  unfold gAndV at e
  cases ea : ga ds with
  | none => rw [ea] at e; cases e
  | some x =>
    rw [ea] at e
    cases et : truD x with
    | none => simp [et] at e
    | some t =>
      simp only [et, Option.bind_some] at e
      refine ⟨G, ds, x, s, w, ea, fun v G1 H1 g1 d1 => ⟨t, truD_ok g1.sub d1 et, ?_⟩⟩
      cases t with
      | false =>
        have e' : x = d := by simpa using e
        subst e'
        exact iteF (k v G1 H1 g1 d1)
      | true => exact iteT ⟨G1, ds, d, g1.sub, w.mono g1.keep, by simpa using e, fun u G2 H2 g2 d2 => k u G2 H2 (g1.trans g2) d2⟩
theorem ep_not (ha : PE X a (tP X.K ga)) : PE X (.UnaryOp .Not a pos) (tP X.K (gNotV ga)) := PE.imp (pe_notT ha) fun σ H Q ⟨G, ds, d, s, w, e, k⟩ => by
  unfold gNotV at e
  cases ea : ga ds with
  | none => rw [ea] at e; cases e
  | some x =>
    rw [ea] at e
    cases et : truD x with
    | none => simp [et] at e
    | some t =>
      simp only [et, Option.map_some, Option.bind_some] at e
      cases e
      exact ⟨G, ds, x, s, w, ea, fun v G1 H1 g1 d1 => ⟨t, truD_ok g1.sub d1 et, k _ G1 H1 g1 (.bl _)⟩⟩
def gIf (h : DS S → Option Bool) (ga gb : DS S → Option D) : DS S → Option D := fun ds => (h ds).bind fun k => if k then ga ds else gb ds
theorem ep_if (hc : PT X c (tPT X.K h1)) (ha : PE X a (tP X.K ga)) (hb : PE X b (tP X.K gb)) : PE X (.IfExp c a b pos) (tP X.K (gIf h1 ga gb)) := PE.imp (pe_ifExp hc ha hb) fun σ H Q ⟨G, ds, d, s, w, e, k⟩ => by
  unfold gIf at e
  cases ea : h1 ds with
  | none => rw [ea] at e; cases e
  | some t =>
    rw [ea] at e
    refine ⟨G, ds, t, s, w, ea, fun G1 H1 g1 => ?_⟩
    cases t with
    | true => exact iteT ⟨G1, ds, d, g1.sub, w.mono g1.keep, by simpa using e, fun u G2 H2 g2 d2 => k u G2 H2 (g1.trans g2) d2⟩
    | false => exact iteF ⟨G1, ds, d, g1.sub, w.mono g1.keep, by simpa using e, fun u G2 H2 g2 d2 => k u G2 H2 (g1.trans g2) d2⟩
def gChain (g g' : D → D → Option D) (ga gb gc : DS S → Option D) : DS S → Option D := fun ds => (ga ds).bind fun x => (gb ds).bind fun y => (g x y).bind fun z => match z with
  | .bool true => (gc ds).bind fun u => g' y u
  | .bool false => some (.bool false)
  | _ => none
theorem ep_chain {op op' : CmpOp} {r r' : R2} {g g' : D → D → Option D} (ho : OpR X (compareOp op) r) (hr : R2D X.K r g) (ho' : OpR X (compareOp op') r') (hr' : R2D X.K r' g') (ha : PE X a (tP X.K ga)) (hb : PE X b (tP X.K gb)) (hc : PE X c (tP X.K gc))
    (hm : lastMarks [op, op'] [b, c] = false := by with_unfolding_all rfl) : PE X (.Compare a [op, op'] [b, c] pos) (tP X.K (gChain g g' ga gb gc)) := PE.imp (pe_chain ho ho' ha hb hc hm) fun σ H Q ⟨G, ds, d, s, w, e, k⟩ => by
  unfold gChain at e
  cases ea : ga ds with
  | none => rw [ea] at e; cases e
  | some x =>
    cases eb : gb ds with
    | none => simp [ea, eb] at e
    | some y =>
      cases ez : g x y with
      | none => simp [ea, eb, ez] at e
      | some z =>
        simp only [ea, eb, ez, Option.bind_some] at e
        refine ⟨G, ds, x, s, w, ea, fun v G1 H1 g1 d1 => ?_⟩
        refine ⟨G1, ds, y, g1.sub, w.mono g1.keep, eb, fun u G2 H2 g2 d2 => ?_⟩
        refine hr v u x y z G2 H2 _ g2.sub (d1.mono g2.keep) d2 ez fun q G3 H3 g3 d3 => ?_
        cases z with
        | bool t =>
          cases d3
          refine ⟨t, rfl, ?_⟩
          cases t with
          | true =>
            cases ec : gc ds with
            | none => simp [ec] at e
            | some o =>
              simp only [ec, Option.bind_some] at e
              refine iteT ⟨G3, ds, o, g3.sub, w.mono ((g1.trans g2).trans g3).keep, ec, fun p G4 H4 g4 d4 => ?_⟩
              exact hr' u p y o d G4 H4 Q g4.sub (d2.mono (g3.trans g4).keep) d4 e fun r G5 H5 g5 d5 => k r G5 H5 ((((g1.trans g2).trans g3).trans g4).trans g5) d5
          | false =>
            have e' : d = .bool false := by simpa using e.symm
            subst e'
            exact iteF (k _ G3 H3 ((g1.trans g2).trans g3) (.bl false))
        | _ => cases e
def tPO (K : PySem.W.Frag) (g : DS S → Option (Option Int)) : TO := fun σ H Q => ∃ G ds o, Same G H ∧ View K G σ ds ∧ g ds = some o ∧ ∀ G' H', Gr G H G' H' → Q o H'
theorem PO.imp {X : Cx} {e : Option Expr} {t t' : TO} (h : PO X e t) (i : ∀ σ H Q, t' σ H Q → t σ H Q) : PO X e t' := ⟨fun pins s σ H Q I q => h.run pins s σ H Q I (i σ H Q q)⟩
def gNoPart : DS S → Option (Option Int) := fun _ => some none
def gPart (g : DS S → Option D) : DS S → Option (Option Int) := fun ds => match g ds with
  | some (.int i) => some (some i)
  | _ => none
theorem op_no : PO X none (tPO X.K (gNoPart (S := S))) := PO.imp po_none fun σ H Q ⟨G, ds, d, s, w, e, k⟩ => by
  cases e
  exact k G H (.refl s)
theorem op_part (h : PE X e (tP X.K ga)) : PO X (some e) (tPO X.K (gPart ga)) := PO.imp (po_some h) fun σ H Q ⟨G, ds, d, s, w, e, k⟩ => by
  unfold gPart at e
  split at e
  · cases e
    rename_i i ea
    refine ⟨G, ds, .int i, s, w, ea, fun v G1 H1 g1 d1 => ?_⟩
    cases d1
    exact ⟨i, rfl, k G1 H1 g1⟩
  · cases e
def cutD (xs : List D) (lo hi : Option Int) : List D := (xs.drop (HT.sIx xs.length 0 lo)).take (HT.sIx xs.length xs.length hi - HT.sIx xs.length 0 lo)
theorem den_cut {K : PySem.W.Frag} {G : Hp} {vs : List V} {ds : List D} (h : DenAll K G vs ds) (lo hi : Option Int) : DenAll K G (cutV vs lo hi) (cutD ds lo hi) := by
  unfold cutV cutD
  rw [h.length]
  exact (h.drop _).take _
def slL : D → Option Int → Option Int → Option (List D)
  | .list xs, lo, hi => some (cutD xs lo hi)
  | _, _, _ => none
variable {lo hi : Option Expr} {gl gh : DS S → Option (Option Int)} {p2 : Pos}
def gSlF (ga : DS S → Option D) (gl gh : DS S → Option (Option Int)) : DS S → Option (List D) := fun ds => (ga ds).bind fun x => (gl ds).bind fun l => (gh ds).bind fun h => slL x l h
theorem cutV_le (xs : List V) (lo hi : Option Int) : (cutV xs lo hi).length ≤ xs.length := cutV_length xs lo hi
end
section
variable {X : Cx}
end
section
variable {K : PySem.W.Frag} {G : Hp}
mutual
theorem Den.lay : ∀ {v : V} {d : D}, Den K G v d → noD d = true → d.canLay0 = true
  | _, _, .non, _ => rfl
  | _, _, .bl b, _ => rfl
  | _, _, .int i, _ => rfl
  | _, _, .str x _ o, _ => by unfold PyData.canLay0; exact o
  | _, _, .lst _ _ r, h => by unfold PyData.canLay0; exact DenAll.lay r (by unfold noD at h; exact h)
  | _, _, .tup _ _ r, h => by unfold PyData.canLay0; exact DenAll.lay r (by unfold noD at h; exact h)
  | _, _, .emp _, h => by cases h
  | _, _, .dct _ _ _, h => by cases h
  | _, _, .obj _ _ _, h => by cases h
theorem DenAll.lay : ∀ {vs : List V} {ds : List D}, DenAll K G vs ds → noDAll ds = true → PyData.canLayAll0 ds = true
  | _, _, .nil, _ => rfl
  | _, _, .cons h r, e => by
    unfold noDAll at e
    obtain ⟨e1, e2⟩ := Bool.and_eq_true_iff.mp e
    unfold PyData.canLayAll0; rw [Den.lay h e1, DenAll.lay r e2]; rfl
end
theorem strOk_app {x y : Str} (hx : PyData.strOk x = true) (hy : PyData.strOk y = true) : PyData.strOk (x ++ y) = true := by
  unfold PyData.strOk at *
  rw [← Array.all_toList] at *
  rw [show (x ++ y).cps.toList = x.cps.toList ++ y.cps.toList from by show (x.cps ++ y.cps).toList = _; simp, List.all_append, hx, hy]; rfl
theorem strOk_sub {x : Str} {l : List Nat} (hx : PyData.strOk x = true) (h : ∀ c, c ∈ l → c ∈ x.cps.toList) : PyData.strOk ⟨l.toArray⟩ = true := by
  unfold PyData.strOk at *
  rw [← Array.all_toList] at *
  simp only [List.toList_toArray]
  rw [List.all_eq_true] at *
  exact fun c hc => hx c (h c hc)
end
def addD : D → D → Option D
  | .int i, .int j => some (.int (i + j))
  | .str x, .str y => if x.length + y.length ≤ sizeLine then some (.str (x ++ y)) else none
  | .tuple xs, .tuple ys => if xs.length + ys.length ≤ sizeLine then some (.tuple (xs ++ ys)) else none
  | _, _ => none
def addL : D → D → Option (List D)
  | .list xs, .list ys => if xs.length + ys.length ≤ sizeLine then some (xs ++ ys) else none
  | _, _ => none
def subD : D → D → Option D
  | .int i, .int j => some (.int (i - j))
  | _, _ => none
def mulD : D → D → Option D
  | .int i, .int j => if (-(2 ^ 64) < i ∧ i < 2 ^ 64) ∨ (-(2 ^ 64) < j ∧ j < 2 ^ 64) then some (.int (i * j)) else none
  | _, _ => none
def divD : D → D → Option D
  | .int i, .int j => if 0 < j ∧ j.natAbs.log2 < 9000 then some (.int (i / j)) else none
  | _, _ => none
def modD : D → D → Option D
  | .int i, .int j => if 0 < j then some (.int (i % j)) else none
  | _, _ => none
def negD : D → Option D
  | .int i => some (.int (-i))
  | _ => none
def strLt (x y : Str) : Bool := decide (x.cps.toList < y.cps.toList)
def ltD : D → D → Option D
  | .int i, .int j => some (.bool (decide (i < j)))
  | .str x, .str y => some (.bool (strLt x y))
  | _, _ => none
def leD : D → D → Option D
  | .int i, .int j => some (.bool (decide (i ≤ j)))
  | .str x, .str y => some (.bool (!strLt y x))
  | _, _ => none
def gtD : D → D → Option D
  | .int i, .int j => some (.bool (decide (j < i)))
  | .str x, .str y => some (.bool (strLt y x))
  | _, _ => none
def geD : D → D → Option D
  | .int i, .int j => some (.bool (decide (j ≤ i)))
  | .str x, .str y => some (.bool (!strLt x y))
  | _, _ => none
def eqD (x y : D) : Option D := if min x.depth y.depth ≤ 64 ∧ noD x = true ∧ noD y = true then some (.bool (PyData.eqv x y)) else none
def neD (x y : D) : Option D := if min x.depth y.depth ≤ 64 ∧ noD x = true ∧ noD y = true then some (.bool (!PyData.eqv x y)) else none
def anyEq (x : D) (ys : List D) : Bool := ys.any fun z => PyData.eqv z x
def inD : D → D → Option D
  | x, .list ys => if min (PyData.depthAll ys) x.depth ≤ 64 ∧ noD x = true ∧ noDAll ys = true then some (.bool (anyEq x ys)) else none
  | x, .tuple ys => if min (PyData.depthAll ys) x.depth ≤ 64 ∧ noD x = true ∧ noDAll ys = true then some (.bool (anyEq x ys)) else none
  | .str x, .str y => some (.bool (!(Builtin.Str.occurrences y x 0 y.length 1).isEmpty))
  | _, _ => none
def ninD : D → D → Option D
  | x, .list ys => if min (PyData.depthAll ys) x.depth ≤ 64 ∧ noD x = true ∧ noDAll ys = true then some (.bool (!anyEq x ys)) else none
  | x, .tuple ys => if min (PyData.depthAll ys) x.depth ≤ 64 ∧ noD x = true ∧ noDAll ys = true then some (.bool (!anyEq x ys)) else none
  | .str x, .str y => some (.bool (!(!(Builtin.Str.occurrences y x 0 y.length 1).isEmpty)))
  | _, _ => none
def isND : D → D → Option D
  | x, .none => some (.bool (match x with | .none => true | _ => false))
  | _, _ => none
def notND : D → D → Option D
  | x, .none => some (.bool (match x with | .none => false | _ => true))
  | _, _ => none
def ixD : D → D → Option D
  | .list xs, .int i => atI xs i
  | .tuple xs, .int i => atI xs i
  | .str x, .int i => (atI x.cps.toList i).map fun c => .str ⟨#[c]⟩
  | _, _ => none
section
variable {X : Cx} {K : PySem.W.Frag}
theorem r_I0 {f : Int → Int → Int} {g : D → D → Option D} (h : ∀ x y d, g x y = some d → ∃ i j, x = .int i ∧ y = .int j ∧ d = .int (f i j)) : R2D K (rI0 fun i j => .int (f i j)) g := by
  intro x y dx dy d G H Q s d1 d2 e k
  obtain ⟨i, j, rfl, rfl, rfl⟩ := h _ _ _ e
  cases d1; cases d2
  exact ⟨i, j, rfl, rfl, k _ G H (.refl s) (.int _)⟩
theorem r_I {C : Int → Int → Prop} {f : Int → Int → Int} {g : D → D → Option D} (h : ∀ x y d, g x y = some d → ∃ i j, x = .int i ∧ y = .int j ∧ C i j ∧ d = .int (f i j)) : R2D K (rI C fun i j => .int (f i j)) g := by
  intro x y dx dy d G H Q s d1 d2 e k
  obtain ⟨i, j, rfl, rfl, hc, rfl⟩ := h _ _ _ e
  cases d1; cases d2
  exact ⟨i, j, rfl, rfl, hc, k _ G H (.refl s) (.int _)⟩
def rAddD (K : PySem.W.Frag) : R2 := fun x y H Q => rI0 (fun i j => V.int (i + j)) x y H Q ∨ (fun x y H Q => ∃ i j, x = V.str i ∧ y = V.str j ∧ i.length + j.length ≤ sizeLine ∧ Q (.str (i ++ j)) H : R2) x y H Q ∨ rCatF K x y H Q
theorem o_add : OpR X (binaryOp .Add) (rAddD X.K) := OpR.or op_add (OpR.or op_add_str op_catF)
theorem d_add : R2D K (rAddD K) addD := by
  intro x y dx dy d G H Q s d1 d2 e k
  cases d1 with
  | int i =>
    cases d2 with
    | int j => cases e; exact .inl ⟨i, j, rfl, rfl, k _ G H (.refl s) (.int _)⟩
    | _ => cases e
  | str i hi oi =>
    cases d2 with
    | str j hj oj =>
      simp only [addD] at e
      split at e
      · cases e
        rename_i hz
        exact .inr (.inl ⟨i, j, rfl, rfl, hz, k _ G H (.refl s) (.str _ (by show (i.cps ++ j.cps).size ≤ _; rw [Array.size_append]; exact hz) (strOk_app oi oj))⟩)
      · cases e
    | _ => cases e
  | tup q1 z1 r1 =>
    cases d2 with
    | tup q2 z2 r2 =>
      simp only [addD] at e
      split at e
      · cases e
        rename_i vs1 ds1 vs2 ds2 hz
        have hz' := hz
        rw [← r1.length, ← r2.length] at hz
        refine .inr (.inr ⟨_, _, _, _, rfl, rfl, sqt_mono s q1.sq, sqt_mono s q2.sq, hz, fun h0 => ?_, fun h0 h1 => ?_, fun _ _ p o dn hp => ?_⟩)
        · subst h0
          cases r1
          exact k _ G H (.refl s) (.tup q2 z2 r2)
        · subst h1
          cases r2
          exact k _ G H (.refl s) (by rw [List.append_nil]; exact .tup q1 z1 r1)
        · have hg := s.free hp
          exact k _ (upd G p _) _ (.upd s hp) (.tup (PqT.new dn) (by rw [List.length_append]; exact hz) ((r1.append r2).mono fun b u e => by rw [upd_ne (ne_of_none e hg)]; exact e))
      · cases e
    | _ => cases e
  | _ => cases e
theorem d_addL : R2F K rCat addL := by
  intro x y dx dy xs G H Q s d1 d2 e k
  cases d1 with
  | lst q1 z1 r1 =>
    cases d2 with
    | lst q2 z2 r2 =>
      simp only [addL] at e
      split at e
      · cases e
        rename_i hz
        rw [← r1.length, ← r2.length] at hz
        exact ⟨_, _, _, _, rfl, rfl, s _ _ q1, s _ _ q2, hz, fun p hp => k p _ G _ (.own s hp) (s.free hp) hp upd_same (by rw [List.length_append]; exact hz) (r1.append r2)⟩
      · cases e
    | _ => cases e
  | _ => cases e
theorem d_sub : R2D K (rI0 fun i j => .int (i - j)) subD := r_I0 fun x y d e => by
  cases x <;> cases y <;> first | (cases e; exact ⟨_, _, rfl, rfl, rfl⟩) | cases e
theorem d_mul : R2D K (rI CMul fun i j => .int (i * j)) mulD := r_I fun x y d e => by
  cases x <;> cases y <;> first | (simp only [mulD] at e; split at e <;> cases e; exact ⟨_, _, rfl, rfl, by assumption, rfl⟩) | cases e
theorem d_div : R2D K (rI CDivW fun i j => .int (i / j)) divD := r_I fun x y d e => by
  cases x <;> cases y <;> first | (simp only [divD] at e; split at e <;> cases e; exact ⟨_, _, rfl, rfl, by assumption, rfl⟩) | cases e
theorem d_mod : R2D K (rI (fun _ j => 0 < j) fun i j => .int (i % j)) modD := r_I fun x y d e => by
  cases x <;> cases y <;> first | (simp only [modD] at e; split at e <;> cases e; exact ⟨_, _, rfl, rfl, by assumption, rfl⟩) | cases e
theorem d_neg : R1D K (rU fun i => .int (-i)) negD := by
  intro x dx d G H Q s d1 e k
  cases d1 with
  | int i => cases e; exact ⟨i, rfl, k _ G H (.refl s) (.int _)⟩
  | _ => cases e
def rCmpD (p : Int → Int → Bool) (q : Str → Str → Bool) : R2 := fun x y H Q => rI0 (fun i j => V.bl (p i j)) x y H Q ∨ ∃ i j, x = V.str i ∧ y = V.str j ∧ Q (.bl (q i j)) H
theorem o_lt : OpR X (compareOp .Lt) (rCmpD (fun i j => decide (i < j)) strLt) := OpR.or op_lt op_lt_str
theorem o_le : OpR X (compareOp .LtE) (rCmpD (fun i j => decide (i ≤ j)) fun x y => !strLt y x) := OpR.or op_le op_le_str
theorem o_gt : OpR X (compareOp .Gt) (rCmpD (fun i j => decide (j < i)) fun x y => strLt y x) := OpR.or op_gt op_gt_str
theorem o_ge : OpR X (compareOp .GtE) (rCmpD (fun i j => decide (j ≤ i)) fun x y => !strLt x y) := OpR.or op_ge op_ge_str
theorem r_cmp {p : Int → Int → Bool} {q : Str → Str → Bool} {g : D → D → Option D} (h : ∀ x y d, g x y = some d → (∃ i j, x = .int i ∧ y = .int j ∧ d = .bool (p i j)) ∨ ∃ i j, x = .str i ∧ y = .str j ∧ d = .bool (q i j)) : R2D K (rCmpD p q) g := by
  intro x y dx dy d G H Q s d1 d2 e k
  rcases h _ _ _ e with ⟨i, j, rfl, rfl, rfl⟩ | ⟨i, j, rfl, rfl, rfl⟩
  · cases d1; cases d2
    exact .inl ⟨i, j, rfl, rfl, k _ G H (.refl s) (.bl _)⟩
  · cases d1; cases d2
    exact .inr ⟨i, j, rfl, rfl, k _ G H (.refl s) (.bl _)⟩
theorem d_lt : R2D K (rCmpD (fun i j => decide (i < j)) strLt) ltD := r_cmp fun x y d e => by
  cases x <;> cases y <;> first | (cases e; exact .inl ⟨_, _, rfl, rfl, rfl⟩) | (cases e; exact .inr ⟨_, _, rfl, rfl, rfl⟩) | cases e
theorem d_le : R2D K (rCmpD (fun i j => decide (i ≤ j)) fun x y => !strLt y x) leD := r_cmp fun x y d e => by
  cases x <;> cases y <;> first | (cases e; exact .inl ⟨_, _, rfl, rfl, rfl⟩) | (cases e; exact .inr ⟨_, _, rfl, rfl, rfl⟩) | cases e
theorem d_gt : R2D K (rCmpD (fun i j => decide (j < i)) fun x y => strLt y x) gtD := r_cmp fun x y d e => by
  cases x <;> cases y <;> first | (cases e; exact .inl ⟨_, _, rfl, rfl, rfl⟩) | (cases e; exact .inr ⟨_, _, rfl, rfl, rfl⟩) | cases e
theorem d_ge : R2D K (rCmpD (fun i j => decide (j ≤ i)) fun x y => !strLt x y) geD := r_cmp fun x y d e => by
  cases x <;> cases y <;> first | (cases e; exact .inl ⟨_, _, rfl, rfl, rfl⟩) | (cases e; exact .inr ⟨_, _, rfl, rfl, rfl⟩) | cases e
def rEqX (K : PySem.W.Frag) (n : Bool) : R2 := fun x y H Q => ∃ d e, Dp K H x d ∧ Dp K H y e ∧ d.canLay0 = true ∧ e.canLay0 = true ∧ min d.depth e.depth ≤ 64 ∧ Q (.bl (if n then !PyData.eqv d e else PyData.eqv d e)) H
theorem o_eq (hu : X.A.units + 65 < cLine) : OpR X (compareOp .Eq) (rEqX X.K false) := by
  intro pins s σ H x y v u Q I rx ry h
  obtain ⟨d, e, hd, he, sd, se, z, q⟩ := h
  obtain ⟨as, r1⟩ := Dp.reads I d x v hd rx
  obtain ⟨bs, r2⟩ := Dp.reads I e y u he ry
  exact SeqAt.compareEq_reads r1 r2 sd se (by omega) ⟨.bl _, H, I, rfl, q⟩
theorem o_ne (hu : X.A.units + 65 < cLine) : OpR X (compareOp .NotEq) (rEqX X.K true) := by
  intro pins s σ H x y v u Q I rx ry h
  obtain ⟨d, e, hd, he, sd, se, z, q⟩ := h
  obtain ⟨as, r1⟩ := Dp.reads I d x v hd rx
  obtain ⟨bs, r2⟩ := Dp.reads I e y u he ry
  exact SeqAt.compareNe_reads r1 r2 sd se (by omega) ⟨.bl _, H, I, rfl, q⟩
theorem d_eq : R2D K (rEqX K false) eqD := by
  intro x y dx dy d G H Q s d1 d2 e k
  unfold eqD at e
  split at e
  · cases e
    rename_i hz
    exact ⟨dx, dy, (d1.mono s).dp hz.2.1, (d2.mono s).dp hz.2.2, d1.lay hz.2.1, d2.lay hz.2.2, hz.1, k _ G H (.refl s) (.bl _)⟩
  · cases e
theorem d_ne : R2D K (rEqX K true) neD := by
  intro x y dx dy d G H Q s d1 d2 e k
  unfold neD at e
  split at e
  · cases e
    rename_i hz
    exact ⟨dx, dy, (d1.mono s).dp hz.2.1, (d2.mono s).dp hz.2.2, d1.lay hz.2.1, d2.lay hz.2.2, hz.1, k _ G H (.refl s) (.bl _)⟩
  · cases e
def rInX (K : PySem.W.Frag) (n : Bool) : R2 := fun x y H Q => ∃ d ds, Dp K H x d ∧ (Dp K H y (.list ds) ∨ Dp K H y (.tuple ds)) ∧ d.canLay0 = true ∧ PyData.canLayAll0 ds = true ∧ min (PyData.depthAll ds) d.depth ≤ 64 ∧ Q (.bl (if n then !anyEq d ds else anyEq d ds)) H
theorem o_inS (hu : X.A.units + 66 < cLine) : OpR X (compareOp .In) (rInX X.K false) := by
  intro pins s σ H x y v u Q I rx ry h
  obtain ⟨d, ds, hd, he, sd, se, z, q⟩ := h
  obtain ⟨as, r1⟩ := Dp.reads I d x v hd rx
  rcases he with he | he
  · obtain ⟨bs, r2⟩ := Dp.reads I (.list ds) y u he ry
    exact SeqAt.in_list_reads r2 r1 se sd (by omega) ⟨.bl _, H, I, rfl, q⟩
  · obtain ⟨bs, r2⟩ := Dp.reads I (.tuple ds) y u he ry
    exact SeqAt.in_tuple_reads r2 r1 se sd (by omega) ⟨.bl _, H, I, rfl, q⟩
theorem o_ninS (hu : X.A.units + 66 < cLine) : OpR X (compareOp .NotIn) (rInX X.K true) := by
  intro pins s σ H x y v u Q I rx ry h
  obtain ⟨d, ds, hd, he, sd, se, z, q⟩ := h
  obtain ⟨as, r1⟩ := Dp.reads I d x v hd rx
  rcases he with he | he
  · obtain ⟨bs, r2⟩ := Dp.reads I (.list ds) y u he ry
    exact SeqAt.notIn_list_reads r2 r1 se sd (by omega) ⟨.bl _, H, I, rfl, q⟩
  · obtain ⟨bs, r2⟩ := Dp.reads I (.tuple ds) y u he ry
    exact SeqAt.notIn_tuple_reads r2 r1 se sd (by omega) ⟨.bl _, H, I, rfl, q⟩
def rInY (K : PySem.W.Frag) (n : Bool) : R2 := fun x y H Q => rInX K n x y H Q ∨ ∃ i j, x = V.str i ∧ y = V.str j ∧ Q (.bl (if n then !(!(Builtin.Str.occurrences j i 0 j.length 1).isEmpty) else !(Builtin.Str.occurrences j i 0 j.length 1).isEmpty)) H
theorem o_in (hu : X.A.units + 66 < cLine) : OpR X (compareOp .In) (rInY X.K false) := OpR.or (o_inS hu) op_in_str
theorem o_nin (hu : X.A.units + 66 < cLine) : OpR X (compareOp .NotIn) (rInY X.K true) := OpR.or (o_ninS hu) op_notin_str
theorem lay_list {ds : List D} (h : (PyData.list ds).canLay0 = true) : PyData.canLayAll0 ds = true := by unfold PyData.canLay0 at h; exact h
theorem lay_tup {ds : List D} (h : (PyData.tuple ds).canLay0 = true) : PyData.canLayAll0 ds = true := by unfold PyData.canLay0 at h; exact h
theorem d_in : R2D K (rInY K false) inD := by
  intro x y dx dy d G H Q s d1 d2 e k
  have l2 := d2.lay
  have m2 := (d2.mono s).dp
  cases dy with
  | list ys =>
    simp only [inD] at e
    split at e
    · cases e
      rename_i hz
      exact .inl ⟨dx, ys, (d1.mono s).dp hz.2.1, .inl (m2 hz.2.2), d1.lay hz.2.1, lay_list (l2 hz.2.2), hz.1, k _ G H (.refl s) (.bl _)⟩
    · cases e
  | tuple ys =>
    simp only [inD] at e
    split at e
    · cases e
      rename_i hz
      exact .inl ⟨dx, ys, (d1.mono s).dp hz.2.1, .inr (m2 hz.2.2), d1.lay hz.2.1, lay_tup (l2 hz.2.2), hz.1, k _ G H (.refl s) (.bl _)⟩
    · cases e
  | str j =>
    cases d2
    cases d1 with
    | str i hi oi => cases e; exact .inr ⟨i, j, rfl, rfl, k _ G H (.refl s) (.bl _)⟩
    | _ => cases e
  | _ => cases dx <;> cases e
theorem d_nin : R2D K (rInY K true) ninD := by
  intro x y dx dy d G H Q s d1 d2 e k
  have l2 := d2.lay
  have m2 := (d2.mono s).dp
  cases dy with
  | list ys =>
    simp only [ninD] at e
    split at e
    · cases e
      rename_i hz
      exact .inl ⟨dx, ys, (d1.mono s).dp hz.2.1, .inl (m2 hz.2.2), d1.lay hz.2.1, lay_list (l2 hz.2.2), hz.1, k _ G H (.refl s) (.bl _)⟩
    · cases e
  | tuple ys =>
    simp only [ninD] at e
    split at e
    · cases e
      rename_i hz
      exact .inl ⟨dx, ys, (d1.mono s).dp hz.2.1, .inr (m2 hz.2.2), d1.lay hz.2.1, lay_tup (l2 hz.2.2), hz.1, k _ G H (.refl s) (.bl _)⟩
    · cases e
  | str j =>
    cases d2
    cases d1 with
    | str i hi oi => cases e; exact .inr ⟨i, j, rfl, rfl, k _ G H (.refl s) (.bl _)⟩
    | _ => cases e
  | _ => cases dx <;> cases e
theorem d_isN : R2D K (fun x y H Q => y = V.non ∧ Q (.bl (decide (x = .non))) H) isND := by
  intro x y dx dy d G H Q s d1 d2 e k
  cases d2 with
  | non =>
    cases e
    refine ⟨rfl, k _ G H (.refl s) ?_⟩
    cases d1 <;> exact .bl _
  | _ => cases dx <;> cases e
theorem d_notN : R2D K (fun x y H Q => y = V.non ∧ Q (.bl (!decide (x = .non))) H) notND := by
  intro x y dx dy d G H Q s d1 d2 e k
  cases d2 with
  | non =>
    cases e
    refine ⟨rfl, k _ G H (.refl s) ?_⟩
    cases d1 <;> exact .bl _
  | _ => cases dx <;> cases e
theorem den_at {G : Hp} {vs : List V} {ds : List D} (r : DenAll K G vs ds) {i : Int} {d : D} (e : atI ds i = some d) : ∃ v, atI vs i = some v ∧ Den K G v d := by
  unfold atI at *
  rw [r.length]
  cases h : ixN ds.length i with
  | none => rw [h] at e; cases e
  | some j =>
    rw [h] at e
    exact r.get e
theorem d_ix : R2D K (rIx K) ixD := by
  intro x y dx dy d G H Q s d1 d2 e k
  cases d2 with
  | int i =>
    cases d1 with
    | lst q z r =>
      obtain ⟨v, h1, h2⟩ := den_at r (show atI _ i = some d from e)
      exact .inl ⟨_, _, i, v, rfl, rfl, SqL.of (s _ _ q), h1, k v G H (.refl s) h2⟩
    | tup q z r =>
      obtain ⟨v, h1, h2⟩ := den_at r (show atI _ i = some d from e)
      exact .inr (.inl ⟨_, _, i, v, rfl, rfl, sqt_mono s q.sq, h1, k v G H (.refl s) h2⟩)
    | str x hx ox =>
      have e' : (atI x.cps.toList i).map (fun c => PyData.str ⟨#[c]⟩) = some d := e
      cases h : atI x.cps.toList i with
      | none => rw [h] at e'; cases e'
      | some c =>
        rw [h] at e'
        cases e'
        have hc : c ∈ x.cps.toList := by
          obtain ⟨j, _, h2, _⟩ := atI_get h
          exact List.mem_of_getElem? h2
        exact .inr (.inr ⟨x, i, c, rfl, rfl, hx, h, k _ G H (.refl s) (.str _ (by show 1 ≤ sizeLine; decide) (strOk_sub (l := [c]) ox fun c' hc' => by simp at hc'; rw [hc']; exact hc))⟩)
    | _ => cases e
  | _ => cases dx <;> cases e
end
def setAll (σ : L2.St) (l : List (Nat × V)) : L2.St := l.foldl (fun σ p => σ.set p.1 (some p.2)) σ
def setD {S : Type} (ds : DS S) (l : List (Nat × D)) : DS S := l.foldl (fun ds p => ds.set p.1 (some (.d p.2))) ds
abbrev AsgV (K : PySem.W.Frag) (G : Hp) : List (Nat × V) → List (Nat × D) → Prop := Paired fun (p : Nat × V) (q : Nat × D) => p.1 = q.1 ∧ Den K G p.2 q.2
section
variable {S : Type} {K : PySem.W.Frag} {G : Hp} {σ : L2.St} {ds : DS S}
theorem View.set {i : Nat} {v : V} {d : D} (h : View K G σ ds) (hd : Den K G v d) : View K G (σ.set i (some v)) (ds.set i (some (.d d))) := by
  refine ⟨by rw [List.length_set, List.length_set]; exact h.len, fun j m e => ?_⟩
  by_cases hj : i = j
  · subst hj
    by_cases hl : i < ds.length
    · rw [List.getElem?_set_self hl] at e
      cases e
      exact ⟨v, by rw [List.getElem?_set_self (by rw [← h.len]; exact hl)], hd⟩
    · rw [List.getElem?_eq_none (by rw [List.length_set]; omega)] at e; cases e
  · rw [List.getElem?_set_ne hj] at e ⊢
    exact h.has j m e
theorem View.none {i : Nat} (h : View K G σ ds) : View K G (σ.set i .none) (ds.set i .none) := by
  refine ⟨by rw [List.length_set, List.length_set]; exact h.len, fun j m e => ?_⟩
  by_cases hj : i = j
  · subst hj
    by_cases hl : i < ds.length
    · rw [List.getElem?_set_self hl] at e; cases e
    · rw [List.getElem?_eq_none (by rw [List.length_set]; omega)] at e; cases e
  · rw [List.getElem?_set_ne hj] at e ⊢
    exact h.has j m e
theorem View.setAll : ∀ {vs : List (Nat × V)} {as : List (Nat × D)} {σ : L2.St} {ds : DS S}, View K G σ ds → AsgV K G vs as → View K G (DL.setAll σ vs) (setD ds as)
  | _, _, _, _, h, .nil => h
  | _, _, σ, ds, h, .cons (a := p) (b := q) ⟨e, hd⟩ r => by
    refine View.setAll (σ := σ.set p.1 (some p.2)) (ds := ds.set q.1 (some (.d q.2))) ?_ r
    rw [← e]
    exact h.set hd
def wipeD (ds : DS S) : List Nat → DS S
  | [] => ds
  | v :: vs => (wipeD ds vs).set v none
theorem View.wipe (h : View K G σ ds) : ∀ vs : List Nat, View K G (L2.wipe σ vs) (wipeD ds vs)
  | [] => h
  | v :: vs => (View.wipe h vs).none
end
theorem wipe_set_out {σ : L2.St} {i : Nat} {o : Option V} : ∀ {vs : List Nat}, i ∉ vs → wipe (σ.set i o) vs = (wipe σ vs).set i o
  | [], _ => rfl
  | v :: vs, h => by
    have h1 : i ≠ v := fun z => h (by simp [z])
    have h2 : i ∉ vs := fun z => h (by simp [z])
    show (wipe (σ.set i o) vs).set v none = ((wipe σ vs).set v none).set i o
    rw [wipe_set_out h2, List.set_comm _ _ h1]
theorem wipe_set {σ : L2.St} {i : Nat} {o : Option V} : ∀ {vs : List Nat}, i ∈ vs → wipe (σ.set i o) vs = wipe σ vs
  | [], h => by cases h
  | v :: vs, h => by
    show (wipe (σ.set i o) vs).set v none = (wipe σ vs).set v none
    by_cases h2 : i ∈ vs
    · rw [wipe_set h2]
    · have h1 : i = v := by simpa [h2] using h
      subst h1
      rw [wipe_set_out h2, List.set_set]
theorem wipe_wipe {σ : L2.St} : ∀ {vs : List Nat}, wipe (wipe σ vs) vs = wipe σ vs
  | [] => rfl
  | v :: vs => by
    have h := wipe_set (σ := wipe σ vs) (i := v) (o := none) (vs := v :: vs) List.mem_cons_self
    show wipe ((wipe σ vs).set v none) (v :: vs) = _
    rw [h]
    show (wipe (wipe σ vs) vs).set v none = (wipe σ vs).set v none
    rw [wipe_wipe]
theorem wipe_setAll {own : List Nat} : ∀ {l : List (Nat × V)} {σ : L2.St}, (∀ p ∈ l, p.1 ∈ own) → wipe (setAll σ l) own = wipe σ own
  | [], _, _ => rfl
  | p :: l, σ, h => by
    show wipe (setAll (σ.set p.1 (some p.2)) l) own = _
    rw [wipe_setAll fun q hq => h q (List.mem_cons_of_mem _ hq), wipe_set (h p List.mem_cons_self)]
def DenI (W : Bool) (K : PySem.W.Frag) (G : Hp) (v : V) (d : D) : Prop := Den K G v d ∨ (W = true ∧ ∃ (a : Addr) (vs : List V) (ds : List D), v = .ref a ∧ d = .tuple ds ∧ SqT K G a vs ∧ vs.length ≤ sizeLine ∧ DenAll K G vs ds)
theorem DenI.den {K : PySem.W.Frag} {G : Hp} {v : V} {d : D} (h : DenI false K G v d) : Den K G v d := h.elim id fun ⟨z, _⟩ => nomatch z
def TGD (W : Bool) (K : PySem.W.Frag) (g : TG) (t : D → Option (List (Nat × D))) : Prop := ∀ x d as σ G H (Q : L2.St → Hp → Prop), Same G H → DenI W K G x d → t d = some as → (∀ vs, AsgV K G vs as → Q (setAll σ vs) H) → g x σ H Q
def asgN (i : Nat) : D → Option (List (Nat × D)) := fun d => some [(i, d)]
def asgT (is : List Nat) : D → Option (List (Nat × D))
  | .tuple ds => if ds.length = is.length then some (is.zip ds) else none
  | _ => none
theorem tgd_name {K : PySem.W.Frag} {i : Nat} : TGD false K (gName i) (asgN i) := fun x d as σ G H Q s hd e k => by
  cases e
  exact k [(i, x)] (.cons ⟨rfl, hd.den⟩ .nil)
def gNames : List Nat → TGs
  | [] => L2.gNil
  | i :: is => L2.gCons (gName i) (gNames is)
theorem names_go {K : PySem.W.Frag} {G H : Hp} {Q : L2.St → Hp → Prop} : ∀ {is : List Nat} {vs : List V} {ds : List D} {σ : L2.St}, DenAll K G vs ds → ds.length = is.length → (∀ ws, AsgV K G ws (is.zip ds) → Q (setAll σ ws) H) → gNames is vs σ H Q
  | [], _, [], σ, .nil, _, k => ⟨rfl, k [] .nil⟩
  | i :: is, _, _ :: ds, σ, .cons (v := v) h r, z, k => ⟨v, _, rfl, names_go (σ := σ.set i (some v)) r (by simpa using z) fun ws a => k ((i, v) :: ws) (.cons ⟨rfl, h⟩ a)⟩
theorem tgd_tup {W : Bool} {K : PySem.W.Frag} {is : List Nat} : TGD W K (L2.gTup K is.length (gNames is)) (asgT is) := fun x d as σ G H Q s hd e k => by
  have go : ∀ {a : Addr} {vs : List V} {ds : List D}, SqT K G a vs → DenAll K G vs ds → asgT is (.tuple ds) = some as → L2.gTup K is.length (gNames is) (.ref a) σ H Q := by
    intro a vs ds q r e
    simp only [asgT] at e
    split at e
    · cases e
      rename_i hz
      exact ⟨_, _, rfl, sqt_mono s q, by rw [r.length]; exact hz, names_go r hz k⟩
    · cases e
  rcases hd with hd | ⟨_, a, vs, ds, rfl, rfl, q, _, r⟩
  · cases hd with
    | tup q z r => exact go q.sq r e
    | _ => cases e
  · exact go q r e
theorem own_name {i : Nat} {own : List Nat} (h : i ∈ own) : ∀ d as, asgN i d = some as → ∀ p ∈ as, p.1 ∈ own := fun d as e p hp => by
  cases e
  simp at hp
  subst hp
  exact h
theorem own_tup {is own : List Nat} (h : ∀ i ∈ is, i ∈ own) : ∀ d as, asgT is d = some as → ∀ p ∈ as, p.1 ∈ own := fun d as e p hp => by
  cases d with
  | tuple ds =>
    simp only [asgT] at e
    split at e
    · cases e
      exact h _ (List.of_mem_zip hp).1
    · cases e
  | _ => cases e
theorem asgV_slots {K : PySem.W.Frag} {G : Hp} {own : List Nat} : ∀ {vs : List (Nat × V)} {as : List (Nat × D)}, AsgV K G vs as → (∀ p ∈ as, p.1 ∈ own) → ∀ p ∈ vs, p.1 ∈ own
  | _, _, .nil, _, p, hp => by cases hp
  | _, _, .cons ⟨e, _⟩ r, h, p, hp => by
    rcases List.mem_cons.mp hp with rfl | hp
    · rw [e]; exact h _ List.mem_cons_self
    · exact asgV_slots r (fun q hq => h q (List.mem_cons_of_mem _ hq)) p hp
structure ItD (W : Bool) (K : PySem.W.Frag) (J : It) (xs : List D) (G : Hp) : Prop where
  len : xs.length ≤ sizeLine
  go : ∀ (i : Nat) H, Same G H → i < xs.length → J.go i H
  stop : ∀ (i : Nat) H, Same G H → xs.length ≤ i → i ≤ xs.length → J.stop i H
  yld : ∀ (i : Nat) H x H', Same G H → i < xs.length → J.yld i H x H' → ∃ d, xs[i]? = some d ∧ ∀ G0, Same G G0 → Same G0 H → ∃ G1, Gr G0 H G1 H' ∧ DenI W K G1 x d
def tI (W : Bool) {S : Type} (K : PySem.W.Frag) (src : DS S → Option (List D)) : TI := fun σ H R => ∃ G ds xs, Same G H ∧ View K G σ ds ∧ src ds = some xs ∧ ∀ J G' H', Gr G H G' H' → ItD W K J xs G' → R J H'
theorem PI.imp {X : Cx} {tg e : Expr} {t t' : TI} (h : PI X tg e t) (i : ∀ σ H R, t' σ H R → t σ H R) : PI X tg e t' := ⟨fun pins s σ H R I q => h.run pins s σ H R I (i σ H R q)⟩
theorem PI.or {X : Cx} {tg e : Expr} {t t' : TI} (h : PI X tg e t) (h' : PI X tg e t') : PI X tg e (fun σ H R => t σ H R ∨ t' σ H R) := ⟨fun pins s σ H R I q => q.elim (h.run pins s σ H R I) (h'.run pins s σ H R I)⟩
section
variable {S : Type} {X : Cx} {K : PySem.W.Frag} {tg e e2 : Expr} {ga gb : DS S → Option D} {G : Hp}
theorem itd_list {a : Addr} {vs : List V} {xs : List D} (q : G a = some (.lst vs)) (z : vs.length ≤ sizeLine) (r : DenAll K G vs xs) : ItD false K (Itl K a) xs G where
  len := by rw [← r.length]; exact z
  go := fun i H s hi => by
    have hi' : i < vs.length := by rw [r.length]; exact hi
    exact ⟨vs, vs[i], SqL.of (s _ _ q), List.getElem?_eq_getElem hi'⟩
  stop := fun i H s hi _ => ⟨vs, SqL.of (s _ _ q), by rw [r.length]; exact hi⟩
  yld := fun i H x H' s hi ⟨e, y⟩ => by
    subst e
    obtain ⟨d, h1, h2⟩ := r.getV (y vs (SqL.of (s _ _ q)))
    exact ⟨d, h1, fun G0 s0 s1 => ⟨G0, .refl s1, .inl (h2.mono s0)⟩⟩
theorem itd_tup {a : Addr} {vs : List V} {xs : List D} (q : SqT K G a vs) (z : vs.length ≤ sizeLine) (r : DenAll K G vs xs) : ItD false K (Itt K a) xs G where
  len := by rw [← r.length]; exact z
  go := fun i H s hi => by
    have hi' : i < vs.length := by rw [r.length]; exact hi
    exact ⟨vs, vs[i], sqt_mono s q, List.getElem?_eq_getElem hi'⟩
  stop := fun i H s hi _ => ⟨vs, sqt_mono s q, by rw [r.length]; exact hi⟩
  yld := fun i H x H' s hi ⟨e, y⟩ => by
    subst e
    obtain ⟨d, h1, h2⟩ := r.getV (y vs (sqt_mono s q))
    exact ⟨d, h1, fun G0 s0 s1 => ⟨G0, .refl s1, .inl (h2.mono s0)⟩⟩
def signsD (x : Str) : List D := x.cps.toList.map fun c => .str ⟨#[c]⟩
theorem itd_str {x : Str} (z : x.length ≤ sizeLine) (o : PyData.strOk x = true) : ItD false K (Its x) (signsD x) G where
  len := by unfold signsD; rw [List.length_map, Array.length_toList]; exact z
  go := fun i H s hi => by show i < x.cps.size; simpa [signsD] using hi
  stop := fun i H s hi _ => by show x.cps.size ≤ i; simpa [signsD] using hi
  yld := fun i H v H' s hi ⟨e, c, hc, ev⟩ => by
    subst e ev
    have hc' : x.cps.toList[i]? = some c := by rw [Array.getElem?_toList]; exact hc
    refine ⟨.str ⟨#[c]⟩, by unfold signsD; rw [List.getElem?_map, hc']; rfl, fun G0 s0 s1 => ⟨G0, .refl s1, .inl (.str _ (by show 1 ≤ sizeLine; decide) (strOk_sub (l := [c]) o fun c' h => ?_))⟩⟩
    simp at h
    rw [h]
    exact List.mem_of_getElem? hc'
def srcD : D → Option (List D)
  | .list xs => some xs
  | .tuple xs => some xs
  | .str x => some (signsD x)
  | _ => none
def gSrc (g : DS S → Option D) : DS S → Option (List D) := fun ds => (g ds).bind srcD
theorem pi_any (h : PE X e (tP X.K ga)) : PI X tg e (tI false X.K (gSrc ga)) := PI.imp (PI.or (pi_list h) (PI.or (pi_tup h) (pi_str h))) fun σ H R ⟨G, ds, xs, s, w, e, k⟩ => by
  unfold gSrc at e
  cases ea : ga ds with
  | none => rw [ea] at e; cases e
  | some d =>
    rw [ea] at e
    cases d with
    | list ys =>
      cases e
      refine .inl ⟨G, ds, _, s, w, ea, fun v G1 H1 g1 d1 => ?_⟩
      cases d1 with
      | lst q z r => exact ⟨_, rfl, ⟨_, SqL.of (g1.sub _ _ q)⟩, k _ G1 H1 g1 (itd_list q z r)⟩
    | tuple ys =>
      cases e
      refine .inr (.inl ⟨G, ds, _, s, w, ea, fun v G1 H1 g1 d1 => ?_⟩)
      cases d1 with
      | tup q z r => exact ⟨_, rfl, ⟨_, sqt_mono g1.sub q.sq⟩, k _ G1 H1 g1 (itd_tup q.sq z r)⟩
    | str x =>
      cases e
      refine .inr (.inr ⟨G, ds, _, s, w, ea, fun v G1 H1 g1 d1 => ?_⟩)
      cases d1 with
      | str _ z o => exact ⟨_, rfl, k _ G1 H1 g1 (itd_str z o)⟩
    | _ => cases e
def rngD (lo : Int) (n : Nat) : List D := (List.range n).map fun (k : Nat) => .int (lo + (k : Int))
theorem itd_rng {lo : Int} {n : Nat} (z : n ≤ sizeLine) : ItD false K (Itr lo n) (rngD lo n) G where
  len := by unfold rngD; simpa using z
  go := fun i H s hi => by simpa [rngD, Itr] using hi
  stop := fun i H s hi _ => by simpa [rngD, Itr] using hi
  yld := fun i H v H' s hi ⟨e, ev⟩ => by
    subst e ev
    have hi' : i < n := by simpa [rngD] using hi
    exact ⟨.int (lo + (i : Int)), by unfold rngD; rw [List.getElem?_map, List.getElem?_range hi']; rfl, fun G0 s0 s1 => ⟨G0, .refl s1, .inl (.int _)⟩⟩
def rng1 : List D → Option (List D)
  | [.int j] => if j ≤ sizeLine ∧ -(2 ^ 62) ≤ j then some (rngD 0 j.toNat) else none
  | _ => none
def gArgs (g : DS S → Option (List D)) (f : List D → Option (List D)) : DS S → Option (List D) := fun ds => (g ds).bind f
variable {g1 : DS S → Option (List D)} {p pos : Pos} {a b : Expr}
theorem pi_r1 (hg : Gl X "range") (hm : X.mg "range" = none) (ha : PA X [a] (tPA X.K g1)) (hs : starEach [a] X.env = [(false, eval a X.env)] := by rfl) : PI X tg (.Call (.Name "range" p) [a] [] pos) (tI false X.K (gArgs g1 rng1)) :=
  PI.imp (pi_range1 hg hm ha hs) fun σ H R ⟨G, ds, xs, s, w, e, k⟩ => by
    unfold gArgs at e
    cases ea : g1 ds with
    | none => rw [ea] at e; cases e
    | some as =>
      rw [ea] at e
      match as, e with
      | [.int j], e =>
        simp only [Option.bind_some, rng1] at e
        split at e
        · cases e
          rename_i hz
          refine ⟨G, ds, _, s, w, ea, fun vs G1 H1 g1 d1 => ?_⟩
          cases d1 with
          | cons d1 r =>
            cases r
            cases d1
            have hl : (sizeLine : Int) < 2 ^ 62 := by decide
            exact ⟨j, rfl, hz.2, by omega, k _ G1 H1 g1 (itd_rng (by omega))⟩
        · cases e
def enumD : Nat → List D → List D
  | _, [] => []
  | k, x :: xs => .tuple [.int (k : Int), x] :: enumD (k + 1) xs
theorem enumD_len : ∀ (k : Nat) (xs : List D), (enumD k xs).length = xs.length
  | _, [] => rfl
  | k, x :: xs => congrArg (· + 1) (enumD_len (k + 1) xs)
theorem enumD_get : ∀ (k : Nat) (xs : List D) (i : Nat), (enumD k xs)[i]? = xs[i]?.map fun x => .tuple [.int ((k + i : Nat) : Int), x]
  | _, [], _ => by simp [enumD]
  | k, x :: xs, 0 => by simp [enumD]
  | k, x :: xs, i + 1 => by
    show (enumD (k + 1) xs)[i]? = _
    rw [enumD_get (k + 1) xs i]
    rw [List.getElem?_cons_succ, show k + 1 + i = k + (i + 1) from by omega]
theorem itd_enum {a : Addr} {vs : List V} {xs : List D} (q : G a = some (.lst vs)) (z : vs.length ≤ sizeLine) (r : DenAll K G vs xs) : ItD true K (Ite K a) (enumD 0 xs) G where
  len := by rw [enumD_len, ← r.length]; exact z
  go := fun i H s hi => by
    have hi' : i < vs.length := by rw [r.length]; rw [enumD_len] at hi; exact hi
    exact ⟨vs, vs[i], SqL.of (s _ _ q), List.getElem?_eq_getElem hi'⟩
  stop := fun i H s hi _ => ⟨vs, SqL.of (s _ _ q), by rw [r.length]; rw [enumD_len] at hi; exact hi⟩
  yld := fun i H x H' s hi ⟨T, y, ev, hT, eh, hy⟩ => by
    subst ev eh
    obtain ⟨d, h1, h2⟩ := r.getV (hy vs (SqL.of (s _ _ q)))
    refine ⟨.tuple [.int (i : Int), d], by rw [enumD_get, h1]; simp, fun G0 s0 s1 => ⟨upd G0 T (.tup [.int (i : Int), y]), .upd s1 hT, ?_⟩⟩
    exact .inr ⟨rfl, _, _, _, rfl, rfl, .inl (.inl upd_same), (by show 2 ≤ sizeLine; decide), .cons (.int _) (.cons ((h2.mono s0).at_new (s1.free hT)) .nil)⟩
variable {tpos : Pos} {elts : List Expr} {kk : Nat}
def zipD (xs ys : List D) : List D := (xs.zip ys).map fun p => .tuple [p.1, p.2]
theorem zipD_len (xs ys : List D) : (zipD xs ys).length = min xs.length ys.length := by unfold zipD; rw [List.length_map, List.length_zip]
theorem zipD_get {xs ys : List D} {i : Nat} {x y : D} (hx : xs[i]? = some x) (hy : ys[i]? = some y) : (zipD xs ys)[i]? = some (.tuple [x, y]) := by
  unfold zipD
  have e : (xs.zip ys)[i]? = some (x, y) := by
    rw [List.getElem?_zip_eq_some]
    exact ⟨hx, hy⟩
  rw [List.getElem?_map, e]
  rfl
theorem itd_zipL {a b : Addr} {vs ws : List V} {xs ys : List D} (q : G a = some (.lst vs)) (z : vs.length ≤ sizeLine) (r : DenAll K G vs xs) (q' : G b = some (.lst ws)) (z' : ws.length ≤ sizeLine) (r' : DenAll K G ws ys) : ItD true K (Itz K a b) (zipD xs ys) G where
  len := by rw [zipD_len, ← r.length]; exact Nat.le_trans (Nat.min_le_left _ _) z
  go := fun i H s hi => by
    rw [zipD_len, ← r.length, ← r'.length] at hi
    exact ⟨vs, ws, vs[i], ws[i], SqL.of (s _ _ q), SqL.of (s _ _ q'), List.getElem?_eq_getElem _, List.getElem?_eq_getElem _⟩
  stop := fun i H s hi _ => by
    rw [zipD_len, ← r.length, ← r'.length] at hi
    exact ⟨vs, ws, SqL.of (s _ _ q), SqL.of (s _ _ q'), by omega⟩
  yld := fun i H x H' s hi ⟨T, y, y2, ev, hT, eh, hy, hy2⟩ => by
    subst ev eh
    obtain ⟨d, h1, h2⟩ := r.getV (hy vs (SqL.of (s _ _ q)))
    obtain ⟨d2, h3, h4⟩ := r'.getV (hy2 ws (SqL.of (s _ _ q')))
    refine ⟨.tuple [d, d2], zipD_get h1 h3, fun G0 s0 s1 => ⟨upd G0 T (.tup [y, y2]), .upd s1 hT, ?_⟩⟩
    exact .inr ⟨rfl, _, _, _, rfl, rfl, .inl (.inl upd_same), (by show 2 ≤ sizeLine; decide), .cons ((h2.mono s0).at_new (s1.free hT)) (.cons ((h4.mono s0).at_new (s1.free hT)) .nil)⟩
theorem itd_zipT {a b : Addr} {vs ws : List V} {xs ys : List D} (q : SqT K G a vs) (z : vs.length ≤ sizeLine) (r : DenAll K G vs xs) (q' : SqT K G b ws) (z' : ws.length ≤ sizeLine) (r' : DenAll K G ws ys) : ItD true K (RZ.ItzT K a b) (zipD xs ys) G where
  len := by rw [zipD_len, ← r.length]; exact Nat.le_trans (Nat.min_le_left _ _) z
  go := fun i H s hi => by
    rw [zipD_len, ← r.length, ← r'.length] at hi
    exact ⟨vs, ws, vs[i], ws[i], sqt_mono s q, sqt_mono s q', List.getElem?_eq_getElem _, List.getElem?_eq_getElem _⟩
  stop := fun i H s hi _ => by
    rw [zipD_len, ← r.length, ← r'.length] at hi
    exact ⟨vs, ws, sqt_mono s q, sqt_mono s q', by omega⟩
  yld := fun i H x H' s hi ⟨T, y, y2, ev, hT, eh, hy, hy2⟩ => by
    subst ev eh
    obtain ⟨d, h1, h2⟩ := r.getV (hy vs (sqt_mono s q))
    obtain ⟨d2, h3, h4⟩ := r'.getV (hy2 ws (sqt_mono s q'))
    refine ⟨.tuple [d, d2], zipD_get h1 h3, fun G0 s0 s1 => ⟨upd G0 T (.tup [y, y2]), .upd s1 hT, ?_⟩⟩
    exact .inr ⟨rfl, _, _, _, rfl, rfl, .inl (.inl upd_same), (by show 2 ≤ sizeLine; decide), .cons ((h2.mono s0).at_new (s1.free hT)) (.cons ((h4.mono s0).at_new (s1.free hT)) .nil)⟩
def zip2 : List D → Option (List D)
  | [.list xs, .list ys] => some (zipD xs ys)
  | [.tuple xs, .tuple ys] => some (zipD xs ys)
  | _ => none
theorem pi_zp (hg : Gl X "zip") (hm : X.mg "zip" = none) (ha : PA X [e, e2] (tPA X.K g1))
    (hs : starEach [e, e2] X.env = (false, eval e X.env) :: starEach [e2] X.env := by rfl) (hpl : (backTo pos (starEach [e2] X.env)).any (·.1) = false := by rfl) :
    PI X (.Tuple elts kk tpos) (.Call (.Name "zip" p) [e, e2] [] pos) (tI true X.K (gArgs g1 zip2)) :=
  PI.imp (RZ.pi_zipA hg hm ha hs hpl) fun σ H R ⟨G, ds, xs, s, w, e, k⟩ => by
    unfold gArgs at e
    cases ea : g1 ds with
    | none => rw [ea] at e; cases e
    | some as =>
      rw [ea] at e
      match as, e with
      | [.list ys, .list zs], e =>
        cases e
        refine ⟨G, ds, _, s, w, ea, fun vs G1 H1 g1 d1 => ?_⟩
        match vs, d1 with
        | _, .cons (.lst q z r) (.cons (.lst q' z' r') .nil) => exact ⟨_, _, _, _, rfl, .inl ⟨SqL.of (g1.sub _ _ q), SqL.of (g1.sub _ _ q'), k _ G1 H1 g1 (itd_zipL q z r q' z' r')⟩⟩
      | [.tuple ys, .tuple zs], e =>
        cases e
        refine ⟨G, ds, _, s, w, ea, fun vs G1 H1 g1 d1 => ?_⟩
        match vs, d1 with
        | _, .cons (.tup q z r) (.cons (.tup q' z' r') .nil) => exact ⟨_, _, _, _, rfl, .inr ⟨sqt_mono g1.sub q.sq, sqt_mono g1.sub q'.sq, k _ G1 H1 g1 (itd_zipT q.sq z r q'.sq z' r')⟩⟩
end
def lcRun (f : D → Option (Option D)) : List D → Option (List D)
  | [] => some []
  | x :: xs => (f x).bind fun o => (lcRun f xs).bind fun ys => some (match o with
    | some y => y :: ys
    | none => ys)
def lcOne {S : Type} (ds : DS S) (own : List Nat) (t : D → Option (List (Nat × D))) (h : DS S → Option Bool) (g : DS S → Option D) : D → Option (Option D) := fun x =>
  (t x).bind fun as => (h (setD (wipeD ds own) as)).bind fun b => if b then (g (setD (wipeD ds own) as)).map some else some none
def gLc {S : Type} (src : DS S → Option (List D)) (own : List Nat) (t : D → Option (List (Nat × D))) (h : DS S → Option Bool) (g : DS S → Option D) : DS S → Option (List D) := fun ds => (src ds).bind fun xs => lcRun (lcOne ds own t h g) xs
def gYes {S : Type} : DS S → Option Bool := fun _ => some true
section
variable {S : Type} {K : PySem.W.Frag} {src : DS S → Option (List D)} {own : List Nat} {t : D → Option (List (Nat × D))} {h : DS S → Option Bool} {g : DS S → Option D} {tg : TG}
theorem p_lc {W : Bool} (ht : TGD W K tg t) (ho : ∀ d as, t d = some as → ∀ p ∈ as, p.1 ∈ own) {σ : L2.St} {H : Hp} {Q : VK} (w0 : tF K (gLc src own t h g) σ H Q) : tLc (tI W K src) tg (tPT K h) (tP K g) own σ H Q := by
  obtain ⟨G, ds, ys, s, w, e, k⟩ := w0
  unfold gLc at e
  cases ea : src ds with
  | none => rw [ea] at e; cases e
  | some xs =>
    rw [ea] at e
    simp only [Option.bind_some] at e
    refine ⟨G, ds, xs, s, w, ea, fun J G1 H1 g1 it => fun A hA => ?_⟩
    have hGA : G1 A = none := g1.sub.free hA
    refine ⟨fun i m Hc => m = xs.length - i ∧ i ≤ xs.length ∧ ∃ Gc vs done rest, Gr G H Gc Hc ∧ Same G1 Gc ∧ Gc A = none ∧ Hc A = some (.lst vs) ∧ vs.length ≤ i ∧ DenAll K Gc vs done ∧ lcRun (lcOne ds own t h g) (xs.drop i) = some rest ∧ ys = done ++ rest,
      ⟨xs.length, rfl, Nat.zero_le _, G1, [], [], ys, g1.trans (.own g1.sub hA), Same.refl _, hGA, upd_same, Nat.le_refl _, .nil, by simpa using e, by simp⟩, ?_⟩
    rintro i m Hc ⟨rfl, hi, Gc, vs, done, rest, gc, sc, nA, eA, lv, dv, er, ey⟩
    by_cases hlt : i < xs.length
    · refine .inr ⟨it.go i Hc (sc.trans gc.sub) hlt, fun H' => ∃ m', m' < xs.length - i ∧ (m' = xs.length - (i + 1) ∧ i + 1 ≤ xs.length ∧ ∃ Gc vs done rest, Gr G H Gc H' ∧ Same G1 Gc ∧ Gc A = none ∧ H' A = some (.lst vs) ∧ vs.length ≤ i + 1 ∧ DenAll K Gc vs done ∧ lcRun (lcOne ds own t h g) (xs.drop (i + 1)) = some rest ∧ ys = done ++ rest), fun H' x => x, fun x H' y => ?_⟩
      obtain ⟨d, hd, grow⟩ := it.yld i Hc x H' (sc.trans gc.sub) hlt y
      obtain ⟨Ga, ga, dx⟩ := grow Gc sc gc.sub
      have hdrop : xs.drop i = d :: xs.drop (i + 1) := by
        rw [List.drop_eq_getElem_cons hlt]
        rw [List.getElem?_eq_getElem hlt] at hd
        cases hd
        rfl
      rw [hdrop] at er
      unfold lcRun at er
      cases ef : lcOne ds own t h g d with
      | none => rw [ef] at er; cases er
      | some o =>
        rw [ef] at er
        simp only [Option.bind_some] at er
        cases e2 : lcRun (lcOne ds own t h g) (xs.drop (i + 1)) with
        | none => rw [e2] at er; cases er
        | some rest2 =>
          rw [e2] at er
          simp only [Option.bind_some] at er
          unfold lcOne at ef
          cases et : t d with
          | none => rw [et] at ef; cases ef
          | some as =>
            rw [et] at ef
            simp only [Option.bind_some] at ef
            refine ht x d as _ Ga H' _ ga.sub dx et fun ws aw => ?_
            refine ⟨by rw [wipe_setAll (asgV_slots aw (ho d as et)), wipe_wipe], ?_⟩
            have wv : View K Ga (setAll (wipe σ own) ws) (setD (wipeD ds own) as) := ((w.mono (gc.trans ga).keep).wipe own).setAll aw
            cases eh : h (setD (wipeD ds own) as) with
            | none => rw [eh] at ef; cases ef
            | some b =>
              rw [eh] at ef
              simp only [Option.bind_some] at ef
              refine ⟨Ga, _, b, ga.sub, wv, eh, fun G3 H3 g3 => ?_⟩
              have nA3 : G3 A = none := by
                cases q : G3 A with
                | none => rfl
                | some o' =>
                  rcases g3.new A (by rw [q]; simp) with z | z
                  · rcases ga.new A z with z | z
                    · exact absurd nA z
                    · rw [eA] at z; cases z
                  · rw [ga.all _ _ eA] at z; cases z
              cases b with
              | false =>
                refine iteF ?_
                rw [if_neg Bool.false_ne_true] at ef
                cases ef
                refine ⟨xs.length - (i + 1), by omega, rfl, hlt, G3, vs, done, rest2, (gc.trans ga).trans g3, sc.trans (ga.trans g3).keep, nA3, (ga.trans g3).all _ _ eA, Nat.le_succ_of_le lv, dv.mono (ga.trans g3).keep, rfl, ?_⟩
                cases er
                exact ey
              | true =>
                refine iteT ?_
                rw [if_pos rfl] at ef
                cases eg : g (setD (wipeD ds own) as) with
                | none => rw [eg] at ef; cases ef
                | some y0 =>
                  rw [eg] at ef
                  cases ef
                  refine ⟨G3, _, y0, g3.sub, wv.mono g3.keep, eg, fun v G4 H4 g4 dy => ?_⟩
                  have nA4 : G4 A = none := by
                    cases q : G4 A with
                    | none => rfl
                    | some o' =>
                      rcases g4.new A (by rw [q]; simp) with z | z
                      · exact absurd nA3 z
                      · rw [(ga.trans g3).all _ _ eA] at z; cases z
                  have eA4 := ((ga.trans g3).trans g4).all _ _ eA
                  refine ⟨vs, eA4, by have := it.len; omega, ?_⟩
                  have gg := ((gc.trans ga).trans g3).trans g4
                  have hHA : H A = none := g1.all.free hA
                  refine ⟨xs.length - (i + 1), by omega, rfl, hlt, G4, vs ++ [v], done ++ [y0], rest2, ⟨gg.keep, fun b u q => ?_, fun b u q => ?_, gg.new⟩, sc.trans ((ga.trans g3).trans g4).keep, nA4, upd_same, by rw [List.length_append]; simpa using lv, (dv.mono ((ga.trans g3).trans g4).keep).append (.cons dy .nil), rfl, ?_⟩
                  · rw [upd_ne (ne_of_none q nA4)]; exact gg.sub b u q
                  · rw [upd_ne (ne_of_none q hHA)]; exact gg.all b u q
                  · cases er
                    rw [ey, List.append_assoc]
                    rfl
    · have e' : i = xs.length := by omega
      subst e'
      refine .inl ⟨it.stop _ Hc (sc.trans gc.sub) (Nat.le_refl _) (Nat.le_refl _), ?_⟩
      rw [List.drop_length] at er
      cases er
      rw [List.append_nil] at ey
      subst ey
      exact k A vs Gc Hc gc nA (g1.all.free hA) eA (Nat.le_trans lv it.len) dv
theorem pts_yes {X : Cx} : PTs X [] (tPT (S := S) X.K gYes) := PTs.imp pts_nil fun σ H Q ⟨G, ds, b, s, w, e, k⟩ => by
  cases e
  exact k G H (.refl s)
end
def RCD (K : PySem.W.Frag) (r : List V → Hp → VK → Prop) (g : List D → Option D) : Prop := ∀ vs ds d G H (Q : VK), Same G H → DenAll K G vs ds → g ds = some d → (∀ v G' H', Gr G H G' H' → Den K G' v d → Q v H') → r vs H Q
def RCF (K : PySem.W.Frag) (r : List V → Hp → VK → Prop) (g : List D → Option (List D)) : Prop := ∀ vs ds xs G H (Q : VK), Same G H → DenAll K G vs ds → g ds = some xs →
  (∀ p vs G' H', Gr G H G' H' → G' p = none → H p = none → H' p = some (.lst vs) → vs.length ≤ sizeLine → DenAll K G' vs xs → Q (.ref p) H') → r vs H Q
def gCall {S : Type} (g : DS S → Option (List D)) (f : List D → Option D) : DS S → Option D := fun ds => (g ds).bind f
section
variable {S : Type} {X : Cx} {K : PySem.W.Frag} {x : Str} {p pos : Pos} {e o : Expr} {es : List Expr} {ga : DS S → Option D} {gs : DS S → Option (List D)} {bid T : String}
theorem p_cb {r : List V → Hp → VK → Prop} {f : List D → Option D} (hr : RCD K r f) {σ : L2.St} {H : Hp} {Q : VK} (h : tP K (gCall gs f) σ H Q) : tCB r (tPA K gs) σ H Q := by
  obtain ⟨G, ds, d, s, w, e, k⟩ := h
  unfold gCall at e
  cases ea : gs ds with
  | none => rw [ea] at e; cases e
  | some xs =>
    rw [ea] at e
    exact ⟨G, ds, xs, s, w, ea, fun vs G1 H1 g1 d1 => hr vs xs d G1 H1 Q g1.sub d1 e fun v G2 H2 g2 d2 => k v G2 H2 (g1.trans g2) d2⟩
theorem p_cbF {r : List V → Hp → VK → Prop} {f : List D → Option (List D)} (hr : RCF K r f) {σ : L2.St} {H : Hp} {Q : VK} (h : tF K (gArgs gs f) σ H Q) : tCB r (tPA K gs) σ H Q := by
  obtain ⟨G, ds, d, s, w, e, k⟩ := h
  unfold gArgs at e
  cases ea : gs ds with
  | none => rw [ea] at e; cases e
  | some xs =>
    rw [ea] at e
    exact ⟨G, ds, xs, s, w, ea, fun vs G1 H1 g1 d1 => hr vs xs d G1 H1 Q g1.sub d1 e fun p vs G2 H2 g2 h1 h2 h3 z d2 => k p vs G2 H2 (g1.trans g2) h1 (g1.all.free h2) h3 z d2⟩
theorem ep_cb {r : List V → Hp → VK → Prop} {f : List D → Option D} (hc : CallR X (.builtin bid) r) (hr : RCD X.K r f) (hg : Gl X x) (hm : X.mg x = none) (hv : bootBuiltins x = some (.builtin bid)) (ha : PA X (e :: es) (tPA X.K gs)) (hn : x ≠ "__name__" := by decide) (hdb : (x == ("__debug__" : Str)) = false := by decide)
    (he : starEach (e :: es) X.env = (false, eval e X.env) :: starEach es X.env := by rfl) (hpl : (backTo pos (starEach es X.env)).any (·.1) = false := by rfl) : PE X (.Call (.Name x p) (e :: es) [] pos) (tP X.K (gCall gs f)) :=
  PE.imp (pe_callB hc hg hm hv ha hn hdb he hpl) fun _ _ _ h => p_cb hr h
theorem ef_cb {r : List V → Hp → VK → Prop} {f : List D → Option (List D)} (hc : CallR X (.builtin bid) r) (hr : RCF X.K r f) (hg : Gl X x) (hm : X.mg x = none) (hv : bootBuiltins x = some (.builtin bid)) (ha : PA X (e :: es) (tPA X.K gs)) (hn : x ≠ "__name__" := by decide) (hdb : (x == ("__debug__" : Str)) = false := by decide)
    (he : starEach (e :: es) X.env = (false, eval e X.env) :: starEach es X.env := by rfl) (hpl : (backTo pos (starEach es X.env)).any (·.1) = false := by rfl) : PE X (.Call (.Name x p) (e :: es) [] pos) (tF X.K (gArgs gs f)) :=
  PE.imp (pe_callB hc hg hm hv ha hn hdb he hpl) fun _ _ _ h => p_cbF hr h
theorem ep_ct {r : List V → Hp → VK → Prop} {f : List D → Option D} (hc : CallR X (.type T) r) (hr : RCD X.K r f) (hg : Gl X x) (hm : X.mg x = none) (hv : bootBuiltins x = some (.type T)) (ha : PA X (e :: es) (tPA X.K gs)) (hn : x ≠ "__name__" := by decide) (hdb : (x == ("__debug__" : Str)) = false := by decide)
    (he : starEach (e :: es) X.env = (false, eval e X.env) :: starEach es X.env := by rfl) (hpl : (backTo pos (starEach es X.env)).any (·.1) = false := by rfl) : PE X (.Call (.Name x p) (e :: es) [] pos) (tP X.K (gCall gs f)) :=
  PE.imp (pe_callTy hc hg hm hv ha hn hdb he hpl) fun _ _ _ h => p_cb hr h
theorem ef_ct {r : List V → Hp → VK → Prop} {f : List D → Option (List D)} (hc : CallR X (.type T) r) (hr : RCF X.K r f) (hg : Gl X x) (hm : X.mg x = none) (hv : bootBuiltins x = some (.type T)) (ha : PA X (e :: es) (tPA X.K gs)) (hn : x ≠ "__name__" := by decide) (hdb : (x == ("__debug__" : Str)) = false := by decide)
    (he : starEach (e :: es) X.env = (false, eval e X.env) :: starEach es X.env := by rfl) (hpl : (backTo pos (starEach es X.env)).any (·.1) = false := by rfl) : PE X (.Call (.Name x p) (e :: es) [] pos) (tF X.K (gArgs gs f)) :=
  PE.imp (pe_callTy hc hg hm hv ha hn hdb he hpl) fun _ _ _ h => p_cbF hr h
def lenD : List D → Option D
  | [.str x] => some (.int x.length)
  | [.list xs] => some (.int xs.length)
  | [.tuple xs] => some (.int xs.length)
  | _ => none
theorem d_len : RCD K (fun xs H Q => ∃ x n, xs = [x] ∧ LenV K x H n ∧ Q (.int n) H) lenD := by
  intro vs ds d G H Q s da e k
  match ds, e with
  | [.str x], e =>
    match vs, da with
    | _, .cons (.str _ z o) .nil => cases e; exact ⟨_, _, rfl, ⟨z, rfl⟩, k _ G H (.refl s) (.int _)⟩
  | [.list ys], e =>
    match vs, da with
    | _, .cons (.lst q z r) .nil => cases e; exact ⟨_, _, rfl, .inl ⟨_, SqL.of (s _ _ q), rfl⟩, k _ G H (.refl s) (by rw [r.length]; exact .int _)⟩
  | [.tuple ys], e =>
    match vs, da with
    | _, .cons (.tup q z r) .nil => cases e; exact ⟨_, _, rfl, .inr ⟨_, sqt_mono s q.sq, rfl⟩, k _ G H (.refl s) (by rw [r.length]; exact .int _)⟩
def min2 : List D → Option D
  | [.int i, .int j] => some (.int (if j < i then j else i))
  | _ => none
def max2 : List D → Option D
  | [.int i, .int j] => some (.int (if j > i then j else i))
  | _ => none
theorem d_min2 : RCD K (fun xs H Q => ∃ i j, xs = [.int i, .int j] ∧ Q (.int (if j < i then j else i)) H) min2 := by
  intro vs ds d G H Q s da e k
  match ds, e with
  | [.int i, .int j], e =>
    match vs, da with
    | _, .cons (.int _) (.cons (.int _) .nil) => cases e; exact ⟨i, j, rfl, k _ G H (.refl s) (.int _)⟩
theorem d_max2 : RCD K (fun xs H Q => ∃ i j, xs = [.int i, .int j] ∧ Q (.int (if j > i then j else i)) H) max2 := by
  intro vs ds d G H Q s da e k
  match ds, e with
  | [.int i, .int j], e =>
    match vs, da with
    | _, .cons (.int _) (.cons (.int _) .nil) => cases e; exact ⟨i, j, rfl, k _ G H (.refl s) (.int _)⟩
def absD : List D → Option D
  | [.int i] => some (.int (if i < 0 then -i else i))
  | _ => none
theorem d_abs : RCD K (fun xs H Q => ∃ i, xs = [.int i] ∧ Q (.int (if i < 0 then -i else i)) H) absD := by
  intro vs ds d G H Q s da e k
  match ds, e with
  | [.int i], e =>
    match vs, da with
    | _, .cons (.int _) .nil => cases e; exact ⟨i, rfl, k _ G H (.refl s) (.int _)⟩
def intD : List D → Option D
  | [.int i] => some (.int i)
  | [.bool b] => some (.int (if b then 1 else 0))
  | _ => none
theorem d_int : RCD K (fun xs H Q => (∃ i, xs = [.int i] ∧ Q (.int i) H) ∨ ∃ k, xs = [.bl k] ∧ Q (.int (if k then 1 else 0)) H) intD := by
  intro vs ds d G H Q s da e k
  match ds, e with
  | [.int i], e =>
    match vs, da with
    | _, .cons (.int _) .nil => cases e; exact .inl ⟨i, rfl, k _ G H (.refl s) (.int _)⟩
  | [.bool b], e =>
    match vs, da with
    | _, .cons (.bl _) .nil => cases e; exact .inr ⟨b, rfl, k _ G H (.refl s) (.int _)⟩
def listD : List D → Option (List D)
  | [.list xs] => some xs
  | [.tuple xs] => some xs
  | _ => none
theorem d_list : RCF K (fun xs H Q => ∃ p ys, xs = [.ref p] ∧ (SqL K H p ys ∨ SqT K H p ys) ∧ ∀ l, H l = none → Q (.ref l) (upd H l (.lst ys))) listD := by
  intro vs ds d G H Q s da e k
  match ds, e with
  | [.list ys], e =>
    match vs, da with
    | _, .cons (.lst q z r) .nil => cases e; exact ⟨_, _, rfl, .inl (SqL.of (s _ _ q)), fun l hl => k l _ G _ (.own s hl) (s.free hl) hl upd_same z r⟩
  | [.tuple ys], e =>
    match vs, da with
    | _, .cons (.tup q z r) .nil => cases e; exact ⟨_, _, rfl, .inr (sqt_mono s q.sq), fun l hl => k l _ G _ (.own s hl) (s.free hl) hl upd_same z r⟩
def tupleD : List D → Option D
  | [.list xs] => some (.tuple xs)
  | [.tuple xs] => some (.tuple xs)
  | _ => none
theorem d_tuple : RCD K (fun xs H Q => ∃ p ys, xs = [.ref p] ∧ ((SqL K H p ys ∧ ∀ l o, o.dict = none → H l = none → Q (.ref l) (upd H l (.frz o (.tup ys)))) ∨ (SqT K H p ys ∧ Q (.ref p) H))) tupleD := by
  intro vs ds d G H Q s da e k
  match ds, e with
  | [.list ys], e =>
    match vs, da with
    | _, .cons (.lst q z r) .nil =>
      cases e
      exact ⟨_, _, rfl, .inl ⟨SqL.of (s _ _ q), fun l o dn hl => k _ (upd G l _) _ (.upd s hl) (.tup (PqT.new dn) z (r.mono fun b u e => by rw [upd_ne (ne_of_none e (s.free hl))]; exact e))⟩⟩
  | [.tuple ys], e =>
    match vs, da with
    | _, .cons (.tup q z r) .nil => cases e; exact ⟨_, _, rfl, .inr ⟨sqt_mono s q.sq, k _ G H (.refl s) (.tup q z r)⟩⟩
def boolsOf : List D → Option (List Bool)
  | [] => some []
  | .bool b :: r => (boolsOf r).map (b :: ·)
  | _ => none
theorem bools_den {G : Hp} : ∀ {vs : List V} {ds : List D} {bs : List Bool}, DenAll K G vs ds → boolsOf ds = some bs → vs = bs.map V.bl
  | _, _, _, .nil, e => by cases e; rfl
  | _, _, _, .cons (d := d) (ds := ds) h r, e => by
    cases h with
    | bl b =>
      simp only [boolsOf] at e
      cases eq : boolsOf ds with
      | none => rw [eq] at e; cases e
      | some bs => rw [eq] at e; cases e; rw [bools_den r eq]; rfl
    | _ => cases e
def allD : List D → Option D
  | [.list xs] => (boolsOf xs).map fun bs => .bool (bs.all fun b => b)
  | _ => none
theorem d_all : RCD K (rAll K) allD := by
  intro vs ds d G H Q s da e k
  match ds, e with
  | [.list ds], e =>
    match vs, da with
    | _, .cons (.lst q z r) .nil =>
      simp only [allD] at e
      cases eq : boolsOf ds with
      | none => rw [eq] at e; cases e
      | some bs =>
        rw [eq] at e
        cases e
        have hv := bools_den r eq
        subst hv
        exact ⟨_, bs, rfl, SqL.of (s _ _ q), k _ G H (.refl s) (.bl _)⟩
def least : List Int → Option Int
  | [] => none
  | x :: xs => some (xs.foldl min x)
def tyD : D → String
  | .none => "NoneType" | .bool _ => "bool" | .int _ => "int" | .str _ => "str" | .list _ => "list" | .tuple _ => "tuple" | .dict [] => "dict" | .dict (_ :: _) => "?"
theorem tyX_den {G H : Hp} {v : V} {d : D} (s : Same G H) (h : Den K G v d) (nq : tyD d ≠ "?") : TyX K H v (.type (tyD d)) := by
  cases h with
  | non => exact .base .non
  | bl b => exact .base (.bl _)
  | int i => exact .base (.int _)
  | str x _ _ => exact .base (.str _)
  | lst q z r => exact .base (.lst (s _ _ q))
  | emp q => exact .base (.dK (s _ _ q))
  | dct _ _ _ => exact absurd rfl nq
  | obj _ _ _ => exact absurd rfl nq
  | tup q z r =>
    rcases q with ⟨o, q, _⟩ | ⟨o, its, n, q, c, _⟩
    · exact .fTuple (s _ _ q)
    · exact .kTuple q c
theorem kitB_q {T : String} (h : T ≠ "?") : kitB "?" T = none := by
  unfold kitB
  rw [if_neg (by
    intro z
    have z' : Value.type "?" = Value.type T := by simpa using z
    injection z' with z'
    exact h z'.symm)]
  split
  · rw [show PySem.fastBuiltinMro "?" = none from by decide +kernel]
    rfl
  · rfl
theorem ty_nq {T : String} (h : T ≠ "?") {d : D} {b : Bool} (e : kitB (tyD d) T = some b) : tyD d ≠ "?" := fun z => by
  rw [z, kitB_q h] at e
  cases e
def gIsi (T : String) (g : DS S → Option D) : DS S → Option D := fun ds => (g ds).bind fun d => (kitB (tyD d) T).map .bool
theorem ep_isi {T : String} {ty : Str} {p2 : Pos} {v2 : Value} (hg : Gl X "isinstance") (hm : X.mg "isinstance" = none) (ha : PE X e (tP X.K ga)) (hT : PE X (.Name ty p2) (tC (.ty T)))
    (he : starEach (e :: [Expr.Name ty p2]) X.env = (false, eval e X.env) :: starEach [Expr.Name ty p2] X.env := by rfl) (he2 : starEach [Expr.Name ty p2] X.env = (false, eval (.Name ty p2) X.env) :: starEach [] X.env := by rfl) (hpl : (backTo pos (starEach [Expr.Name ty p2] X.env)).any (·.1) = false := by rfl) (hq : T ≠ "?" := by decide) :
    PE X (.Call (.Name "isinstance" p) [e, .Name ty p2] [] pos) (tP X.K (gIsi T ga)) :=
  PE.imp (pe_callB call_isi hg hm (by decide +kernel) (pa_cons ha (pa_cons hT pa_nil he2) he) (by decide) (by decide) he hpl) fun σ H Q ⟨G, ds, d, s, w, e, k⟩ => by
    unfold gIsi at e
    cases ea : ga ds with
    | none => rw [ea] at e; cases e
    | some x =>
      rw [ea] at e
      simp only [Option.bind_some] at e
      cases eq : kitB (tyD x) T with
      | none => rw [eq] at e; cases e
      | some b =>
        rw [eq] at e
        cases e
        refine ⟨G, ds, x, s, w, ea, fun v G1 H1 g1 d1 => ?_⟩
        exact ⟨v, .ty T, _, _, b, rfl, .ty T, tyX_den g1.sub d1 (ty_nq hq eq), kit_ty eq, k _ G1 H1 g1 (.bl _)⟩
def allAlikeB (ds : List D) : Bool := ds.all fun a => ds.all fun b => PySem.W.alike a b
def sortableB (ds : List D) : Bool := (ds.all fun d => match d with | .tuple (_ :: _) => true | _ => false) || (ds.all fun d => match d with | .none => false | .tuple _ => false | _ => true)
mutual
theorem noD_self : ∀ {d : D}, PySem.W.alike d d = true → noD d = true
  | .none, _ => rfl
  | .bool _, _ => rfl
  | .int _, _ => rfl
  | .str _, _ => rfl
  | .list xs, h => by unfold PySem.W.alike at h; exact noDAll_self h
  | .tuple xs, h => by unfold PySem.W.alike at h; exact noDAll_self h
  | .dict _, h => by unfold PySem.W.alike at h; cases h
theorem noDAll_self : ∀ {ds : List D}, PySem.W.alikeAll ds ds = true → noDAll ds = true
  | [], _ => rfl
  | x :: xs, h => by
    unfold PySem.W.alikeAll at h
    obtain ⟨h1, h2⟩ := Bool.and_eq_true_iff.mp h
    unfold noDAll
    rw [noD_self h1, noDAll_self h2]
    rfl
end
theorem noD_alike : ∀ {ds : List D}, allAlikeB ds = true → noDAll ds = true := fun {ds} h => by
  have := noDAll_map (f := id) (l := ds) fun x hx => noD_self (List.all_eq_true.mp (List.all_eq_true.mp h x hx) x hx)
  rwa [List.map_id] at this
theorem allAlike_of {ds : List D} (h : allAlikeB ds = true) : PySem.W.AllAlike ds := fun a ha b hb => List.all_eq_true.mp (List.all_eq_true.mp h a ha) b hb
theorem sortable_of {ds : List D} (h : sortableB ds = true) : PySem.W.Sortable ds := by
  unfold sortableB at h
  rcases Bool.or_eq_true_iff.mp h with h | h
  · refine .inl fun d hd => ?_
    have q := List.all_eq_true.mp h d hd
    match d, q with
    | .tuple (x :: r), _ => exact ⟨x, r, rfl⟩
  · refine .inr fun d hd => ?_
    have q := List.all_eq_true.mp h d hd
    refine ⟨fun e => ?_, fun xs e => ?_⟩ <;> (rw [e] at q; cases q)
def sortD (ds : List D) : List D := ds.mergeSort (PySem.W.dataLe false fun d => d)
def sortedD : List D → Option (List D)
  | [.list xs] => if allAlikeB xs = true ∧ sortableB xs = true ∧ PyData.depthAll xs ≤ 64 then some (sortD xs) else none
  | _ => none
theorem each_of {R : Value → V × D → Prop} {H : Hp} : ∀ {vs : List V} {ds : List D} {us : List Value}, DpAll K H vs ds → Vals vs us → (∀ v d u, Dp K H v d → RelV v u → R u (v, d)) → PySem.W.EachIs R us (vs.zip ds)
  | _, _, _, .nil, .nil, _ => .nil
  | _, _, _, .cons h r, .cons rv rr, f => .cons (f _ _ _ h rv) (each_of r rr f)
theorem zip_snd {H : Hp} : ∀ {vs : List V} {ds : List D}, DpAll K H vs ds → (vs.zip ds).map (·.2) = ds
  | _, _, .nil => rfl
  | _, _, .cons h r => by
    show _ :: (List.zip _ _).map _ = _
    rw [zip_snd r]
theorem vals_each {ps : List (V × D)} {out : List Value} (h : PySem.W.EachIs (fun u (p : V × D) => RelV p.1 u) out ps) : Vals (ps.map (·.1)) out := by
  induction h with
  | nil => exact .nil
  | cons r _ ih => exact .cons r ih
theorem denAll_zip {G : Hp} : ∀ {ps : List (V × D)}, (∀ p ∈ ps, Den K G p.1 p.2) → DenAll K G (ps.map (·.1)) (ps.map (·.2))
  | [], _ => .nil
  | p :: ps, h => .cons (h p List.mem_cons_self) (denAll_zip fun q hq => h q (List.mem_cons_of_mem _ hq))
theorem den_zip {G : Hp} : ∀ {vs : List V} {ds : List D}, DenAll K G vs ds → ∀ p ∈ vs.zip ds, Den K G p.1 p.2
  | _, _, .nil, _, h => by cases h
  | _, _, .cons h r, p, hp => by
    rcases List.mem_cons.mp hp with rfl | hp
    · exact h
    · exact den_zip r p hp
theorem depth_all : ∀ {ds : List D} {n : Nat}, PyData.depthAll ds ≤ n → ∀ d ∈ ds, d.depth ≤ n
  | x :: ds, n, h, d, hd => by
    unfold PyData.depthAll at h
    rcases List.mem_cons.mp hd with rfl | hd
    · omega
    · exact depth_all (n := n) (by omega) d hd
end
structure StI (S : Type) where
  rel : Hp → Hp → V → S → (Addr → Prop) → Prop
  frame : ∀ {G G' H H' : Hp} {v : V} {s : S} {fp : Addr → Prop}, rel G H v s fp → SameX G G' → (∀ a, fp a → H' a = H a) → rel G' H' v s fp
  trk : ∀ {G H : Hp} {v : V} {s : S} {fp : Addr → Prop}, rel G H v s fp → ∀ a, fp a → H a ≠ none
def FVAt (K : PySem.W.Frag) (G H : Hp) (v : V) (m : FV) (fp : Addr → Prop) : Prop :=
  match m with
  | .d x => Den K G v x ∧ ∀ a, ¬ fp a
  | .l xs => ∃ p vs, v = .ref p ∧ H p = some (.lst vs) ∧ vs.length ≤ sizeLine ∧ DenAll K G vs xs ∧ ∀ a, fp a ↔ a = p
  | .k kvs => ∃ p xs, v = .ref p ∧ H p = some (.dK xs) ∧ xs.length ≤ sizeLine ∧ KVsD K G xs kvs ∧ ∀ a, fp a ↔ a = p
inductive FsAt (K : PySem.W.Frag) (G H : Hp) : List (Str × V) → List (Str × FV) → (Addr → Prop) → Prop
  | nil {fp : Addr → Prop} : (∀ a, ¬ fp a) → FsAt K G H [] [] fp
  | cons {f : Str} {v : V} {m : FV} {r : List (Str × V)} {s : List (Str × FV)} {f1 f2 fp : Addr → Prop} : FVAt K G H v m f1 → FsAt K G H r s f2 → (∀ a, f1 a → ¬ f2 a) → (∀ a, fp a ↔ f1 a ∨ f2 a) → FsAt K G H ((f, v) :: r) ((f, m) :: s) fp
section
variable {K : PySem.W.Frag} {G H G' H' : Hp}
theorem FVAt.trk {v : V} {m : FV} {fp : Addr → Prop} (h : FVAt K G H v m fp) : ∀ a, fp a → H a ≠ none := fun a ha => by
  cases m with
  | d x => exact absurd ha (h.2 a)
  | l xs =>
    obtain ⟨p, vs, _, e, _, _, q⟩ := h
    rw [(q a).mp ha, e]
    simp
  | k kvs =>
    obtain ⟨p, xs, _, e, _, _, q⟩ := h
    rw [(q a).mp ha, e]
    simp
theorem FVAt.mono {v : V} {m : FV} {fp : Addr → Prop} (h : FVAt K G H v m fp) (s : Same G G') (k : ∀ a, fp a → H' a = H a) : FVAt K G' H' v m fp := by
  cases m with
  | d x => exact ⟨h.1.mono s, h.2⟩
  | l xs =>
    obtain ⟨p, vs, e0, e, z, d, q⟩ := h
    exact ⟨p, vs, e0, by rw [k p ((q p).mpr rfl)]; exact e, z, d.mono s, q⟩
  | k kvs =>
    obtain ⟨p, xs, e0, e, z, d, q⟩ := h
    exact ⟨p, xs, e0, by rw [k p ((q p).mpr rfl)]; exact e, z, d.mono s, q⟩
theorem FsAt.trk : ∀ {vs : List (Str × V)} {fs : List (Str × FV)} {fp : Addr → Prop}, FsAt K G H vs fs fp → ∀ a, fp a → H a ≠ none
  | _, _, _, .nil n, a, ha => absurd ha (n a)
  | _, _, _, .cons h r _ e, a, ha => ((e a).mp ha).elim (h.trk a) (FsAt.trk r a)
theorem FsAt.mono : ∀ {vs : List (Str × V)} {fs : List (Str × FV)} {fp : Addr → Prop}, FsAt K G H vs fs fp → Same G G' → (∀ a, fp a → H' a = H a) → FsAt K G' H' vs fs fp
  | _, _, _, .nil n, s, k => .nil n
  | _, _, _, .cons h r d e, s, k => .cons (h.mono s fun a ha => k a ((e a).mpr (.inl ha))) (FsAt.mono r s fun a ha => k a ((e a).mpr (.inr ha))) d e
theorem kvs_den : ∀ {xs : List (Key × V)} {kvs : List (Key × D)}, KVsD K G xs kvs → DenKV K G xs (encKs kvs)
  | _, _, .nil => .nil
  | _, _, .cons a b r => .cons a b (kvs_den r)
theorem FVAt.den {v : V} {m : FV} {fp : Addr → Prop} (h : FVAt K G H v m fp) (s : Same G G') (k : ∀ a, fp a → G' a = H a) : Den K G' v (fvD m) := by
  cases m with
  | d x => exact h.1.mono s
  | l xs =>
    obtain ⟨p, vs, rfl, e, z, d, q⟩ := h
    exact .lst (by rw [k p ((q p).mpr rfl)]; exact e) z (d.mono s)
  | k kvs =>
    obtain ⟨p, xs, rfl, e, z, d, q⟩ := h
    exact .dct (by rw [k p ((q p).mpr rfl)]; exact e) z (kvs_den (d.mono s))
theorem FsAt.den : ∀ {vs : List (Str × V)} {fs : List (Str × FV)} {fp : Addr → Prop}, FsAt K G H vs fs fp → Same G G' → (∀ a, fp a → G' a = H a) → DenFs K G' vs (fsD fs)
  | _, _, _, .nil n, s, k => .nil
  | _, _, _, .cons h r d e, s, k => .cons (h.den s fun a ha => k a ((e a).mpr (.inl ha))) (FsAt.den r s fun a ha => k a ((e a).mpr (.inr ha)))
theorem FsAt.kind : ∀ {vs : List (Str × V)} {fs : List (Str × FV)} {fp : Addr → Prop}, FsAt K G H vs fs fp → ∀ a, fp a → (∃ ws, H a = some (.lst ws)) ∨ ∃ xs, H a = some (.dK xs)
  | _, _, _, .nil n, a, ha => absurd ha (n a)
  | _, _, _, .cons (m := m) h r _ e, a, ha => by
    rcases (e a).mp ha with z | z
    · cases m with
      | d x => exact absurd z (h.2 a)
      | l xs => obtain ⟨p, vs, _, q, _, _, n⟩ := h; exact .inl ⟨vs, by rw [(n a).mp z]; exact q⟩
      | k kvs => obtain ⟨p, vs, _, q, _, _, n⟩ := h; exact .inr ⟨vs, by rw [(n a).mp z]; exact q⟩
    · exact FsAt.kind r a z
end
def ovr (B G : Hp) : Hp := fun a => match B a with
  | some o => some o
  | none => G a
theorem ovr_mono {B G G' : Hp} (s : Same G G') : Same (ovr B G) (ovr B G') := fun a o e => by
  unfold ovr at e ⊢
  cases h : B a with
  | some u => rw [h] at e; exact e
  | none => rw [h] at e; exact s a o e
def noL (G : Hp) : Hp := fun a => match G a with
  | some (.lst _) => none
  | some (.dK _) => none
  | some (.ins _ _ _) => none
  | o => o
theorem noL_of {G : Hp} {a : Addr} {o : HO} (e : noL G a = some o) : G a = some o ∧ (∀ vs, o ≠ .lst vs) ∧ (∀ xs, o ≠ .dK xs) ∧ ∀ C dx fs, o ≠ .ins C dx fs := by
  unfold noL at e
  split at e
  · cases e
  · cases e
  · cases e
  · rename_i h1 h2 h3
    refine ⟨e, fun vs z => h1 vs (by rw [e, z]), fun vs z => h2 vs (by rw [e, z]), fun a b c z => h3 a b c (by rw [e, z])⟩
theorem noL_mk {G : Hp} {a : Addr} {o : HO} (e : G a = some o) (h1 : ∀ vs, o ≠ .lst vs) (h2 : ∀ xs, o ≠ .dK xs) (h3 : ∀ C dx fs, o ≠ .ins C dx fs) : noL G a = some o := by
  unfold noL
  rw [e]
  split
  · rename_i z; cases z; exact absurd rfl (h1 _)
  · rename_i z; cases z; exact absurd rfl (h2 _)
  · rename_i z; cases z; exact absurd rfl (h3 _ _ _)
  · rfl
theorem noL_mono {G G' : Hp} (s : Same G G') : Same (noL G) (noL G') := fun a o e => by
  obtain ⟨h, h1, h2, h3⟩ := noL_of e
  exact noL_mk (s a o h) h1 h2 h3
def OwnAt {S : Type} (K : PySem.W.Frag) (R : StI S) (G H : Hp) (v : V) (m : MO S) (fp : Addr → Prop) : Prop :=
  match m with
  | .d x => Den K G v x ∧ ∀ a, ¬ fp a
  | .lst xs => ∃ p vs, v = .ref p ∧ H p = some (.lst vs) ∧ vs.length ≤ sizeLine ∧ DenAll K G vs xs ∧ ∀ a, fp a ↔ a = p
  | .st s => R.rel G H v s fp
  | .scr ns => (∃ a, v = .ref a ∧ SqL K G a (ns.map V.int)) ∧ ∀ a, ¬ fp a
  | .dic kvs => ∃ p xs, v = .ref p ∧ H p = some (.dK xs) ∧ xs.length ≤ sizeLine ∧ KVsD K G xs kvs ∧ ∀ a, fp a ↔ a = p
  | .lk kvs => (∃ a o xs, v = .ref a ∧ G a = some (.frz o (.dK xs)) ∧ xs.length ≤ sizeLine ∧ KVsD K G xs kvs) ∧ ∀ a, ¬ fp a
  | .dp x => ∃ B : Hp, (∀ a, fp a ↔ B a ≠ none) ∧ Same B H ∧ Den K (ovr B (noL G)) v x
  | .obj x fs => ∃ p C dx vs f1, v = .ref p ∧ PySem.W.nsIn K mainGlobals x = some (some (.ref C)) ∧ H p = some (.ins C dx vs) ∧ FsAt K G H vs fs f1 ∧ ¬ f1 p ∧ ∀ a, fp a ↔ a = p ∨ f1 a
structure Step (G H : Hp) (P : Addr → Prop) (G' H' : Hp) (P' : Addr → Prop) : Prop where
  frame : ∀ a, ¬ P a → ∀ o, H a = some o → H' a = some o
  keep : Same G G'
  sub : Same G' H'
  new0 : ∀ b, G' b ≠ none → G b ≠ none ∨ H b = none ∨ P b
  newf : ∀ b, P' b → P b ∨ H b = none
structure RS {S : Type} (K : PySem.W.Frag) (R : StI S) (ds : DS S) (σ : L2.St) (G H : Hp) (F : Nat → Addr → Prop) : Prop where
  sub : Same G H
  len : ds.length = σ.length
  own : ∀ (i : Nat) (m : MO S), ds[i]? = some (some m) → ∃ v, σ[i]? = some (some v) ∧ OwnAt K R G H v m (F i)
  emp : ∀ (i : Nat), (∀ m : MO S, ds[i]? ≠ some (some m)) → ∀ a, ¬ F i a
  dj : ∀ (i j : Nat) (a : Addr), F i a → F j a → i = j
  dis : ∀ (i : Nat) (a : Addr), F i a → G a = none
section
variable {S : Type} {K : PySem.W.Frag} {R : StI S} {G H G' H' G1 H1 G2 H2 : Hp} {v : V} {m : MO S} {fp P P' P1 P2 : Addr → Prop} {ds : DS S} {σ : L2.St} {F : Nat → Addr → Prop}
theorem OwnAt.trk (h : OwnAt K R G H v m fp) : ∀ a, fp a → H a ≠ none := fun a ha => by
  cases m with
  | d x => exact absurd ha (h.2 a)
  | lst xs =>
    obtain ⟨p, vs, _, e, _, _, q⟩ := h
    rw [(q a).mp ha, e]
    simp
  | st s => exact R.trk h a ha
  | scr ns => exact absurd ha (h.2 a)
  | dic kvs =>
    obtain ⟨p, xs, _, e, _, _, q⟩ := h
    rw [(q a).mp ha, e]
    simp
  | lk kvs => exact absurd ha (h.2 a)
  | dp x =>
    obtain ⟨B, e, q, d⟩ := h
    intro z
    cases eb : B a with
    | none => exact (e a).mp ha eb
    | some o => rw [q a o eb] at z; cases z
  | obj x fs =>
    obtain ⟨p, C, dx, vs, f1, _, _, e, q, _, n⟩ := h
    rcases (n a).mp ha with z | z
    · rw [z, e]; simp
    · exact q.trk a z
theorem OwnAt.mono (h : OwnAt K R G H v m fp) (s : Same G G') (k : ∀ a, fp a → H' a = H a) : OwnAt K R G' H' v m fp := by
  cases m with
  | d x => exact ⟨h.1.mono s, h.2⟩
  | lst xs =>
    obtain ⟨p, vs, e0, e, z, d, q⟩ := h
    exact ⟨p, vs, e0, by rw [k p ((q p).mpr rfl)]; exact e, z, d.mono s, q⟩
  | st t => exact R.frame h (SameX.of s) k
  | scr ns =>
    obtain ⟨⟨a, e, q⟩, n⟩ := h
    exact ⟨⟨a, e, sql_mono s q⟩, n⟩
  | dic kvs =>
    obtain ⟨p, xs, e0, e, z, d, q⟩ := h
    exact ⟨p, xs, e0, by rw [k p ((q p).mpr rfl)]; exact e, z, d.mono s, q⟩
  | lk kvs =>
    obtain ⟨⟨a, o, xs, e0, e, z, d⟩, n⟩ := h
    exact ⟨⟨a, o, xs, e0, s _ _ e, z, d.mono s⟩, n⟩
  | dp x =>
    obtain ⟨B, e, q, d⟩ := h
    exact ⟨B, e, fun a o eb => by rw [k a ((e a).mpr (by rw [eb]; exact nofun))]; exact q a o eb, d.mono (ovr_mono (noL_mono s))⟩
  | obj x fs =>
    obtain ⟨p, C, dx, vs, f1, e0, c, e, q, np, n⟩ := h
    exact ⟨p, C, dx, vs, f1, e0, c, by rw [k p ((n p).mpr (.inl rfl))]; exact e, q.mono s fun a ha => k a ((n a).mpr (.inr ha)), np, n⟩
theorem OwnAt.iff {fq : Addr → Prop} (h : OwnAt K R G H v m fp) (e : ∀ a, fq a ↔ fp a) : OwnAt K R G H v m fq := by
  have : fq = fp := funext fun a => propext (e a)
  rw [this]
  exact h
theorem Step.refl (s : Same G H) : Step G H P G H P := ⟨fun _ _ _ h => h, Same.refl _, s, fun _ h => .inl h, fun _ h => .inl h⟩
theorem Step.trans (a : Step G H P G1 H1 P1) (b : Step G1 H1 P1 G2 H2 P2) : Step G H P G2 H2 P2 := by
  have nP1 : ∀ c, ¬ P c → ∀ o, H c = some o → ¬ P1 c := fun c hc o e q => (a.newf c q).elim hc fun z => by rw [e] at z; cases z
  have back : ∀ c, H1 c = none → H c = none ∨ P c := fun c z => by
    by_cases hc : P c
    · exact .inr hc
    · cases q : H c with
      | none => exact .inl rfl
      | some o => rw [a.frame c hc o q] at z; cases z
  refine ⟨fun c hc o e => b.frame c (nP1 c hc o e) o (a.frame c hc o e), a.keep.trans b.keep, b.sub, fun c h => ?_, fun c h => ?_⟩
  · rcases b.new0 c h with h1 | h1 | h1
    · exact a.new0 c h1
    · rcases back c h1 with z | z
      · exact .inr (.inl z)
      · exact .inr (.inr z)
    · rcases a.newf c h1 with z | z
      · exact .inr (.inr z)
      · exact .inr (.inl z)
  · rcases b.newf c h with h1 | h1
    · exact a.newf c h1
    · rcases back c h1 with z | z
      · exact .inr z
      · exact .inl z
theorem Step.weaken (a : Step G H P G1 H1 P1) (h : ∀ b, P2 b → P1 b) : Step G H P G1 H1 P2 := ⟨a.frame, a.keep, a.sub, a.new0, fun b q => a.newf b (h b q)⟩
theorem Gr.step (g : Gr G H G' H') : Step G H P G' H' P := ⟨fun a _ o e => g.all a o e, g.keep, g.sub, fun b h => (g.new b h).elim .inl fun z => .inr (.inl z), fun _ h => .inl h⟩
theorem RS.trk (r : RS K R ds σ G H F) : ∀ i a, F i a → H a ≠ none := fun i a ha => by
  by_cases h : ∃ m : MO S, ds[i]? = some (some m)
  · obtain ⟨m, e⟩ := h
    obtain ⟨v, _, o⟩ := r.own i m e
    exact o.trk a ha
  · exact absurd ha (r.emp i (fun m e => h ⟨m, e⟩) a)
theorem RS.grow (r : RS K R ds σ G H F) (g : Gr G H G' H') : RS K R ds σ G' H' F where
  sub := g.sub
  len := r.len
  own := fun i m e => by
    obtain ⟨v, h1, h2⟩ := r.own i m e
    refine ⟨v, h1, h2.mono g.keep fun a ha => ?_⟩
    cases q : H a with
    | none => exact absurd q (r.trk i a ha)
    | some o => exact g.all a o q
  emp := r.emp
  dj := r.dj
  dis := fun i a ha => by
    cases q : G' a with
    | none => rfl
    | some o =>
      rcases g.new a (by rw [q]; simp) with z | z
      · exact absurd (r.dis i a ha) z
      · exact absurd z (r.trk i a ha)
def hideM : Option (MO S) → Option (MO S)
  | some (.lst _) => none
  | some (.dic _) => none
  | some (.obj _ _) => none
  | some (.dp _) => none
  | o => o
def hideDS (ds : DS S) : DS S := ds.map hideM
theorem RS.view (r : RS K R ds σ G H F) : View K G σ (hideDS ds) := by
  refine ⟨by unfold hideDS; rw [List.length_map]; exact r.len, fun i m e => ?_⟩
  unfold hideDS at e
  rw [List.getElem?_map] at e
  cases q : ds[i]? with
  | none => rw [q] at e; cases e
  | some o =>
    rw [q] at e
    cases o with
    | none => cases e
    | some m' =>
      cases m' with
      | lst xs => cases e
      | dic kvs => cases e
      | lk kvs =>
        cases e
        obtain ⟨v, h1, h2⟩ := r.own i _ q
        obtain ⟨⟨a, o, xs, e0, e, z, d⟩, _⟩ := h2
        exact ⟨v, h1, a, o, xs, e0, e, z, d⟩
      | obj x fs => cases e
      | dp x => cases e
      | d x =>
        cases e
        obtain ⟨v, h1, h2⟩ := r.own i _ q
        exact ⟨v, h1, h2.1⟩
      | st s =>
        cases e
        obtain ⟨v, h1, h2⟩ := r.own i _ q
        exact ⟨v, h1, trivial⟩
      | scr ns =>
        cases e
        obtain ⟨v, h1, h2⟩ := r.own i _ q
        exact ⟨v, h1, h2.1⟩
def setF (F : Nat → Addr → Prop) (i : Nat) (fr : Addr → Prop) : Nat → Addr → Prop := fun j a => if j = i then fr a else F j a
theorem RS.set (r : RS K R ds σ G H F) (i : Nat) (hi : i < ds.length) {fr : Addr → Prop} (o : OwnAt K R G H v m fr) (h1 : ∀ a, fr a → ¬ ∃ j, F j a) (h2 : ∀ a, fr a → G a = none) : RS K R (ds.set i (some m)) (σ.set i (some v)) G H (setF F i fr) where
  sub := r.sub
  len := by rw [List.length_set, List.length_set]; exact r.len
  own := fun j m' e => by
    by_cases hj : i = j
    · subst hj
      rw [List.getElem?_set_self hi] at e
      cases e
      refine ⟨v, by rw [List.getElem?_set_self (by rw [← r.len]; exact hi)], o.iff fun a => ?_⟩
      unfold setF
      rw [if_pos rfl]
    · rw [List.getElem?_set_ne hj] at e ⊢
      obtain ⟨u, h3, h4⟩ := r.own j m' e
      refine ⟨u, h3, h4.iff fun a => ?_⟩
      unfold setF
      rw [if_neg (Ne.symm hj)]
  emp := fun j e a ha => by
    unfold setF at ha
    by_cases hj : j = i
    · subst hj
      exact e m (List.getElem?_set_self hi)
    · rw [if_neg hj] at ha
      refine r.emp j (fun m' q => e m' ?_) a ha
      rw [List.getElem?_set_ne (Ne.symm hj)]
      exact q
  dj := fun j k a ha hb => by
    unfold setF at ha hb
    by_cases hj : j = i
    · rw [if_pos hj] at ha
      by_cases hk : k = i
      · rw [hj, hk]
      · rw [if_neg hk] at hb
        exact absurd ⟨k, hb⟩ (h1 a ha)
    · rw [if_neg hj] at ha
      by_cases hk : k = i
      · rw [if_pos hk] at hb
        exact absurd ⟨j, ha⟩ (h1 a hb)
      · rw [if_neg hk] at hb
        exact r.dj j k a ha hb
  dis := fun j a ha => by
    unfold setF at ha
    by_cases hj : j = i
    · rw [if_pos hj] at ha; exact h2 a ha
    · rw [if_neg hj] at ha; exact r.dis j a ha
theorem setF_un {i : Nat} {fr : Addr → Prop} : ∀ a, (∃ j, setF F i fr j a) → (∃ j, F j a) ∨ fr a := fun a ⟨j, h⟩ => by
  unfold setF at h
  by_cases hj : j = i
  · rw [if_pos hj] at h; exact .inr h
  · rw [if_neg hj] at h; exact .inl ⟨j, h⟩
end
section
variable {S : Type}
def tX (K : PySem.W.Frag) (R : StI S) (f : DS S → Option (D × DS S)) : TE := fun σ H Q => ∃ G F ds d ds', RS K R ds σ G H F ∧ f ds = some (d, ds') ∧
  ∀ v G' H' F', RS K R ds' σ G' H' F' → Step G H (fun a => ∃ i, F i a) G' H' (fun a => ∃ i, F' i a) → Den K G' v d → Q v H'
def tO (K : PySem.W.Frag) (R : StI S) (f : DS S → Option (MO S × DS S)) : TE := fun σ H Q => ∃ G F ds m ds', RS K R ds σ G H F ∧ f ds = some (m, ds') ∧
  ∀ v G' H' F' fr, RS K R ds' σ G' H' F' → Step G H (fun a => ∃ i, F i a) G' H' (fun a => (∃ i, F' i a) ∨ fr a) → OwnAt K R G' H' v m fr → (∀ a, fr a → ¬ ∃ i, F' i a) → (∀ a, fr a → G' a = none) → Q v H'
def tXT (K : PySem.W.Frag) (R : StI S) (f : DS S → Option (Bool × DS S)) : TT := fun σ H Q => ∃ G F ds b ds', RS K R ds σ G H F ∧ f ds = some (b, ds') ∧
  ∀ G' H' F', RS K R ds' σ G' H' F' → Step G H (fun a => ∃ i, F i a) G' H' (fun a => ∃ i, F' i a) → Q b H'
def tXA (K : PySem.W.Frag) (R : StI S) (f : DS S → Option (List D × DS S)) : TA := fun σ H Q => ∃ G F ds xs ds', RS K R ds σ G H F ∧ f ds = some (xs, ds') ∧
  ∀ vs G' H' F', RS K R ds' σ G' H' F' → Step G H (fun a => ∃ i, F i a) G' H' (fun a => ∃ i, F' i a) → DenAll K G' vs xs → Q vs H'
def tXI (W : Bool) (K : PySem.W.Frag) (R : StI S) (f : DS S → Option (List D × DS S)) : TI := fun σ H Q => ∃ G F ds xs ds', RS K R ds σ G H F ∧ f ds = some (xs, ds') ∧
  ∀ J G' H' F', RS K R ds' σ G' H' F' → Step G H (fun a => ∃ i, F i a) G' H' (fun a => ∃ i, F' i a) → ItD W K J xs G' → Q J H'
end
mutual
def noList : D → Bool
  | .none => true | .bool _ => true | .int _ => true | .str _ => true
  | .list _ => false
  | .tuple xs => noListAll xs
  | .dict _ => false
def noListAll : List D → Bool
  | [] => true
  | x :: xs => noList x && noListAll xs
end
section
variable {K : PySem.W.Frag} {A B : Hp}
theorem frz_nl {o : Obj} {u : HO} (vs : List V) : HO.frz o u ≠ .lst vs := fun z => nomatch z
theorem frz_ni {o : Obj} {u : HO} (C dx : Addr) (fs : List (Str × V)) : HO.frz o u ≠ .ins C dx fs := fun z => nomatch z
theorem frz_nd {o : Obj} {u : HO} (xs : List (Key × V)) : HO.frz o u ≠ .dK xs := fun z => nomatch z
mutual
theorem Den.move (h : ∀ a o, A a = some o → (∀ vs, o ≠ .lst vs) → (∀ xs, o ≠ .dK xs) → (∀ C dx fs, o ≠ .ins C dx fs) → B a = some o) : ∀ {v : V} {d : D}, Den K A v d → noList d = true → Den K B v d
  | _, _, .non, _ => .non
  | _, _, .bl b, _ => .bl b
  | _, _, .int i, _ => .int i
  | _, _, .str x z o, _ => .str x z o
  | _, _, .lst _ _ _, e => by cases e
  | _, _, .tup q z r, e => .tup (q.keep fun o q2 => h _ _ q2 frz_nl frz_nd frz_ni) z (DenAll.move h r e)
  | _, _, .emp _, e => by cases e
  | _, _, .dct _ _ _, e => by cases e
  | _, _, .obj _ _ _, e => by cases e
theorem DenAll.move (h : ∀ a o, A a = some o → (∀ vs, o ≠ .lst vs) → (∀ xs, o ≠ .dK xs) → (∀ C dx fs, o ≠ .ins C dx fs) → B a = some o) : ∀ {vs : List V} {ds : List D}, DenAll K A vs ds → noListAll ds = true → DenAll K B vs ds
  | _, _, .nil, _ => .nil
  | _, _, .cons d r, e => by
    unfold noListAll at e
    obtain ⟨e1, e2⟩ := Bool.and_eq_true_iff.mp e
    exact .cons (Den.move h d e1) (DenAll.move h r e2)
end
end
section
variable {S : Type} {K : PySem.W.Frag} {R : StI S} {G H : Hp} {ds : DS S} {σ : L2.St} {F : Nat → Addr → Prop}
open Classical in
noncomputable def shown (ds : DS S) (G H : Hp) (F : Nat → Addr → Prop) : Hp := fun b => match G b with
  | some o => some o
  | none => if (∃ i xs, ds[i]? = some (some (.lst xs)) ∧ F i b) ∨ (∃ i kvs, ds[i]? = some (some (.dic kvs)) ∧ F i b) ∨ (∃ i x fs, ds[i]? = some (some (.obj x fs)) ∧ F i b) then H b else none
open Classical in
noncomputable def unshown (G H B : Hp) : Hp := fun b => match G b with
  | some o => some o
  | none => if H b = none then B b else none
theorem shown_G {b : Addr} {o : HO} (e : G b = some o) : shown ds G H F b = some o := by unfold shown; rw [e]
theorem shown_sub (s : Same G H) : Same (shown ds G H F) H := fun b o e => by
  unfold shown at e
  cases q : G b with
  | some u => rw [q] at e; cases e; exact s b _ q
  | none =>
    rw [q] at e
    dsimp only at e
    split at e
    · exact e
    · cases e
theorem RS.show (r : RS K R ds σ G H F) : View K (shown ds G H F) σ ds := by
  refine ⟨r.len, fun i m e => ?_⟩
  obtain ⟨v, h1, h2⟩ := r.own i m e
  have sg : Same G (shown ds G H F) := fun b o q => shown_G q
  cases m with
  | d x => exact ⟨v, h1, h2.1.mono sg⟩
  | lst xs =>
    obtain ⟨p, vs, rfl, q, z, dd, n⟩ := h2
    refine ⟨_, h1, .lst ?_ z (dd.mono sg)⟩
    unfold shown
    rw [r.dis i p ((n p).mpr rfl)]
    dsimp only
    rw [if_pos (.inl ⟨i, xs, e, (n p).mpr rfl⟩)]
    exact q
  | st s => exact ⟨v, h1, trivial⟩
  | dic kvs =>
    obtain ⟨p, xs, rfl, q, z, dd, n⟩ := h2
    refine ⟨_, h1, p, xs, rfl, ?_, dd.mono sg⟩
    unfold shown
    rw [r.dis i p ((n p).mpr rfl)]
    dsimp only
    rw [if_pos (.inr (.inl ⟨i, kvs, e, (n p).mpr rfl⟩))]
    exact q
  | lk kvs =>
    obtain ⟨⟨a, o, xs, e0, e, z, d⟩, _⟩ := h2
    exact ⟨v, h1, a, o, xs, e0, sg _ _ e, z, d.mono sg⟩
  | dp x => exact ⟨v, h1, trivial⟩
  | obj x fs =>
    obtain ⟨p, C, dx, vs, f1, rfl, c, q, fa, np, n⟩ := h2
    have sh : ∀ a, a = p ∨ f1 a → shown ds G H F a = H a := fun a ha => by
      have ha' := (n a).mpr ha
      unfold shown
      rw [r.dis i a ha']
      dsimp only
      rw [if_pos (.inr (.inr ⟨i, x, fs, e, ha'⟩))]
    exact ⟨_, h1, .obj (by rw [sh p (.inl rfl)]; exact q) c (fa.den sg fun a ha => sh a (.inr ha))⟩
  | scr ns =>
    obtain ⟨⟨a, e', q⟩, _⟩ := h2
    exact ⟨v, h1, a, e', sql_mono sg q⟩
theorem unshown_gr {B H' : Hp} (r : RS K R ds σ G H F) (g : Gr (shown ds G H F) H B H') : Gr G H (unshown G H B) H' := by
  refine ⟨fun b o e => by unfold unshown; rw [e], fun b o e => ?_, g.all, fun b h => ?_⟩
  · unfold unshown at e
    cases q : G b with
    | some u => rw [q] at e; cases e; exact g.all _ _ (r.sub _ _ q)
    | none =>
      rw [q] at e
      dsimp only at e
      split at e
      · exact g.sub _ _ e
      · cases e
  · unfold unshown at h
    cases q : G b with
    | some u => exact .inl (by simp)
    | none =>
      rw [q] at h
      dsimp only at h
      split at h
      · rename_i z; exact .inr z
      · exact absurd rfl h
theorem unshown_move {B H' : Hp} (r : RS K R ds σ G H F) (g : Gr (shown ds G H F) H B H') : ∀ a o, B a = some o → (∀ vs, o ≠ .lst vs) → (∀ xs, o ≠ .dK xs) → (∀ C dx fs, o ≠ .ins C dx fs) → unshown G H B a = some o := fun a o e n n2 n3 => by
  unfold unshown
  cases q : G a with
  | some u =>
    have := g.keep a u (shown_G q)
    rw [e] at this
    cases this
    rfl
  | none =>
    dsimp only
    rcases g.new a (by rw [e]; simp) with z | z
    · exfalso
      cases q2 : shown ds G H F a with
      | none => exact z q2
      | some u =>
        have hk := g.keep a u q2
        rw [e] at hk
        cases hk
        unfold shown at q2
        rw [q] at q2
        dsimp only at q2
        split at q2
        · rename_i hx
          rcases hx with ⟨i, xs, e1, e2⟩ | ⟨i, kvs, e1, e2⟩ | ⟨i, x, fs, e1, e2⟩
          · obtain ⟨v, _, p, vs, _, hp, _, _, fe⟩ := r.own i _ e1
            rw [(fe a).mp e2, hp] at q2
            cases q2
            exact n vs rfl
          · obtain ⟨v, _, p, vs, _, hp, _, _, fe⟩ := r.own i _ e1
            rw [(fe a).mp e2, hp] at q2
            cases q2
            exact n2 vs rfl
          · obtain ⟨v, _, p, C, dx, vs, f1, _, _, hp, fa, _, fe⟩ := r.own i _ e1
            rcases (fe a).mp e2 with z | z
            · rw [z, hp] at q2
              cases q2
              exact n3 _ _ _ rfl
            · rcases fa.kind a z with ⟨ws, hw⟩ | ⟨ws, hw⟩
              · rw [hw] at q2; cases q2; exact n ws rfl
              · rw [hw] at q2; cases q2; exact n2 ws rfl
        · cases q2
    · rw [if_pos z]; exact e
end
section
variable {S : Type} {X : Cx} {R : StI S} {a b c e : Expr} {es rest : List Expr} {pos : Pos}
def xP (g : DS S → Option D) : DS S → Option (D × DS S) := fun ds => (g (hideDS ds)).map fun d => (d, ds)
def xB (g : DS S → Option D) : DS S → Option (D × DS S) := fun ds => (g ds).bind fun d => if noList d = true then some (d, ds) else none
def oP (g : DS S → Option (List D)) : DS S → Option (MO S × DS S) := fun ds => (g (hideDS ds)).map fun xs => (.lst xs, ds)
def oB (g : DS S → Option (List D)) : DS S → Option (MO S × DS S) := fun ds => (g ds).bind fun xs => if noListAll xs = true then some (.lst xs, ds) else none
theorem x_pure {g : DS S → Option D} {σ : L2.St} {H : Hp} {Q : VK} (h : tX X.K R (xP g) σ H Q) : tP X.K g σ H Q := by
  obtain ⟨G, F, ds, d, ds', r, e, k⟩ := h
  unfold xP at e
  cases eg : g (hideDS ds) with
  | none => rw [eg] at e; cases e
  | some d0 =>
    rw [eg] at e
    cases e
    exact ⟨G, hideDS ds, d, r.sub, r.view, eg, fun v G' H' gr dn => k v G' H' F (r.grow gr) gr.step dn⟩
theorem ex_P {g : DS S → Option D} (h : PE X e (tP X.K g)) : PE X e (tX X.K R (xP g)) := PE.imp h fun _ _ _ => x_pure
theorem x_B {K : PySem.W.Frag} {g : DS S → Option D} {σ : L2.St} {H : Hp} {Q : VK} (h : tX K R (xB g) σ H Q) : tP K g σ H Q := by
  obtain ⟨G, F, ds, d, ds', r, e, k⟩ := h
  unfold xB at e
  cases eg : g ds with
  | none => rw [eg] at e; cases e
  | some d0 =>
    rw [eg] at e
    simp only [Option.bind_some] at e
    split at e
    · cases e
      rename_i hf
      exact ⟨shown ds G H F, ds, d, shown_sub r.sub, r.show, eg, fun v B H' gr dn => k v (unshown G H B) H' F (r.grow (unshown_gr r gr)) (unshown_gr r gr).step (dn.move (unshown_move r gr) hf)⟩
    · cases e
theorem ex_B {g : DS S → Option D} (h : PE X e (tP X.K g)) : PE X e (tX X.K R (xB g)) := PE.imp h fun _ _ _ => x_B
theorem o_P {K : PySem.W.Frag} {g : DS S → Option (List D)} {σ : L2.St} {H : Hp} {Q : VK} (h : tO K R (oP g) σ H Q) : tF K g σ H Q := by
  obtain ⟨G, F, ds, d, ds', r, e, k⟩ := h
  unfold oP at e
  cases eg : g (hideDS ds) with
  | none => rw [eg] at e; cases e
  | some d0 =>
    rw [eg] at e
    cases e
    refine ⟨G, hideDS ds, _, r.sub, r.view, eg, fun p vs G' H' gr h1 h2 h3 z dn => k _ G' H' F (· = p) (r.grow gr) ⟨gr.step (P := fun a => ∃ i, F i a).frame, gr.keep, gr.sub, gr.step.new0, fun b hb => ?_⟩ ⟨p, vs, rfl, h3, z, dn, fun a => Iff.rfl⟩ (fun a ha ⟨i, hi⟩ => ?_) fun a ha => by rw [ha]; exact h1⟩
    · rcases hb with hb | hb
      · exact .inl hb
      · exact .inr (by rw [hb]; exact h2)
    · rw [ha] at hi
      exact r.trk i p hi h2
theorem eo_P {g : DS S → Option (List D)} (h : PE X e (tF X.K g)) : PE X e (tO X.K R (oP g)) := PE.imp h fun _ _ _ => o_P
theorem o_B {K : PySem.W.Frag} {g : DS S → Option (List D)} {σ : L2.St} {H : Hp} {Q : VK} (h : tO K R (oB g) σ H Q) : tF K g σ H Q := by
  obtain ⟨G, F, ds, d, ds', r, e, k⟩ := h
  unfold oB at e
  cases eg : g ds with
  | none => rw [eg] at e; cases e
  | some d0 =>
    rw [eg] at e
    simp only [Option.bind_some] at e
    split at e
    · cases e
      rename_i hf
      refine ⟨shown ds G H F, ds, _, shown_sub r.sub, r.show, eg, fun p vs B H' gr h1 h2 h3 z dn => ?_⟩
      have gr' := unshown_gr r gr
      refine k _ (unshown G H B) H' F (· = p) (r.grow gr') ⟨gr'.step (P := fun a => ∃ i, F i a).frame, gr'.keep, gr'.sub, gr'.step.new0, fun b hb => ?_⟩ ⟨p, vs, rfl, h3, z, dn.move (unshown_move r gr) hf, fun a => Iff.rfl⟩ (fun a ha ⟨i, hi⟩ => ?_) fun a ha => ?_
      · rcases hb with hb | hb
        · exact .inl hb
        · exact .inr (by rw [hb]; exact h2)
      · rw [ha] at hi
        exact r.trk i p hi h2
      · rw [ha]
        unfold unshown
        rw [r.sub.free h2]
        dsimp only
        rw [if_pos h2]
        exact h1
    · cases e
def oX (f : DS S → Option (D × DS S)) : DS S → Option (MO S × DS S) := fun ds => (f ds).map fun p => (.d p.1, p.2)
theorem o_X {K : PySem.W.Frag} {f : DS S → Option (D × DS S)} {σ : L2.St} {H : Hp} {Q : VK} (h : tO K R (oX f) σ H Q) : tX K R f σ H Q := by
  obtain ⟨G, F, ds, m, ds', r, e, k⟩ := h
  unfold oX at e
  cases ef : f ds with
  | none => rw [ef] at e; cases e
  | some p =>
    rw [ef] at e
    cases e
    exact ⟨G, F, ds, p.1, p.2, r, ef, fun v G' H' F' r' s d => k v G' H' F' (fun _ => False) r' ⟨s.frame, s.keep, s.sub, s.new0, fun b hb => hb.elim (s.newf b) False.elim⟩ ⟨d, fun _ h => h⟩ (fun _ h => h.elim) fun _ h => h.elim⟩
theorem eo_X {f : DS S → Option (D × DS S)} (h : PE X e (tX X.K R f)) : PE X e (tO X.K R (oX f)) := PE.imp h fun _ _ _ => o_X
def xO (f : DS S → Option (MO S × DS S)) : DS S → Option (D × DS S) := fun ds => match f ds with
  | some (.d x, ds') => some (x, ds')
  | some (.lst xs, ds') => some (.list xs, ds')
  | _ => none
theorem x_O {K : PySem.W.Frag} {f : DS S → Option (MO S × DS S)} {σ : L2.St} {H : Hp} {Q : VK} (h : tX K R (xO f) σ H Q) : tO K R f σ H Q := by
  obtain ⟨G, F, ds, d, ds', r, e, k⟩ := h
  unfold xO at e
  split at e
  · cases e
    rename_i ef
    exact ⟨G, F, ds, _, _, r, ef, fun v G' H' F' fr r' s o h1 h2 => k v G' H' F' r' (s.weaken fun b hb => .inl hb) o.1⟩
  · cases e
    rename_i xs ef
    refine ⟨G, F, ds, _, _, r, ef, fun v G' H' F' fr r' s o h1 h2 => ?_⟩
    obtain ⟨p, vs, rfl, e1, z, dd, q⟩ := o
    have hp := h2 p ((q p).mpr rfl)
    have ng : ∀ b o, G' b = some o → upd G' p (.lst vs) b = some o := fun b o e => by rw [upd_ne (ne_of_none e hp)]; exact e
    have sub : Same (upd G' p (.lst vs)) H' := fun b o e => by
      by_cases hb : b = p
      · subst hb; rw [upd_same] at e; cases e; exact e1
      · rw [upd_ne hb] at e; exact s.sub b o e
    refine k _ (upd G' p (.lst vs)) H' F' ⟨sub, r'.len, fun i m e => ?_, r'.emp, r'.dj, fun i a ha => ?_⟩ ⟨s.frame, fun b o e => ng b o (s.keep b o e), sub, fun b h => ?_, fun b h => s.newf b (.inl h)⟩ (.lst upd_same z (dd.mono ng))
    · obtain ⟨v, h3, h4⟩ := r'.own i m e
      exact ⟨v, h3, h4.mono ng fun _ _ => rfl⟩
    · by_cases hb : a = p
      · exact absurd ⟨i, ha⟩ (h1 a ((q a).mpr hb))
      · rw [upd_ne hb]; exact r'.dis i a ha
    · by_cases hb : b = p
      · rcases s.newf b (.inr ((q b).mpr hb)) with z | z
        · exact .inr (.inr z)
        · exact .inr (.inl z)
      · rw [upd_ne hb] at h; exact s.new0 b h
  · cases e
theorem ex_O {f : DS S → Option (MO S × DS S)} (h : PE X e (tO X.K R f)) : PE X e (tX X.K R (xO f)) := PE.imp h fun _ _ _ => x_O
abbrev XF (S α : Type) := DS S → Option (α × DS S)
def xb {α β : Type} (f : XF S α) (k : α → XF S β) : XF S β := fun ds => (f ds).bind fun p => k p.1 p.2
def xlift {α : Type} (o : Option α) : XF S α := fun ds => o.map fun x => (x, ds)
theorem xb_some {α β : Type} {f : XF S α} {k : α → XF S β} {ds : DS S} {y : β} {ds' : DS S} (h : xb f k ds = some (y, ds')) : ∃ x ds1, f ds = some (x, ds1) ∧ k x ds1 = some (y, ds') := by
  unfold xb at h
  cases e : f ds with
  | none => rw [e] at h; cases h
  | some p => rw [e] at h; exact ⟨p.1, p.2, rfl, h⟩
theorem xlift_some {α : Type} {o : Option α} {ds : DS S} {x : α} {ds' : DS S} (h : xlift o ds = some (x, ds')) : o = some x ∧ ds' = ds := by
  unfold xlift at h
  cases o with
  | none => cases h
  | some y => cases h; exact ⟨rfl, rfl⟩
variable {fa fb fc : XF S D}
def xOp (g : D → D → Option D) (fa fb : XF S D) : XF S D := xb fa fun x => xb fb fun y => xlift (g x y)
theorem x_op {r : R2} {g : D → D → Option D} (hr : R2D X.K r g) {σ : L2.St} {H : Hp} {Q : VK} (h : tX X.K R (xOp g fa fb) σ H Q) : tOp r (tX X.K R fa) (tX X.K R fb) σ H Q := by
  obtain ⟨G, F, ds, d, ds', rs, e, k⟩ := h
  obtain ⟨x, ds1, ea, e⟩ := xb_some e
  obtain ⟨y, ds2, eb, e⟩ := xb_some e
  obtain ⟨eg, e9⟩ := xlift_some e
  subst e9
  refine ⟨G, F, ds, x, ds1, rs, ea, fun v G1 H1 F1 r1 s1 d1 => ?_⟩
  refine ⟨G1, F1, ds1, y, _, r1, eb, fun u G2 H2 F2 r2 s2 d2 => ?_⟩
  exact hr v u x y d G2 H2 Q r2.sub (d1.mono s2.keep) d2 eg fun z G3 H3 g3 d3 => k z G3 H3 F2 (r2.grow g3) ((s1.trans s2).trans g3.step) d3
theorem ex_bin {op : Operator} {r : R2} {g : D → D → Option D} (ho : OpR X (binaryOp op) r) (hr : R2D X.K r g) (ha : PE X a (tX X.K R fa)) (hb : PE X b (tX X.K R fb)) : PE X (.BinOp a op b pos) (tX X.K R (xOp g fa fb)) := PE.imp (pe_op ho ha hb) fun _ _ _ h => x_op hr h
theorem ex_cmp {op : CmpOp} {r : R2} {g : D → D → Option D} (ho : OpR X (compareOp op) r) (hr : R2D X.K r g) (ha : PE X a (tX X.K R fa)) (hb : PE X b (tX X.K R fb)) (hm : behindInMarks op b = false) : PE X (.Compare a [op] [b] pos) (tX X.K R (xOp g fa fb)) := PE.imp (pe_cmpR ho ha hb hm) fun _ _ _ h => x_op hr h
theorem ex_ix {r : R2} {g : D → D → Option D} (ho : IxR X r) (hr : R2D X.K r g) (ha : PE X a (tX X.K R fa)) (hb : PE X b (tX X.K R fb)) (hs : PlainIx b) : PE X (.Subscript a b pos) (tX X.K R (xOp g fa fb)) := PE.imp (pe_ix ho ha hb hs) fun _ _ _ h => x_op hr h
def xOpF (g : D → D → Option (List D)) (fa fb : XF S D) : XF S (MO S) := xb fa fun x => xb fb fun y => xlift ((g x y).map .lst)
def xUn (g : D → Option D) (fa : XF S D) : XF S D := xb fa fun x => xlift (g x)
def xNil : XF S (List D) := fun ds => some ([], ds)
def xCons (f : XF S D) (r : XF S (List D)) : XF S (List D) := xb f fun x => xb r fun xs => xlift (some (x :: xs))
theorem ax_nil : PA X [] (tXA X.K R (xNil (S := S))) := PA.imp pa_nil fun σ H Q ⟨G, F, ds, d, ds', rs, e, k⟩ => by
  cases e
  exact k [] G H F rs (.refl rs.sub) .nil
theorem ax_cons {fr : XF S (List D)} (ha : PE X e (tX X.K R fa)) (hr : PA X es (tXA X.K R fr)) (hs : starEach (e :: es) X.env = (false, eval e X.env) :: starEach es X.env := by rfl) : PA X (e :: es) (tXA X.K R (xCons fa fr)) :=
  PA.imp (pa_cons ha hr hs) fun σ H Q ⟨G, F, ds, d, ds', rs, e, k⟩ => by
    obtain ⟨x, ds1, ea, e⟩ := xb_some e
    obtain ⟨xs, ds2, eb, e⟩ := xb_some e
    obtain ⟨eg, e9⟩ := xlift_some e
    subst e9
    cases eg
    refine ⟨G, F, ds, x, ds1, rs, ea, fun v G1 H1 F1 r1 s1 d1 => ?_⟩
    exact ⟨G1, F1, ds1, xs, _, r1, eb, fun vs G2 H2 F2 r2 s2 d2 => k (v :: vs) G2 H2 F2 r2 (s1.trans s2) (.cons (d1.mono s2.keep) d2)⟩
def xTup (f : XF S (List D)) : XF S D := xb f fun xs => xlift (if xs.length ≤ sizeLine then some (.tuple xs) else none)
theorem ex_tup {f : XF S (List D)} {x1} (h : PA X es (tXA X.K R f)) : PE X (.Tuple es x1 pos) (tX X.K R (xTup f)) := PE.imp (pe_tupF h) fun σ H Q ⟨G, F, ds, d, ds', rs, e, k⟩ => by
  obtain ⟨xs, ds1, ea, e⟩ := xb_some e
  obtain ⟨eg, e9⟩ := xlift_some e
  subst e9
  by_cases hz : xs.length ≤ sizeLine
  · rw [if_pos hz] at eg
    cases eg
    refine ⟨G, F, ds, xs, _, rs, ea, fun vs G1 H1 F1 r1 s1 d1 => ⟨by rw [d1.length]; exact hz, fun p o dn hp => ?_⟩⟩
    have hg := r1.sub.free hp
    have g3 := Gr.upd (o := .frz o (.tup vs)) r1.sub hp
    exact k (.ref p) (upd G1 p (.frz o (.tup vs))) _ F1 (r1.grow g3) (s1.trans g3.step) (.tup (PqT.new dn) (by rw [d1.length]; exact hz) (d1.mono fun b u e => by rw [upd_ne (ne_of_none e hg)]; exact e))
  · rw [if_neg hz] at eg
    cases eg
def xLst (f : XF S (List D)) : XF S (MO S) := xb f fun xs => xlift (if xs.length ≤ sizeLine then some (.lst xs) else none)
def xCall (f : XF S (List D)) (g : List D → Option D) : XF S D := xb f fun xs => xlift (g xs)
def xCallF (f : XF S (List D)) (g : List D → Option (List D)) : XF S (MO S) := xb f fun xs => xlift ((g xs).map .lst)
theorem x_cb {r : List V → Hp → VK → Prop} {g : List D → Option D} {f : XF S (List D)} (hr : RCD X.K r g) {σ : L2.St} {H : Hp} {Q : VK} (h : tX X.K R (xCall f g) σ H Q) : tCB r (tXA X.K R f) σ H Q := by
  obtain ⟨G, F, ds, d, ds', rs, e, k⟩ := h
  obtain ⟨xs, ds1, ea, e⟩ := xb_some e
  obtain ⟨eg, e9⟩ := xlift_some e
  subst e9
  exact ⟨G, F, ds, xs, _, rs, ea, fun vs G1 H1 F1 r1 s1 d1 => hr vs xs d G1 H1 Q r1.sub d1 eg fun v G2 H2 g2 d2 => k v G2 H2 F1 (r1.grow g2) (s1.trans g2.step) d2⟩
variable {x : Str} {p : Pos} {bid T : String} {fs : XF S (List D)}
theorem ex_cb {r : List V → Hp → VK → Prop} {f : List D → Option D} (hc : CallR X (.builtin bid) r) (hr : RCD X.K r f) (hg : Gl X x) (hm : X.mg x = none) (hv : bootBuiltins x = some (.builtin bid)) (ha : PA X (e :: es) (tXA X.K R fs)) (hn : x ≠ "__name__" := by decide) (hdb : (x == ("__debug__" : Str)) = false := by decide)
    (he : starEach (e :: es) X.env = (false, eval e X.env) :: starEach es X.env := by rfl) (hpl : (backTo pos (starEach es X.env)).any (·.1) = false := by rfl) : PE X (.Call (.Name x p) (e :: es) [] pos) (tX X.K R (xCall fs f)) :=
  PE.imp (pe_callB hc hg hm hv ha hn hdb he hpl) fun _ _ _ h => x_cb hr h
theorem ex_ct {r : List V → Hp → VK → Prop} {f : List D → Option D} (hc : CallR X (.type T) r) (hr : RCD X.K r f) (hg : Gl X x) (hm : X.mg x = none) (hv : bootBuiltins x = some (.type T)) (ha : PA X (e :: es) (tXA X.K R fs)) (hn : x ≠ "__name__" := by decide) (hdb : (x == ("__debug__" : Str)) = false := by decide)
    (he : starEach (e :: es) X.env = (false, eval e X.env) :: starEach es X.env := by rfl) (hpl : (backTo pos (starEach es X.env)).any (·.1) = false := by rfl) : PE X (.Call (.Name x p) (e :: es) [] pos) (tX X.K R (xCall fs f)) :=
  PE.imp (pe_callTy hc hg hm hv ha hn hdb he hpl) fun _ _ _ h => x_cb hr h
end
section
variable {S : Type} {X : Cx} {R : StI S} {a b c e : Expr} {es rest : List Expr} {pos : Pos} {fa fb : XF S D} {h1 h2 : XF S Bool}
def xTr (f : XF S D) : XF S Bool := xb f fun x => xlift (truD x)
theorem xt_tr (ha : PE X a (tX X.K R fa)) (he : ∀ whole, isTrue a X.env whole = (do let v ← whole; standAt a.pos; holding [v] (truthy v)) := by intro _; rfl) : PT X a (tXT X.K R (xTr fa)) :=
  PT.imp (pt_truth ha he) fun σ H Q ⟨G, F, ds, b, ds', rs, e, k⟩ => by
    obtain ⟨x, ds1, ea, e⟩ := xb_some e
    obtain ⟨eg, e9⟩ := xlift_some e
    subst e9
    exact ⟨G, F, ds, x, _, rs, ea, fun v G1 H1 F1 r1 s1 d1 => ⟨b, truD_ok r1.sub d1 eg, k G1 H1 F1 r1 s1⟩⟩
def boolD : D → Option Bool
  | .bool b => some b
  | _ => none
def xBool (f : XF S D) : XF S Bool := xb f fun x => xlift (boolD x)
theorem xt_cmp {op : CmpOp} {r : R2} {g : D → D → Option D} (ho : OpR X (compareOp op) r) (hr : R2D X.K r g) (ha : PE X a (tX X.K R fa)) (hb : PE X b (tX X.K R fb)) (hm : behindInMarks op b = false) : PT X (.Compare a [op] [b] pos) (tXT X.K R (xBool (xOp g fa fb))) :=
  PT.imp (pt_cmpR ho ha hb hm) fun σ H Q ⟨G, F, ds, b, ds', rs, e, k⟩ => by
    obtain ⟨x, ds1, ea, e⟩ := xb_some e
    obtain ⟨eg, e9⟩ := xlift_some e
    subst e9
    refine x_op (R := R) (g := g) hr ⟨G, F, ds, x, _, rs, ea, fun v G1 H1 F1 r1 s1 d1 => ?_⟩
    cases d1 with
    | bl t => cases eg; exact ⟨_, rfl, k G1 H1 F1 r1 s1⟩
    | _ => cases eg
def xtP (h : DS S → Option Bool) : XF S Bool := fun ds => (h ds).map fun b => (b, ds)
theorem xt_P {h : DS S → Option Bool} (ht : PT X a (tPT X.K h)) : PT X a (tXT X.K R (xtP h)) := PT.imp ht fun σ H Q ⟨G, F, ds, b, ds', r, e, k⟩ => by
  unfold xtP at e
  cases eg : h ds with
  | none => rw [eg] at e; cases e
  | some d0 =>
    rw [eg] at e
    cases e
    exact ⟨shown ds G H F, ds, b, shown_sub r.sub, r.show, eg, fun B H' gr => k (unshown G H B) H' F (r.grow (unshown_gr r gr)) (unshown_gr r gr).step⟩
def xNot (h : XF S Bool) : XF S Bool := xb h fun b => xlift (some (!b))
theorem xt_not (ht : PT X a (tXT X.K R h1)) : PT X (.UnaryOp .Not a pos) (tXT X.K R (xNot h1)) := PT.imp (pt_not ht) fun σ H Q ⟨G, F, ds, b, ds', rs, e, k⟩ => by
  obtain ⟨x, ds1, ea, e⟩ := xb_some e
  obtain ⟨eg, e9⟩ := xlift_some e
  subst e9
  cases eg
  exact ⟨G, F, ds, x, _, rs, ea, fun G1 H1 F1 r1 s1 => k G1 H1 F1 r1 s1⟩
def xAnd (h1 h2 : XF S Bool) : XF S Bool := xb h1 fun b => if b then h2 else xlift (some false)
def xOr (h1 h2 : XF S Bool) : XF S Bool := xb h1 fun b => if b then xlift (some true) else h2
theorem x_and {σ : L2.St} {H : Hp} {Q : Bool → Hp → Prop} (h : tXT X.K R (xAnd h1 h2) σ H Q) : tAnd (tXT X.K R h1) (tXT X.K R h2) σ H Q := by
  obtain ⟨G, F, ds, b, ds', rs, e, k⟩ := h
  obtain ⟨x, ds1, ea, e⟩ := xb_some e
  refine ⟨G, F, ds, x, _, rs, ea, fun G1 H1 F1 r1 s1 => ?_⟩
  cases x with
  | true => exact iteT ⟨G1, F1, ds1, b, ds', r1, by simpa using e, fun G2 H2 F2 r2 s2 => k G2 H2 F2 r2 (s1.trans s2)⟩
  | false =>
    obtain ⟨eg, e9⟩ := xlift_some (by simpa using e : xlift (some false) ds1 = some (b, ds'))
    subst e9
    cases eg
    exact iteF (k G1 H1 F1 r1 s1)
theorem x_or {σ : L2.St} {H : Hp} {Q : Bool → Hp → Prop} (h : tXT X.K R (xOr h1 h2) σ H Q) : tOr (tXT X.K R h1) (tXT X.K R h2) σ H Q := by
  obtain ⟨G, F, ds, b, ds', rs, e, k⟩ := h
  obtain ⟨x, ds1, ea, e⟩ := xb_some e
  refine ⟨G, F, ds, x, _, rs, ea, fun G1 H1 F1 r1 s1 => ?_⟩
  cases x with
  | false => exact iteF ⟨G1, F1, ds1, b, ds', r1, by simpa using e, fun G2 H2 F2 r2 s2 => k G2 H2 F2 r2 (s1.trans s2)⟩
  | true =>
    obtain ⟨eg, e9⟩ := xlift_some (by simpa using e : xlift (some true) ds1 = some (b, ds'))
    subst e9
    cases eg
    exact iteT (k G1 H1 F1 r1 s1)
theorem xw_and1 (ha : PT X a (tXT X.K R h1)) : PW X (.BoolOp .And [a] pos) (tXT X.K R h1) := pw_and1 ha
theorem xw_or1 (ha : PT X a (tXT X.K R h1)) : PW X (.BoolOp .Or [a] pos) (tXT X.K R h1) := pw_or1 ha
theorem xw_and (ha : PT X a (tXT X.K R h1)) (hb : PW X (.BoolOp .And (b :: rest) pos) (tXT X.K R h2)) : PW X (.BoolOp .And (a :: b :: rest) pos) (tXT X.K R (xAnd h1 h2)) := PW.imp (pw_and ha hb) fun _ _ _ h => x_and h
theorem xw_or (ha : PT X a (tXT X.K R h1)) (hb : PW X (.BoolOp .Or (b :: rest) pos) (tXT X.K R h2)) : PW X (.BoolOp .Or (a :: b :: rest) pos) (tXT X.K R (xOr h1 h2)) := PW.imp (pw_or ha hb) fun _ _ _ h => x_or h
def xIf (h : XF S Bool) (fa fb : XF S D) : XF S D := xb h fun b => if b then fa else fb
def xOrV (fa fb : XF S D) : XF S D := xb fa fun x => xb (xlift (truD x)) fun k => if k then xlift (some x) else fb
end
section
variable {S : Type} {K : PySem.W.Frag} {R : StI S} {G H : Hp} {ds : DS S} {σ : L2.St} {F : Nat → Addr → Prop}
theorem RS.setd (r : RS K R ds σ G H F) (i : Nat) {v : V} {d : D} (h : Den K G v d) : ∃ F', RS K R (ds.set i (some (.d d))) (σ.set i (some v)) G H F' ∧ ∀ a, (∃ j, F' j a) → ∃ j, F j a := by
  by_cases hi : i < ds.length
  · exact ⟨_, r.set i hi (fr := fun _ => False) ⟨h, fun _ z => z⟩ (fun _ z => z.elim) (fun _ z => z.elim), fun a ha => (setF_un a ha).elim (fun z => z) False.elim⟩
  · have h1 : ds.set i (some (.d d)) = ds := List.set_eq_of_length_le (by omega)
    have h2 : σ.set i (some v) = σ := List.set_eq_of_length_le (by rw [← r.len]; omega)
    rw [h1, h2]
    exact ⟨F, r, fun _ z => z⟩
theorem RS.setn (r : RS K R ds σ G H F) (i : Nat) : ∃ F', RS K R (ds.set i none) (σ.set i none) G H F' ∧ ∀ a, (∃ j, F' j a) → ∃ j, F j a := by
  refine ⟨fun j a => j ≠ i ∧ F j a, ⟨r.sub, by rw [List.length_set, List.length_set]; exact r.len, fun j m e => ?_, fun j e a ha => ?_, fun j k a h1 h2 => r.dj j k a h1.2 h2.2, fun j a h => r.dis j a h.2⟩, fun a ⟨j, h⟩ => ⟨j, h.2⟩⟩
  · by_cases hj : i = j
    · subst hj
      by_cases hl : i < ds.length
      · rw [List.getElem?_set_self hl] at e; cases e
      · rw [List.getElem?_eq_none (by rw [List.length_set]; omega)] at e; cases e
    · rw [List.getElem?_set_ne hj] at e ⊢
      obtain ⟨v, h1, h2⟩ := r.own j m e
      exact ⟨v, h1, h2.iff fun a => ⟨fun z => z.2, fun z => ⟨Ne.symm hj, z⟩⟩⟩
  · refine r.emp j (fun m q => e m ?_) a ha.2
    rw [List.getElem?_set_ne (Ne.symm ha.1)]
    exact q
theorem RS.setAll : ∀ {vs : List (Nat × V)} {as : List (Nat × D)} {σ : L2.St} {ds : DS S} {F : Nat → Addr → Prop}, RS K R ds σ G H F → AsgV K G vs as → ∃ F', RS K R (setD ds as) (DL.setAll σ vs) G H F' ∧ ∀ a, (∃ j, F' j a) → ∃ j, F j a
  | _, _, _, _, F, h, .nil => ⟨F, h, fun _ z => z⟩
  | _, _, σ, ds, F, h, .cons (a := p) (b := q) ⟨e, hd⟩ r => by
    obtain ⟨F1, r1, u1⟩ := h.setd q.1 hd
    rw [← e] at r1
    obtain ⟨F2, r2, u2⟩ := RS.setAll (σ := σ.set p.1 (some p.2)) (ds := ds.set p.1 (some (.d q.2))) r1 r
    refine ⟨F2, ?_, fun a z => u1 a (u2 a z)⟩
    rw [e] at r2
    show RS K R (setD (ds.set q.1 (some (.d q.2))) _) (DL.setAll (σ.set p.1 (some p.2)) _) G H F2
    rw [e]
    exact r2
theorem RS.wipe (h : RS K R ds σ G H F) : ∀ vs : List Nat, ∃ F', RS K R (wipeD ds vs) (L2.wipe σ vs) G H F' ∧ ∀ a, (∃ j, F' j a) → ∃ j, F j a
  | [] => ⟨F, h, fun _ z => z⟩
  | v :: vs => by
    obtain ⟨F1, r1, u1⟩ := RS.wipe h vs
    obtain ⟨F2, r2, u2⟩ := r1.setn v
    exact ⟨F2, r2, fun a z => u1 a (u2 a z)⟩
theorem RS.out (r : RS K R ds σ G H F) {A : Addr} {o : HO} (h1 : G A = none) (h2 : ¬ ∃ j, F j A) : RS K R ds σ G (upd H A o) F where
  sub := fun b u e => by rw [upd_ne (ne_of_none e h1)]; exact r.sub b u e
  len := r.len
  own := fun i m e => by
    obtain ⟨v, h3, h4⟩ := r.own i m e
    exact ⟨v, h3, h4.mono (Same.refl _) fun a ha => upd_ne fun z => h2 ⟨i, by rw [← z]; exact ha⟩⟩
  emp := r.emp
  dj := r.dj
  dis := r.dis
def keepM : Option (Option (MO S)) → Option (MO S)
  | some (some (.d x)) => some (.d x)
  | _ => none
def mergeD (ds : DS S) : List Nat → DS S → DS S
  | [], din => din
  | v :: vs, din => (mergeD ds vs din).set v (keepM ds[v]?)
theorem RS.merge {dsO : DS S} {σO σ2 : L2.St} {din : DS S} (wO : ∀ (i : Nat) x, dsO[i]? = some (some (MO.d x)) → ∃ v, σO[i]? = some (some v) ∧ Den K G v x) (hl : dsO.length = σO.length) :
    ∀ {own : List Nat} {F : Nat → Addr → Prop}, RS K R din σ2 G H F → (∀ i, i ∉ own → σ2[i]? = σO[i]?) → σ2.length = σO.length → ∃ F', RS K R (mergeD dsO own din) σO G H F' ∧ ∀ a, (∃ j, F' j a) → ∃ j, F j a := by
  intro own F r hout hlen
  have hd : ∀ vs : List Nat, (mergeD dsO vs din).length = din.length := fun vs => by
    induction vs with
    | nil => rfl
    | cons v vs ih => show ((mergeD dsO vs din).set v _).length = _; rw [List.length_set]; exact ih
  have get : ∀ (vs : List Nat) (i : Nat), (mergeD dsO vs din)[i]? = if i ∈ vs then (if i < din.length then some (keepM dsO[i]?) else none) else din[i]? := fun vs => by
    induction vs with
    | nil => intro i; rw [if_neg (by simp)]; rfl
    | cons v vs ih =>
      intro i
      show ((mergeD dsO vs din).set v _)[i]? = _
      by_cases hv : v = i
      · subst hv
        rw [if_pos List.mem_cons_self]
        by_cases hi : v < din.length
        · rw [List.getElem?_set_self (by rw [hd]; exact hi), if_pos hi]
        · rw [List.getElem?_eq_none (by rw [List.length_set, hd]; omega), if_neg hi]
      · rw [List.getElem?_set_ne hv, ih i]
        by_cases hm : i ∈ vs
        · rw [if_pos hm, if_pos (List.mem_cons_of_mem _ hm)]
        · rw [if_neg hm, if_neg (by simp [hm, Ne.symm hv])]
  refine ⟨fun j a => j ∉ own ∧ F j a, ⟨r.sub, by rw [hd, r.len]; exact hlen, fun i m e => ?_, fun i e a ha => ?_, fun i j a h1 h2 => r.dj i j a h1.2 h2.2, fun i a h => r.dis i a h.2⟩, fun a ⟨j, h⟩ => ⟨j, h.2⟩⟩
  · rw [get own i] at e
    by_cases hm : i ∈ own
    · rw [if_pos hm] at e
      split at e
      · have e' : keepM dsO[i]? = some m := Option.some.inj e
        cases q : dsO[i]? with
        | none => rw [q] at e'; cases e'
        | some o =>
          rw [q] at e'
          match o, e' with
          | some (.d x), e' =>
            cases e'
            obtain ⟨v, h1, h2⟩ := wO i x q
            exact ⟨v, h1, h2, fun a z => z.1 hm⟩
      · cases e
    · rw [if_neg hm] at e
      obtain ⟨v, h1, h2⟩ := r.own i m e
      exact ⟨v, by rw [← hout i hm]; exact h1, h2.iff fun a => ⟨fun z => z.2, fun z => ⟨hm, z⟩⟩⟩
  · refine r.emp i (fun m q => e m ?_) a ha.2
    rw [get own i, if_neg ha.1]
    exact q
theorem setAll_out {own : List Nat} {i : Nat} (hi : i ∉ own) : ∀ {l : List (Nat × V)} {σ : L2.St}, (∀ p ∈ l, p.1 ∈ own) → (DL.setAll σ l)[i]? = σ[i]?
  | [], _, _ => rfl
  | p :: l, σ, h => by
    show (DL.setAll (σ.set p.1 (some p.2)) l)[i]? = _
    rw [setAll_out hi fun q hq => h q (List.mem_cons_of_mem _ hq), List.getElem?_set_ne fun z => hi (by rw [← z]; exact h p List.mem_cons_self)]
theorem setAll_len : ∀ {l : List (Nat × V)} {σ : L2.St}, (DL.setAll σ l).length = σ.length
  | [], _ => rfl
  | p :: l, σ => by
    show (DL.setAll (σ.set p.1 (some p.2)) l).length = _
    rw [setAll_len, List.length_set]
end
section
variable {S : Type}
def lcRunX (f : D → DS S → Option (Option D × DS S)) : List D → XF S (List D)
  | [], ds => some ([], ds)
  | x :: xs, ds => (f x ds).bind fun p => (lcRunX f xs p.2).bind fun q => some (match p.1 with
    | some y => (y :: q.1, q.2)
    | none => q)
def lcOneX (own : List Nat) (t : D → Option (List (Nat × D))) (h : XF S Bool) (g : XF S D) : D → DS S → Option (Option D × DS S) := fun x ds =>
  (t x).bind fun as => (h (setD (wipeD ds own) as)).bind fun b => if b.1 then (g b.2).bind fun y => some (some y.1, mergeD ds own y.2) else some (none, mergeD ds own b.2)
def xLc (src : XF S (List D)) (own : List Nat) (t : D → Option (List (Nat × D))) (h : XF S Bool) (g : XF S D) : XF S (MO S) := xb src fun xs => fun ds => (lcRunX (lcOneX own t h g) xs ds).map fun p => (.lst p.1, p.2)
def xYes : XF S Bool := fun ds => some (true, ds)
theorem xts_yes {X : Cx} {R : StI S} : PTs X [] (tXT X.K R xYes) := PTs.imp pts_nil fun σ H Q ⟨G, F, ds, b, ds', rs, e, k⟩ => by
  cases e
  exact k G H F rs (.refl rs.sub)
variable {K : PySem.W.Frag} {R : StI S} {src : XF S (List D)} {own : List Nat} {t : D → Option (List (Nat × D))} {h : XF S Bool} {g : XF S D} {tg : TG}
theorem x_lc {W : Bool} (ht : TGD W K tg t) (ho : ∀ d as, t d = some as → ∀ p ∈ as, p.1 ∈ own) {σ : L2.St} {H : Hp} {Q : VK} (w0 : tO K R (xLc src own t h g) σ H Q) : tLc (tXI W K R src) tg (tXT K R h) (tX K R g) own σ H Q := by
  obtain ⟨G, F, ds, m, dsE, r0, e, k⟩ := w0
  obtain ⟨xs, ds1, ea, e⟩ := xb_some e
  cases er0 : lcRunX (lcOneX own t h g) xs ds1 with
  | none => rw [er0] at e; cases e
  | some pE =>
  rw [er0] at e
  have em : m = .lst pE.1 := by cases e; rfl
  have edE : dsE = pE.2 := by cases e; rfl
  subst em edE
  refine ⟨G, F, ds, xs, ds1, r0, ea, fun J G1 H1 F1 r1 s1 it => fun A hA => ?_⟩
  have hGA : G1 A = none := r1.sub.free hA
  have hFA : ¬ ∃ j, F1 j A := fun ⟨j, hj⟩ => r1.trk j A hj hA
  refine ⟨fun i m Hc => m = xs.length - i ∧ i ≤ xs.length ∧ ∃ Gc Fc dsc vs done rest, RS K R dsc σ Gc Hc Fc ∧ Step G H (fun a => ∃ j, F j a) Gc Hc (fun a => (∃ j, Fc j a) ∨ a = A) ∧ Same G1 Gc ∧ (¬ ∃ j, Fc j A) ∧ Gc A = none ∧ Hc A = some (.lst vs) ∧ vs.length ≤ i ∧ DenAll K Gc vs done ∧
      lcRunX (lcOneX own t h g) (xs.drop i) dsc = some (rest, pE.2) ∧ pE.1 = done ++ rest,
    ⟨xs.length, rfl, Nat.zero_le _, G1, F1, ds1, [], [], pE.1, r1.out hGA hFA, ?_, Same.refl _, hFA, hGA, upd_same, Nat.le_refl _, .nil, by rw [List.drop_zero, er0], by simp⟩, ?_⟩
  · refine s1.trans ⟨fun a ha o e => ?_, Same.refl _, fun b u e => ?_, fun b hb => .inl hb, fun b hb => ?_⟩
    · rw [upd_ne (ne_of_none e hA)]; exact e
    · rw [upd_ne (ne_of_none e hGA)]; exact r1.sub b u e
    · rcases hb with hb | hb
      · exact .inl hb
      · exact .inr (by rw [hb]; exact hA)
  rintro i m Hc ⟨rfl, hi, Gc, Fc, dsc, vs, done, rest, rc, sc, gc, nFA, nA, eA, lv, dv, er, ey⟩
  by_cases hlt : i < xs.length
  · refine .inr ⟨it.go i Hc (gc.trans rc.sub) hlt, fun H' => ∃ m', m' < xs.length - i ∧ (m' = xs.length - (i + 1) ∧ i + 1 ≤ xs.length ∧ ∃ Gc Fc dsc vs done rest, RS K R dsc σ Gc H' Fc ∧ Step G H (fun a => ∃ j, F j a) Gc H' (fun a => (∃ j, Fc j a) ∨ a = A) ∧ Same G1 Gc ∧ (¬ ∃ j, Fc j A) ∧ Gc A = none ∧ H' A = some (.lst vs) ∧ vs.length ≤ i + 1 ∧ DenAll K Gc vs done ∧
      lcRunX (lcOneX own t h g) (xs.drop (i + 1)) dsc = some (rest, pE.2) ∧ pE.1 = done ++ rest), fun H' x => x, fun x H' y => ?_⟩
    obtain ⟨d, hd, grow⟩ := it.yld i Hc x H' (gc.trans rc.sub) hlt y
    obtain ⟨Ga, ga, dx⟩ := grow Gc gc rc.sub
    have ra := rc.grow ga
    have hdrop : xs.drop i = d :: xs.drop (i + 1) := by
      rw [List.drop_eq_getElem_cons hlt]
      rw [List.getElem?_eq_getElem hlt] at hd
      cases hd
      rfl
    rw [hdrop] at er
    unfold lcRunX at er
    cases ef : lcOneX own t h g d dsc with
    | none => rw [ef] at er; cases er
    | some o =>
      rw [ef] at er
      simp only [Option.bind_some] at er
      cases e2 : lcRunX (lcOneX own t h g) (xs.drop (i + 1)) o.2 with
      | none => rw [e2] at er; cases er
      | some rest2 =>
        rw [e2] at er
        simp only [Option.bind_some] at er
        unfold lcOneX at ef
        cases et : t d with
        | none => rw [et] at ef; cases ef
        | some as =>
          rw [et] at ef
          simp only [Option.bind_some] at ef
          refine ht x d as _ Ga H' _ ga.sub dx et fun ws aw => ?_
          have slots := asgV_slots aw (ho d as et)
          refine ⟨by rw [wipe_setAll slots, wipe_wipe], ?_⟩
          obtain ⟨Fw, rw0, uw⟩ := ra.wipe own
          obtain ⟨Fi, ri, ui⟩ := rw0.setAll aw
          have hout : ∀ j, j ∉ own → (setAll (wipe σ own) ws)[j]? = σ[j]? := fun j hj => by rw [setAll_out hj slots, wipe_out hj]
          have hlen : (setAll (wipe σ own) ws).length = σ.length := by rw [setAll_len, wipe_length]
          have nFi : ¬ ∃ j, Fi j A := fun z => nFA (uw A (ui A z))
          have eA' : H' A = some (.lst vs) := ga.all _ _ eA
          have nAa : Ga A = none := by
            cases q : Ga A with
            | none => rfl
            | some o' =>
              rcases ga.new A (by rw [q]; simp) with z | z
              · exact absurd nA z
              · rw [eA] at z; cases z
          cases eh : h (setD (wipeD dsc own) as) with
          | none => rw [eh] at ef; cases ef
          | some b =>
            rw [eh] at ef
            simp only [Option.bind_some] at ef
            refine ⟨Ga, Fi, _, b.1, b.2, ri, eh, fun G3 H3 F3 r3 s3 => ?_⟩
            have keepA : ∀ {Ga' Ha' Gb Hb : Hp} {Fa Fb : Nat → Addr → Prop}, Step Ga' Ha' (fun a => ∃ j, Fa j a) Gb Hb (fun a => ∃ j, Fb j a) → Ga' A = none → Ha' A = some (.lst vs) → (¬ ∃ j, Fa j A) → Gb A = none ∧ Hb A = some (.lst vs) ∧ ¬ ∃ j, Fb j A := fun {Ga' Ha' Gb Hb Fa Fb} s z1 z2 z3 => by
              refine ⟨?_, s.frame A z3 _ z2, fun q => ?_⟩
              · cases q : Gb A with
                | none => rfl
                | some o' =>
                  rcases s.new0 A (by rw [q]; simp) with z | z | z
                  · exact absurd z1 z
                  · rw [z2] at z; cases z
                  · exact absurd z z3
              · rcases s.newf A q with z | z
                · exact z3 z
                · rw [z2] at z; cases z
            obtain ⟨nA3, eA3, nF3⟩ := keepA s3 nAa eA' nFi
            -- the frame's own step from the turn's start
            have lift : ∀ {Gb Hb : Hp} {Fb : Nat → Addr → Prop}, Step Ga H' (fun a => ∃ j, Fi j a) Gb Hb (fun a => ∃ j, Fb j a) → Step Gc Hc (fun a => (∃ j, Fc j a) ∨ a = A) Gb Hb (fun a => (∃ j, Fb j a) ∨ a = A) := fun {Gb Hb Fb} s => by
              refine ⟨fun a ha o e => s.frame a (fun z => ha (.inl (uw a (ui a z)))) o (ga.all a o e), ga.keep.trans s.keep, s.sub, fun b hb => ?_, fun b hb => ?_⟩
              · rcases s.new0 b hb with z | z | z
                · rcases ga.new b z with z | z
                  · exact .inl z
                  · exact .inr (.inl z)
                · exact .inr (.inl (ga.all.free z))
                · exact .inr (.inr (.inl (uw b (ui b z))))
              · rcases hb with hb | hb
                · rcases s.newf b hb with z | z
                  · exact .inl (.inl (uw b (ui b z)))
                  · exact .inr (ga.all.free z)
                · exact .inl (.inr hb)
            have back : ∀ {Gb Hb : Hp} {Fb : Nat → Addr → Prop} {din : DS S}, RS K R din (setAll (wipe σ own) ws) Gb Hb Fb → Same Gc Gb → ∃ F', RS K R (mergeD dsc own din) σ Gb Hb F' ∧ ∀ a, (∃ j, F' j a) → ∃ j, Fb j a := fun {Gb Hb Fb din} rb sg =>
              RS.merge (fun i x q => by obtain ⟨v, h1, h2⟩ := rc.own i _ q; exact ⟨v, h1, h2.1.mono sg⟩) rc.len rb hout hlen
            cases hb : b.1 with
            | false =>
              refine iteF ?_
              rw [hb, if_neg Bool.false_ne_true] at ef
              cases ef
              obtain ⟨F5, r5, u5⟩ := back r3 (ga.keep.trans s3.keep)
              refine ⟨xs.length - (i + 1), by omega, rfl, hlt, G3, F5, _, vs, done, rest2.1, r5, (sc.trans (lift s3)).weaken fun a z => z.elim (fun z => .inl (u5 a z)) .inr, gc.trans (ga.keep.trans s3.keep), fun z => nF3 (u5 A z), nA3, eA3, Nat.le_succ_of_le lv, dv.mono (ga.keep.trans s3.keep), ?_, ?_⟩
              · rw [e2]; cases er; rfl
              · cases er; exact ey
            | true =>
              refine iteT ?_
              rw [hb, if_pos rfl] at ef
              cases eg : g b.2 with
              | none => rw [eg] at ef; cases ef
              | some y0 =>
                rw [eg] at ef
                cases ef
                refine ⟨G3, F3, _, y0.1, y0.2, r3, eg, fun v G4 H4 F4 r4 s4 dy => ?_⟩
                obtain ⟨nA4, eA4, nF4⟩ := keepA s4 nA3 eA3 nF3
                refine ⟨vs, eA4, by have := it.len; omega, ?_⟩
                have sall := s3.trans s4
                obtain ⟨F5, r5, u5⟩ := back r4 (ga.keep.trans sall.keep)
                have nF5 : ¬ ∃ j, F5 j A := fun z => nF4 (u5 A z)
                have st5 := ((sc.trans (lift sall)).weaken (P2 := fun a => (∃ j, F5 j a) ∨ a = A) fun a z => z.elim (fun z => .inl (u5 a z)) .inr)
                have hHA : H A = none ∨ ∃ j, F j A := by
                  rcases sc.newf A (.inr rfl) with z | z
                  · exact .inr z
                  · exact .inl z
                refine ⟨xs.length - (i + 1), by omega, rfl, hlt, G4, F5, _, vs ++ [v], done ++ [y0.1], rest2.1, r5.out nA4 nF5, ⟨fun a ha o e => ?_, st5.keep, fun b u q => ?_, st5.new0, st5.newf⟩, gc.trans (ga.keep.trans sall.keep), nF5, nA4, upd_same, by rw [List.length_append]; simpa using lv, (dv.mono (ga.keep.trans sall.keep)).append (.cons dy .nil), ?_, ?_⟩
                · have hne : a ≠ A := fun z => by
                    subst z
                    rcases hHA with z | z
                    · rw [z] at e; cases e
                    · exact ha z
                  rw [upd_ne hne]
                  exact st5.frame a ha o e
                · rw [upd_ne (ne_of_none q nA4)]; exact st5.sub b u q
                · have q := congrArg Prod.snd (Option.some.inj er)
                  have q2 : rest2.2 = pE.2 := q
                  rw [e2, ← q2]
                · have q := congrArg Prod.fst (Option.some.inj er)
                  have q2 : y0.1 :: rest2.1 = rest := q
                  rw [ey, ← q2, List.append_assoc]
                  rfl
  · have e' : i = xs.length := by omega
    subst e'
    refine .inl ⟨it.stop _ Hc (gc.trans rc.sub) (Nat.le_refl _) (Nat.le_refl _), ?_⟩
    rw [List.drop_length] at er
    cases er
    rw [List.append_nil] at ey
    have dv' : DenAll K Gc vs pE.1 := by rw [ey]; exact dv
    exact k _ Gc Hc Fc (· = A) rc sc ⟨A, vs, rfl, eA, Nat.le_trans lv it.len, dv', fun a => Iff.rfl⟩ (fun a ha z => nFA (by rw [← ha]; exact z)) fun a ha => by rw [ha]; exact nA
end
inductive Out (S : Type) where
  | nx (ds : DS S) | rt (m : MO S) (ds : DS S) | bk (ds : DS S) | ct (ds : DS S)
section
variable {S : Type}
def After (K : PySem.W.Frag) (R : StI S) (pn : List Nat) (σ : L2.St) (G H : Hp) (P : Addr → Prop) (ds' : DS S) (N : L2.St → Hp → Prop) : Prop :=
  ∀ σ' G' H' F', RS K R ds' σ' G' H' F' → Step G H P G' H' (fun a => ∃ i, F' i a) → (∀ i ∈ pn, σ'[i]? = σ[i]?) → N σ' H'
def SEnd (K : PySem.W.Frag) (R : StI S) (pn : List Nat) (σ : L2.St) (G H : Hp) (P : Addr → Prop) (Dn : Ends) : Out S → Prop
  | .nx ds' => After K R pn σ G H P ds' Dn.nx
  | .bk ds' => After K R pn σ G H P ds' Dn.bk
  | .ct ds' => After K R pn σ G H P ds' Dn.ct
  | .rt m ds' => ∀ v σ' G' H' F' fr, RS K R ds' σ' G' H' F' → Step G H P G' H' (fun a => (∃ i, F' i a) ∨ fr a) → OwnAt K R G' H' v m fr → (∀ a, fr a → ¬ ∃ i, F' i a) → (∀ a, fr a → G' a = none) → (∀ i ∈ pn, σ'[i]? = σ[i]?) → Dn.rt v H'
def tS (K : PySem.W.Frag) (R : StI S) (pn : List Nat) (g : DS S → Option (Out S)) : TS := fun Dn σ H => ∃ G F ds o, RS K R ds σ G H F ∧ g ds = some o ∧ SEnd K R pn σ G H (fun a => ∃ i, F i a) Dn o
theorem After.shift {K : PySem.W.Frag} {R : StI S} {pn : List Nat} {σ σ1 : L2.St} {G H G1 H1 : Hp} {P P1 : Addr → Prop} {ds' : DS S} {N : L2.St → Hp → Prop} (h : After K R pn σ G H P ds' N) (s : Step G H P G1 H1 P1) (p : ∀ i ∈ pn, σ1[i]? = σ[i]?) : After K R pn σ1 G1 H1 P1 ds' N :=
  fun σ' G' H' F' r t q => h σ' G' H' F' r (s.trans t) fun i hi => (q i hi).trans (p i hi)
theorem SEnd.shift {K : PySem.W.Frag} {R : StI S} {pn : List Nat} {σ σ1 : L2.St} {G H G1 H1 : Hp} {P P1 : Addr → Prop} {Dn : Ends} {o : Out S} (h : SEnd K R pn σ G H P Dn o) (s : Step G H P G1 H1 P1) (p : ∀ i ∈ pn, σ1[i]? = σ[i]?) : SEnd K R pn σ1 G1 H1 P1 Dn o := by
  cases o with
  | nx ds => exact After.shift h s p
  | bk ds => exact After.shift h s p
  | ct ds => exact After.shift h s p
  | rt m ds => exact fun v σ' G' H' F' fr r t o h1 h2 q => h v σ' G' H' F' fr r (s.trans t) o h1 h2 fun i hi => (q i hi).trans (p i hi)
abbrev SF (S : Type) := DS S → Option (Out S)
def gSeq (g h : SF S) : SF S := fun ds => (g ds).bind fun o => match o with
  | .nx ds' => h ds'
  | o => some o
variable {K : PySem.W.Frag} {R : StI S} {pn : List Nat} {g h : SF S} {Dn : Ends} {σ : L2.St} {H : Hp}
theorem s_seq (w : tS K R pn (gSeq g h) Dn σ H) : tSeq (tS K R pn g) (tS K R pn h) Dn σ H := by
  obtain ⟨G, F, ds, o, r, e, k⟩ := w
  unfold gSeq at e
  cases eg : g ds with
  | none => rw [eg] at e; cases e
  | some o1 =>
    rw [eg] at e
    refine ⟨G, F, ds, o1, r, eg, ?_⟩
    cases o1 with
    | nx ds1 => exact fun σ' G' H' F' r' s p => ⟨G', F', ds1, o, r', e, k.shift s p⟩
    | bk ds1 => cases e; exact k
    | ct ds1 => cases e; exact k
    | rt m ds1 => cases e; exact k
def gNext : SF S := fun ds => some (.nx ds)
theorem s_next (w : tS K R pn gNext Dn σ H) : tNext Dn σ H := by
  obtain ⟨G, F, ds, o, r, e, k⟩ := w
  cases e
  exact k σ G H F r (.refl r.sub) fun _ _ => rfl
def gRet (f : XF S (MO S)) : SF S := fun ds => (f ds).map fun p => .rt p.1 p.2
theorem s_ret {f : XF S (MO S)} (w : tS K R pn (gRet f) Dn σ H) : tRet (tO K R f) Dn σ H := by
  obtain ⟨G, F, ds, o, r, e, k⟩ := w
  unfold gRet at e
  cases ef : f ds with
  | none => rw [ef] at e; cases e
  | some p =>
    rw [ef] at e
    cases e
    exact ⟨G, F, ds, p.1, p.2, r, ef, fun v G' H' F' fr r' s o h1 h2 => k v σ G' H' F' fr r' s o h1 h2 fun _ _ => rfl⟩
def gRetN : SF S := fun ds => some (.rt (.d .none) ds)
def gBrk : SF S := fun ds => some (.bk ds)
def gCnt : SF S := fun ds => some (.ct ds)
theorem RS.seto {ds : DS S} {G : Hp} {F : Nat → Addr → Prop} {v : V} {m : MO S} {fr : Addr → Prop} (r : RS K R ds σ G H F) (i : Nat) (o : OwnAt K R G H v m fr) (h1 : ∀ a, fr a → ¬ ∃ j, F j a) (h2 : ∀ a, fr a → G a = none) :
    ∃ F', RS K R (ds.set i (some m)) (σ.set i (some v)) G H F' ∧ ∀ a, (∃ j, F' j a) → (∃ j, F j a) ∨ fr a := by
  by_cases hi : i < ds.length
  · exact ⟨_, r.set i hi o h1 h2, setF_un⟩
  · have h3 : ds.set i (some m) = ds := List.set_eq_of_length_le (by omega)
    have h4 : σ.set i (some v) = σ := List.set_eq_of_length_le (by rw [← r.len]; omega)
    rw [h3, h4]
    exact ⟨F, r, fun _ z => .inl z⟩
def gAsg (i : Nat) (f : XF S (MO S)) : SF S := fun ds => (f ds).map fun p => .nx (p.2.set i (some p.1))
theorem s_asg {i : Nat} {f : XF S (MO S)} (hi : i ∉ pn) (w : tS K R pn (gAsg i f) Dn σ H) : tAsg (tO K R f) (gName i) Dn σ H := by
  obtain ⟨G, F, ds, o, r, e, k⟩ := w
  unfold gAsg at e
  cases ef : f ds with
  | none => rw [ef] at e; cases e
  | some p =>
    rw [ef] at e
    cases e
    refine ⟨G, F, ds, p.1, p.2, r, ef, fun v G' H' F' fr r' s o h1 h2 => ?_⟩
    obtain ⟨F2, r2, u2⟩ := r'.seto i o h1 h2
    exact k _ G' H' F2 r2 (s.weaken u2) fun j hj => by rw [List.getElem?_set_ne fun z => hi (by rw [z]; exact hj)]
def gDrop (f : XF S D) : SF S := fun ds => (f ds).map fun p => .nx p.2
theorem s_drop {f : XF S D} (w : tS K R pn (gDrop f) Dn σ H) : tDrop (tX K R f) Dn σ H := by
  obtain ⟨G, F, ds, o, r, e, k⟩ := w
  unfold gDrop at e
  cases ef : f ds with
  | none => rw [ef] at e; cases e
  | some p =>
    rw [ef] at e
    cases e
    exact ⟨G, F, ds, p.1, p.2, r, ef, fun v G' H' F' r' s _ => k σ G' H' F' r' s fun _ _ => rfl⟩
def gIfS (c : XF S Bool) (g h : SF S) : SF S := fun ds => (c ds).bind fun p => if p.1 then g p.2 else h p.2
theorem s_if {c : XF S Bool} (w : tS K R pn (gIfS c g h) Dn σ H) : tIfS (tXT K R c) (tS K R pn g) (tS K R pn h) Dn σ H := by
  obtain ⟨G, F, ds, o, r, e, k⟩ := w
  unfold gIfS at e
  cases ef : c ds with
  | none => rw [ef] at e; cases e
  | some p =>
    rw [ef] at e
    simp only [Option.bind_some] at e
    refine ⟨G, F, ds, p.1, p.2, r, ef, fun G' H' F' r' s => ?_⟩
    cases hp : p.1 with
    | true =>
      rw [hp, if_pos rfl] at e
      exact iteT ⟨G', F', p.2, o, r', e, k.shift s fun _ _ => rfl⟩
    | false =>
      rw [hp, if_neg Bool.false_ne_true] at e
      exact iteF ⟨G', F', p.2, o, r', e, k.shift s fun _ _ => rfl⟩
def gAsgT (t : D → Option (List (Nat × D))) (f : XF S D) : SF S := fun ds => (f ds).bind fun p => (t p.1).map fun as => .nx (setD p.2 as)
theorem s_asgT {t : D → Option (List (Nat × D))} {tg : TG} {f : XF S D} (ht : TGD false K tg t) (hp : ∀ d as, t d = some as → ∀ p ∈ as, p.1 ∉ pn) (w : tS K R pn (gAsgT t f) Dn σ H) : tAsg (tX K R f) tg Dn σ H := by
  obtain ⟨G, F, ds, o, r, e, k⟩ := w
  unfold gAsgT at e
  cases ef : f ds with
  | none => rw [ef] at e; cases e
  | some p =>
    rw [ef] at e
    simp only [Option.bind_some] at e
    cases et : t p.1 with
    | none => rw [et] at e; cases e
    | some as =>
      rw [et] at e
      cases e
      refine ⟨G, F, ds, p.1, p.2, r, ef, fun v G' H' F' r' s dv => ht v p.1 as σ G' H' _ r'.sub (.inl dv) et fun ws aw => ?_⟩
      obtain ⟨F2, r2, u2⟩ := r'.setAll aw
      refine k _ G' H' F2 r2 (s.weaken u2) fun j hj => setAll_out (own := (as.map (·.1))) (fun z => ?_) (asgV_slots aw fun q hq => List.mem_map_of_mem hq)
      obtain ⟨q, hq, rfl⟩ := List.mem_map.mp z
      exact hp p.1 as et q hq hj
def forRun (t : D → Option (List (Nat × D))) (body : SF S) : List D → SF S
  | [], ds => some (.nx ds)
  | x :: xs, ds => (t x).bind fun as => (body (setD ds as)).bind fun o => match o with
    | .nx ds' => forRun t body xs ds'
    | .ct ds' => forRun t body xs ds'
    | .bk ds' => some (.nx ds')
    | .rt m ds' => some (.rt m ds')
def gFor (src : XF S (List D)) (t : D → Option (List (Nat × D))) (body : SF S) : SF S := fun ds => (src ds).bind fun p => forRun t body p.1 p.2
theorem s_for {W : Bool} {src : XF S (List D)} {t : D → Option (List (Nat × D))} {tg : TG} (ht : TGD W K tg t) (hp : ∀ d as, t d = some as → ∀ p ∈ as, p.1 ∉ pn) (w : tS K R pn (gFor src t g) Dn σ H) : tFor (tXI W K R src) tg (tS K R pn g) Dn σ H := by
  obtain ⟨G, F, ds, o, r, e, k⟩ := w
  unfold gFor at e
  cases ef : src ds with
  | none => rw [ef] at e; cases e
  | some p =>
    rw [ef] at e
    simp only [Option.bind_some] at e
    obtain ⟨xs, ds1⟩ := p
    refine ⟨G, F, ds, xs, ds1, r, ef, fun J G1 H1 F1 r1 s1 it => ?_⟩
    refine ⟨fun i m σc Hc => m = xs.length - i ∧ i ≤ xs.length ∧ ∃ Gc Fc dsc, RS K R dsc σc Gc Hc Fc ∧ Step G H (fun a => ∃ j, F j a) Gc Hc (fun a => ∃ j, Fc j a) ∧ Same G1 Gc ∧ (∀ j ∈ pn, σc[j]? = σ[j]?) ∧ forRun t g (xs.drop i) dsc = some o,
      ⟨xs.length, rfl, Nat.zero_le _, G1, F1, ds1, r1, s1, Same.refl _, fun _ _ => rfl, by simpa using e⟩, ?_⟩
    rintro i m σc Hc ⟨rfl, hi, Gc, Fc, dsc, rc, sc, gc, pc, ec⟩
    by_cases hlt : i < xs.length
    · refine .inr ⟨it.go i Hc (gc.trans rc.sub) hlt, fun σ' H' => ∃ m', m' < xs.length - i ∧ (m' = xs.length - (i + 1) ∧ i + 1 ≤ xs.length ∧ ∃ Gc Fc dsc, RS K R dsc σ' Gc H' Fc ∧ Step G H (fun a => ∃ j, F j a) Gc H' (fun a => ∃ j, Fc j a) ∧ Same G1 Gc ∧ (∀ j ∈ pn, σ'[j]? = σ[j]?) ∧ forRun t g (xs.drop (i + 1)) dsc = some o), fun σ' H' z => z, fun x H' y => ?_⟩
      obtain ⟨d, hd, grow⟩ := it.yld i Hc x H' (gc.trans rc.sub) hlt y
      obtain ⟨Ga, ga, dx⟩ := grow Gc gc rc.sub
      have ra := rc.grow ga
      have hdrop : xs.drop i = d :: xs.drop (i + 1) := by
        rw [List.drop_eq_getElem_cons hlt]
        rw [List.getElem?_eq_getElem hlt] at hd
        cases hd
        rfl
      rw [hdrop] at ec
      unfold forRun at ec
      cases et : t d with
      | none => rw [et] at ec; cases ec
      | some as =>
        rw [et] at ec
        simp only [Option.bind_some] at ec
        cases eb : g (setD dsc as) with
        | none => rw [eb] at ec; cases ec
        | some o1 =>
          rw [eb] at ec
          simp only [Option.bind_some] at ec
          refine ht x d as σc Ga H' _ ga.sub dx et fun ws aw => ?_
          obtain ⟨F2, r2, u2⟩ := ra.setAll aw
          have sa : Step G H (fun a => ∃ j, F j a) Ga H' (fun a => ∃ j, F2 j a) := (sc.trans ga.step).weaken u2
          have pa : ∀ j ∈ pn, (setAll σc ws)[j]? = σ[j]? := fun j hj => by
            rw [setAll_out (own := (as.map (·.1))) (fun z => ?_) (asgV_slots aw fun q hq => List.mem_map_of_mem hq)]
            · exact pc j hj
            · obtain ⟨q, hq, rfl⟩ := List.mem_map.mp z
              exact hp d as et q hq hj
          refine ⟨Ga, F2, setD dsc as, o1, r2, eb, ?_⟩
          have again : ∀ ds', forRun t g (xs.drop (i + 1)) ds' = some o → After K R pn (setAll σc ws) Ga H' (fun a => ∃ j, F2 j a) ds' (fun σ' H' => ∃ m', m' < xs.length - i ∧ (m' = xs.length - (i + 1) ∧ i + 1 ≤ xs.length ∧ ∃ Gc Fc dsc, RS K R dsc σ' Gc H' Fc ∧ Step G H (fun a => ∃ j, F j a) Gc H' (fun a => ∃ j, Fc j a) ∧ Same G1 Gc ∧ (∀ j ∈ pn, σ'[j]? = σ[j]?) ∧ forRun t g (xs.drop (i + 1)) dsc = some o)) :=
            fun ds' e' σ' G' H2 F' r' s' p' => ⟨xs.length - (i + 1), by omega, rfl, hlt, G', F', ds', r', sa.trans s', gc.trans (ga.keep.trans s'.keep), fun j hj => (p' j hj).trans (pa j hj), e'⟩
          cases o1 with
          | nx ds' => exact again ds' ec
          | ct ds' => exact again ds' ec
          | bk ds' => cases ec; exact After.shift k sa pa
          | rt m ds' => cases ec; exact SEnd.shift (Dn := Dn) (o := .rt m ds') k sa pa
    · have e' : i = xs.length := by omega
      subst e'
      rw [List.drop_length] at ec
      cases ec
      exact .inl ⟨it.stop _ Hc (gc.trans rc.sub) (Nat.le_refl _) (Nat.le_refl _), k σc Gc Hc Fc rc sc pc⟩
def whileRun (c : XF S Bool) (body : SF S) : Nat → SF S
  | 0, _ => none
  | n + 1, ds => (c ds).bind fun p => if p.1 then (body p.2).bind fun o => match o with
    | .nx ds' => whileRun c body n ds'
    | .ct ds' => whileRun c body n ds'
    | .bk ds' => some (.nx ds')
    | .rt m ds' => some (.rt m ds')
    else some (.nx p.2)
def gWhile (n : Nat) (c : XF S Bool) (body : SF S) : SF S := fun ds => whileRun c body n ds
theorem s_while {n : Nat} {c : XF S Bool} (w : tS K R pn (gWhile n c g) Dn σ H) : tWhile (tXT K R c) (tS K R pn g) Dn σ H := by
  obtain ⟨G, F, ds, o, r, e, k⟩ := w
  unfold gWhile at e
  refine ⟨fun m σc Hc => ∃ Gc Fc dsc, RS K R dsc σc Gc Hc Fc ∧ Step G H (fun a => ∃ j, F j a) Gc Hc (fun a => ∃ j, Fc j a) ∧ (∀ j ∈ pn, σc[j]? = σ[j]?) ∧ whileRun c g m dsc = some o, ⟨n, G, F, ds, r, .refl r.sub, fun _ _ => rfl, e⟩, ?_⟩
  rintro m σc Hc ⟨Gc, Fc, dsc, rc, sc, pc, ec⟩
  cases m with
  | zero => cases ec
  | succ m =>
    unfold whileRun at ec
    cases eb : c dsc with
    | none => rw [eb] at ec; cases ec
    | some p =>
      rw [eb] at ec
      simp only [Option.bind_some] at ec
      refine ⟨Gc, Fc, dsc, p.1, p.2, rc, eb, fun G' H' F' r' s' => ?_⟩
      cases hp : p.1 with
      | false =>
        rw [hp, if_neg Bool.false_ne_true] at ec
        cases ec
        exact iteF (k σc G' H' F' r' (sc.trans s') pc)
      | true =>
        rw [hp, if_pos rfl] at ec
        cases eo : g p.2 with
        | none => rw [eo] at ec; cases ec
        | some o1 =>
          rw [eo] at ec
          simp only [Option.bind_some] at ec
          refine iteT ⟨fun σ' H2 => ∃ m', m' < m + 1 ∧ ∃ Gc Fc dsc, RS K R dsc σ' Gc H2 Fc ∧ Step G H (fun a => ∃ j, F j a) Gc H2 (fun a => ∃ j, Fc j a) ∧ (∀ j ∈ pn, σ'[j]? = σ[j]?) ∧ whileRun c g m' dsc = some o, fun _ _ z => z, G', F', p.2, o1, r', eo, ?_⟩
          have again : ∀ ds', whileRun c g m ds' = some o → After K R pn σc G' H' (fun a => ∃ j, F' j a) ds' (fun σ' H2 => ∃ m', m' < m + 1 ∧ ∃ Gc Fc dsc, RS K R dsc σ' Gc H2 Fc ∧ Step G H (fun a => ∃ j, F j a) Gc H2 (fun a => ∃ j, Fc j a) ∧ (∀ j ∈ pn, σ'[j]? = σ[j]?) ∧ whileRun c g m' dsc = some o) :=
            fun ds' e' σ' G2 H2 F2 r2 s2 p2 => ⟨m, Nat.lt_succ_self _, G2, F2, ds', r2, (sc.trans s').trans s2, fun j hj => (p2 j hj).trans (pc j hj), e'⟩
          cases o1 with
          | nx ds' => exact again ds' ec
          | ct ds' => exact again ds' ec
          | bk ds' => cases ec; exact After.shift k (sc.trans s') pc
          | rt m ds' => cases ec; exact SEnd.shift (Dn := Dn) (o := .rt m ds') k (sc.trans s') pc
end
inductive OwnAll {S : Type} (K : PySem.W.Frag) (R : StI S) (G H : Hp) : List V → List (MO S) → (Addr → Prop) → Prop
  | nil : OwnAll K R G H [] [] (fun _ => False)
  | cons {v : V} {m : MO S} {vs : List V} {ms : List (MO S)} {f1 f2 : Addr → Prop} : OwnAt K R G H v m f1 → OwnAll K R G H vs ms f2 → (∀ a, f1 a → ¬ f2 a) → OwnAll K R G H (v :: vs) (m :: ms) (fun a => f1 a ∨ f2 a)
section
variable {S : Type}
def tOA (K : PySem.W.Frag) (R : StI S) (f : XF S (List (MO S))) : TA := fun σ H Q => ∃ G F ds ms ds', RS K R ds σ G H F ∧ f ds = some (ms, ds') ∧
  ∀ vs G' H' F' fr, RS K R ds' σ G' H' F' → Step G H (fun a => ∃ i, F i a) G' H' (fun a => (∃ i, F' i a) ∨ fr a) → OwnAll K R G' H' vs ms fr → (∀ a, fr a → ¬ ∃ i, F' i a) → (∀ a, fr a → G' a = none) → Q vs H'
def oNil : XF S (List (MO S)) := fun ds => some ([], ds)
def oCons (f : XF S (MO S)) (r : XF S (List (MO S))) : XF S (List (MO S)) := xb f fun x => xb r fun xs => xlift (some (x :: xs))
variable {X : Cx} {R : StI S} {e : Expr} {es : List Expr} {pos : Pos}
theorem ao_nil : PA X [] (tOA X.K R (oNil (S := S))) := PA.imp pa_nil fun σ H Q ⟨G, F, ds, d, ds', rs, e, k⟩ => by
  cases e
  exact k [] G H F _ rs ⟨fun _ _ _ h => h, Same.refl _, rs.sub, fun _ h => .inl h, fun b h => h.elim .inl False.elim⟩ .nil (fun _ z => z.elim) fun _ z => z.elim
theorem ao_cons {f : XF S (MO S)} {fr : XF S (List (MO S))} (ha : PE X e (tO X.K R f)) (hr : PA X es (tOA X.K R fr)) (hs : starEach (e :: es) X.env = (false, eval e X.env) :: starEach es X.env := by rfl) : PA X (e :: es) (tOA X.K R (oCons f fr)) :=
  PA.imp (pa_cons ha hr hs) fun σ H Q ⟨G, F, ds, ms, ds', rs, e, k⟩ => by
    obtain ⟨x, ds1, ea, e⟩ := xb_some e
    obtain ⟨xs, ds2, eb, e⟩ := xb_some e
    obtain ⟨eg, e9⟩ := xlift_some e
    subst e9
    cases eg
    refine ⟨G, F, ds, x, ds1, rs, ea, fun v G1 H1 F1 f1 r1 s1 o1 d1 n1 => ?_⟩
    refine ⟨G1, F1, ds1, xs, _, r1, eb, fun vs G2 H2 F2 f2 r2 s2 o2 d2 n2 => ?_⟩
    have same : ∀ a, f1 a → H2 a = H1 a := fun a ha => by
      cases q : H1 a with
      | none => exact absurd q (o1.trk a ha)
      | some o => exact s2.frame a (d1 a ha) o q
    have old : ∀ a, f1 a → H1 a ≠ none := o1.trk
    have s2' : Step G1 H1 (fun a => (∃ i, F1 i a) ∨ f1 a) G2 H2 (fun a => (∃ i, F2 i a) ∨ (f1 a ∨ f2 a)) := by
      refine ⟨fun a ha o q => s2.frame a (fun z => ha (.inl z)) o q, s2.keep, s2.sub, fun b hb => ?_, fun b hb => ?_⟩
      · rcases s2.new0 b hb with z | z | z
        · exact .inl z
        · exact .inr (.inl z)
        · exact .inr (.inr (.inl z))
      · rcases hb with hb | hb | hb
        · exact (s2.newf b (.inl hb)).elim (fun z => .inl (.inl z)) .inr
        · exact .inl (.inr hb)
        · exact (s2.newf b (.inr hb)).elim (fun z => .inl (.inl z)) .inr
    have apart : ∀ a, f1 a → ¬ ((∃ i, F2 i a) ∨ f2 a) := fun a ha z => (s2.newf a z).elim (d1 a ha) (old a ha)
    refine k (v :: vs) G2 H2 F2 _ r2 (s1.trans s2') (.cons (o1.mono s2.keep same) o2 fun a ha z => apart a ha (.inr z)) (fun a ha z => ?_) fun a ha => ?_
    · rcases ha with ha | ha
      · exact apart a ha (.inl z)
      · exact d2 a ha z
    · rcases ha with ha | ha
      · cases q : G2 a with
        | none => rfl
        | some o =>
          rcases s2.new0 a (by rw [q]; simp) with z | z | z
          · exact absurd (n1 a ha) z
          · exact absurd z (old a ha)
          · exact absurd z (d1 a ha)
      · exact n2 a ha
variable {K : PySem.W.Frag} {pn : List Nat} {Dn : Ends} {σ : L2.St} {H : Hp}
def gPar2 (i j : Nat) (f : XF S (List (MO S))) : SF S := fun ds => (f ds).bind fun p => match p.1 with
  | [x, y] => some (.nx ((p.2.set i (some x)).set j (some y)))
  | _ => none
def gPar3 (i j l : Nat) (f : XF S (List (MO S))) : SF S := fun ds => (f ds).bind fun p => match p.1 with
  | [x, y, z] => some (.nx (((p.2.set i (some x)).set j (some y)).set l (some z)))
  | _ => none
end
section
variable {S : Type} {K : PySem.W.Frag} {R : StI S} {G H : Hp} {ds : DS S} {σ : L2.St} {F : Nat → Addr → Prop}
def lstAt (ds : DS S) (i : Nat) : Option (List D) := match ds[i]? with
  | some (some (.lst xs)) => some xs
  | _ => none
theorem lstAt_some {i : Nat} {xs : List D} (h : lstAt ds i = some xs) : ds[i]? = some (some (.lst xs)) := by
  unfold lstAt at h
  split at h
  · cases h; assumption
  · cases h
theorem RS.write (r : RS K R ds σ G H F) {i : Nat} {xs ys : List D} {p : Addr} {ws : List V} (e : ds[i]? = some (some (.lst xs))) (hp : σ[i]? = some (some (.ref p))) (hF : ∀ a, F i a ↔ a = p) (z : ws.length ≤ sizeLine) (d : DenAll K G ws ys) :
    RS K R (ds.set i (some (.lst ys))) σ G (upd H p (.lst ws)) F ∧ Step G H (fun a => ∃ j, F j a) G (upd H p (.lst ws)) (fun a => ∃ j, F j a) := by
  have hi : i < ds.length := (List.getElem?_eq_some_iff.mp e).1
  have hg : G p = none := r.dis i p ((hF p).mpr rfl)
  have sub : Same G (upd H p (.lst ws)) := fun b u q => by rw [upd_ne (ne_of_none q hg)]; exact r.sub b u q
  refine ⟨⟨sub, by rw [List.length_set]; exact r.len, fun j m q => ?_, fun j q => ?_, r.dj, r.dis⟩, ⟨fun a ha o q => ?_, Same.refl _, sub, fun b hb => .inl hb, fun b hb => .inl hb⟩⟩
  · by_cases hj : i = j
    · subst hj
      rw [List.getElem?_set_self hi] at q
      cases q
      exact ⟨_, hp, p, ws, rfl, upd_same, z, d, hF⟩
    · rw [List.getElem?_set_ne hj] at q
      obtain ⟨v, h1, h2⟩ := r.own j m q
      exact ⟨v, h1, h2.mono (Same.refl _) fun a ha => upd_ne fun q' => hj (r.dj i j a ((hF a).mpr q') ha)⟩
  · by_cases hj : i = j
    · subst hj
      exact absurd (List.getElem?_set_self hi) (q _)
    · rw [List.getElem?_set_ne hj] at q
      exact r.emp j q
  · rw [upd_ne fun q' => ha ⟨i, (hF a).mpr q'⟩]; exact q
variable {X : Cx} {a e : Expr} {es : List Expr} {apos cpos : Pos}
def MtD (K : PySem.W.Frag) (r : V → List V → Hp → VK → Prop) (g : List D → List D → Option (D × List D)) : Prop := ∀ p vs xs as ws d ys G H (Q : VK), Same G H → H p = some (.lst vs) → G p = none → vs.length ≤ sizeLine → DenAll K G vs xs → DenAll K G ws as → g xs as = some (d, ys) →
  (∀ v us, us.length ≤ sizeLine → DenAll K G us ys → Den K G v d → Q v (upd H p (.lst us))) → r (.ref p) ws H Q
def xMt (i : Nat) (g : List D → List D → Option (D × List D)) (f : XF S (List D)) : XF S D := fun ds0 => (lstAt ds0 i).bind fun _ => xb f (fun as => fun ds => (lstAt ds i).bind fun xs => (g xs as).map fun q => (q.1, ds.set i (some (.lst q.2)))) ds0
theorem x_mt {i : Nat} {r : V → List V → Hp → VK → Prop} {g : List D → List D → Option (D × List D)} {f : XF S (List D)} (hr : MtD K r g) {Q : VK} (hty : ∀ p vs (H : Hp), H p = some (.lst vs) → tyV K "list" (.ref p) H) (w : tX K R (xMt i g f) σ H Q) : tBM K "list" r (tVar i) (tXA K R f) σ H Q := by
  obtain ⟨G, F, ds, d, ds', rs, e, k⟩ := w
  unfold xMt at e
  cases e0 : lstAt ds i with
  | none => rw [e0] at e; cases e
  | some ys =>
  rw [e0, Option.bind_some] at e
  obtain ⟨as, ds1, ea, e⟩ := xb_some e
  cases el : lstAt ds1 i with
  | none => rw [el] at e; cases e
  | some xs =>
    rw [el] at e
    simp only [Option.bind_some] at e
    cases eg : g xs as with
    | none => rw [eg] at e; cases e
    | some q =>
      rw [eg] at e
      cases e
      obtain ⟨v0, hv0, p0, vs0, rfl, hp0, _⟩ := rs.own i _ (lstAt_some e0)
      refine ⟨_, hv0, hty p0 vs0 H hp0, G, F, ds, as, ds1, rs, ea, fun ws G1 H1 F1 r1 s1 dw => ?_⟩
      obtain ⟨v1, hv1, p1, vs1, rfl, hp1, z1, d1, f1⟩ := r1.own i _ (lstAt_some el)
      rw [hv0] at hv1
      cases hv1
      have hg1 : G1 p0 = none := r1.dis i p0 ((f1 p0).mpr rfl)
      refine hr p0 vs1 xs as ws q.1 q.2 G1 H1 Q r1.sub hp1 hg1 z1 d1 dw eg fun v us zu du dv => ?_
      obtain ⟨r2, s2⟩ := r1.write (lstAt_some el) hv0 f1 zu du
      exact k v G1 _ F1 r2 (s1.trans s2) dv
def appD (xs as : List D) : Option (D × List D) := match as with
  | [x] => if xs.length < sizeLine then some (.none, xs ++ [x]) else none
  | _ => none
theorem d_app : MtD K rAppend appD := by
  intro p vs xs as ws d ys G H Q s hp hg z dx dw e k
  match as, e with
  | [x], e =>
    simp only [appD] at e
    split at e
    · cases e
      rename_i hz
      match ws, dw with
      | [w], .cons dw .nil => exact ⟨p, vs, w, rfl, rfl, hp, by rw [dx.length]; exact hz, k _ (vs ++ [w]) (by rw [List.length_append, dx.length]; exact hz) (dx.append (.cons dw .nil)) .non⟩
    · cases e
def extD (xs as : List D) : Option (D × List D) := match as with
  | [.list ys] => if xs.length + ys.length ≤ sizeLine then some (.none, xs ++ ys) else none
  | _ => none
theorem d_ext : MtD K rExtend extD := by
  intro p vs xs as ws d ys G H Q s hp hg z dx dw e k
  match as, e with
  | [.list zs], e =>
    simp only [extD] at e
    split at e
    · cases e
      rename_i hz
      match ws, dw with
      | _, .cons (.lst q z2 r) .nil =>
        exact ⟨p, _, vs, _, rfl, rfl, hp, s _ _ q, by rw [dx.length, r.length]; exact hz, k _ (vs ++ _) (by rw [List.length_append, dx.length, r.length]; exact hz) (dx.append r) .non⟩
    · cases e
def gSetI (j : Nat) (f : XF S D) (gi : DS S → Option D) : SF S := fun ds => (f ds).bind fun p => (gi p.2).bind fun i => match i with
  | .int n => (lstAt p.2 j).bind fun xs => (ixN xs.length n).map fun k => .nx (p.2.set j (some (.lst (xs.set k p.1))))
  | _ => none
end
structure FnG (P : Program) (w : World) (K : PySem.W.Frag) (mg : Str → Option Value) (base : Heap) (C : CXT) (k : Nat) (f : Addr) (fd : FuncData) (ps : List Str) (sp : Sp) : Prop where
  len : ∀ vs H Q E, sp vs H Q E → vs.length = ps.length
  run : ∀ (A : Around) (outer : List Env) (s : Shared) (H : Hp) (args : Args) (us : List Value) (vs : List V) (Q : VK) (E : XK), Room k A → A.guards = some [] → Env0 P w K mg base A outer s H → BindsTo s fd args (ps.zip us) → Vals vs us → sp vs H Q E →
    codeAny (model P w) A (.call (.ref f) args) (CR C outer P w H s Q E) s
theorem FnG.up {P : Program} {w : World} {K : PySem.W.Frag} {mg : Str → Option Value} {base : Heap} {C : CXT} {j k : Nat} {f : Addr} {fd : FuncData} {ps : List Str} {sp : Sp} (F : FnG P w K mg base C j f fd ps sp) (h : j ≤ k) : FnG P w K mg base C k f fd ps sp :=
  ⟨F.len, fun A outer s H args us vs Q E hr => F.run A outer s H args us vs Q E (hr.mono h)⟩
theorem FnG.imp {P : Program} {w : World} {K : PySem.W.Frag} {mg : Str → Option Value} {base : Heap} {C : CXT} {k : Nat} {f : Addr} {fd : FuncData} {ps : List Str} {sp sp' : Sp} (F : FnG P w K mg base C k f fd ps sp) (h : ∀ vs H Q E, sp' vs H Q E → sp vs H Q E) : FnG P w K mg base C k f fd ps sp' :=
  ⟨fun vs H Q E q => F.len vs H Q E (h _ _ _ _ q), fun A outer s H args us vs Q E hr hg he hb hv hs => F.run A outer s H args us vs Q E hr hg he hb hv (h _ _ _ _ hs)⟩
section
variable {X : Cx} {C : CXT} {k : Nat} {f : Addr} {fd : FuncData} {ps : List Str} {sp : Sp} {E : XK} {x : Str} {p pos : Pos} {e : Expr} {es : List Expr} {t : TA}
theorem runG {pins : List (Addr × Obj)} {σ : L2.St} {H : Hp} {s : Shared} {Q : VK} {us : List Value} {vs : List V} (F : FnG X.prog X.w X.K X.mg X.base C k f fd ps sp) (hr : Room k X.A) (hgd : X.A.guards = some []) (hb : Binds X.K fd ps []) (hx : Passes C X E)
    (I : Inv X pins σ H s) (r : Vals vs us) (h : sp vs H Q E) : wpAny (model X.prog X.w) X.A (call (.ref f) us) (EP X pins σ Q) X.xe s := by
  have hz : (us ++ ([] : List Value)).length = ps.length := by
    rw [List.append_nil, ← r.length]
    exact F.len _ _ _ _ h
  have hbind := hb s us I.kIn hz
  rw [List.append_nil] at hbind
  have go := F.run X.A X.stack s H ⟨us, []⟩ us vs Q E hr hgd I.env0 hbind r h
  refine wpAny_call (codeAny_mono go fun res s2 hq => ?_)
  match res, hq with
  | .error er, hq => exact hx pins σ H s er s2 I hq
  | .ok (.ret u), hq => exact I.after hq
  | .ok .next, hq => exact hq.elim
  | .ok .brk, hq => exact hq.elim
  | .ok .cont, hq => exact hq.elim
theorem pe_callG (F : FnG X.prog X.w X.K X.mg X.base C k f fd ps sp) (hr : Room k X.A) (hgd : X.A.guards = some []) (hg : Gl X x) (hm : X.mg x = some (.ref f)) (hk : PySem.W.keepIn X.K (.ref f) = true) (hb : Binds X.K fd ps []) (hx : Passes C X E)
    (ha : PA X (e :: es) t) (hdb : (x == ("__debug__" : Str)) = false := by decide) (he : starEach (e :: es) X.env = (false, eval e X.env) :: starEach es X.env := by rfl) (hpl : (backTo pos (starEach es X.env)).any (·.1) = false := by rfl) :
    PE X (.Call (.Name x p) (e :: es) [] pos) (tCall sp [] E t) :=
  ⟨fun pins s σ H Q I h => wpAny_Call_Name_kw (ld_glob I hg hm (PySem.W.callWith_K (h₀ := X.base) I.ok.mod.kin hk
    (thn (ha.run pos pins s σ H _ I h) fun us s1 ⟨vs, H1, I1, r, q⟩ => ⟨I1.kIn, runG F hr hgd hb hx I1 r (by have q2 : sp (vs ++ []) H1 Q E := q; rw [List.append_nil] at q2; exact q2)⟩) he hpl) hdb)⟩
end
theorem fnG_of {P : Program} {w : World} {K : PySem.W.Frag} {mg : Str → Option Value} {base : Heap} {x qual : Str} {st : Stmt} {f : Addr} {fd : FuncData} {N ps : List Str} {k : Nat} {sp : Sp} (Fn : Fun K x qual st f fd) (sc : FnScope N ps (defScope st))
    (len : ∀ vs H Q E, sp vs H Q E → vs.length = ps.length)
    (hbody : ∀ (cdv : Value) (A : Around) (outer : List Env) (s : Shared) (H : Hp) (vs : List V) (Q : VK) (E : XK), Room k (A.deeper (envOfC qual (defScope st) s.heap.objs.size f cdv)) → (A.deeper (envOfC qual (defScope st) s.heap.objs.size f cdv)).guards = some [] → sp vs H Q E →
      ∃ t, PSs (cxOf CX0 P w K mg base N qual (defScope st) f cdv A outer s H E).nox (defBody st) t ∧ t { nx := fun _ H' => Q .non H', rt := Q } (L2.start N vs) H) : FnG P w K mg base CX0 (k + 1) f fd ps sp := by
  refine ⟨len, fun A outer s H args us vs Q E hr hgd e0 hb r hsp => ?_⟩
  obtain ⟨oc, od, kV, doc, pm, an, cdv, ct, osl, rfl, lk, hcd⟩ := Fn.ex
  have inK : K.In s.heap := e0.mod.kin.keeps fun b o q => (e0.bs b o q).1
  have noLim : s.heap.NoLimit := e0.mod.nolimit.keeps fun b o q => (e0.bs b o q).1
  have kinds : ∀ y ∈ ps.zip us, (defScope st).names.lookup y.1 = some .local ∨ ((defScope st).names.lookup y.1 = some .cell ∧ ((cellsFrom (s.heap.objs.size + 1) (defScope st).names []).lookup y.1).isSome = true) := by
    rintro ⟨n, v⟩ hy
    exact (sc.par n (List.of_mem_zip hy).1).elim .inl fun q => .inr ⟨q, PySem.W.cellsFrom_some _ _ _ (.inl q)⟩
  refine codeAny_call_function hr.depth (inK _ _ lk) rfl sc.co sc.gen rfl (PySem.W.codeRec_of inK hcd) (hb _ _ _ _ (wpAny_newFunctionEnv_cells sc.kind kinds fun env he s1 hin => ?_))
  subst he
  refine ⟨noLim.keeps hin.toInCall.keep, codeAny_func ?_⟩
  obtain ⟨t, ht, hq⟩ := hbody cdv A outer s H vs Q E (hr.deeper _) (by first | exact hgd | (simpa [Around.deeper] using hgd)) hsp
  have I0 : Inv (cxOf CX0 P w K mg base N qual (defScope st) f cdv A outer s H E) [] (L2.start N vs) H s1 := inv_start sc hr.hd e0 (len _ _ _ _ hsp) r hin
  have ends : ∀ {σ' : L2.St} {H' : Hp} {v : V} {u : Value} {s' : Shared}, Inv (cxOf CX0 P w K mg base N qual (defScope st) f cdv A outer s H E) [] σ' H' s' → RelV v u → Q v H' → CE outer P w H s Q u s' := fun J rv q => ⟨_, _, J.os, J.bare, J.base, J.hok, rv, q⟩
  refine wpAny_mono (ht.nox.run [] s1 (L2.start N vs) H _ I0 hq) (fun fl s' hs => ?_) fun _ _ z => z
  match fl, hs with
  | .ret u, ⟨v, σ', H', J, rv, q⟩ => exact ends J rv q
  | .next, ⟨σ', H', J, q⟩ => exact ends (v := V.non) (u := Value.none) J rfl q
  | .brk, ⟨_, _, _, q⟩ => exact q.elim
  | .cont, ⟨_, _, _, q⟩ => exact q.elim
section
variable {S : Type}
def spP (K : PySem.W.Frag) (R : StI S) (n : Nat) (F : List D → Option (MO S)) : Sp := fun vs H Q _ => vs.length = n ∧ ∃ G as m, Same G H ∧ DenAll K G vs as ∧ F as = some m ∧
  ∀ v G' H' fr, Step G H (fun _ => False) G' H' fr → OwnAt K R G' H' v m fr → (∀ a, fr a → G' a = none) → Q v H'
def spS (K : PySem.W.Frag) (R : StI S) (n : Nat) (F : S → List D → Option (MO S × S)) : Sp := fun vs H Q _ => vs.length = n ∧ ∃ G fp v0 vr s as m s', vs = v0 :: vr ∧ Same G H ∧ R.rel G H v0 s fp ∧ (∀ a, fp a → G a = none) ∧ DenAll K G vr as ∧ F s as = some (m, s') ∧
  ∀ v G' H' fp' fr, Step G H fp G' H' (fun a => fp' a ∨ fr a) → R.rel G' H' v0 s' fp' → OwnAt K R G' H' v m fr → (∀ a, fr a → ¬ fp' a) → (∀ a, fp' a ∨ fr a → G' a = none) → Q v H'
def spC (K : PySem.W.Frag) (R : StI S) (n : Nat) (F : List Int → List D → Option (MO S)) : Sp := fun vs H Q _ => vs.length = n ∧ ∃ G a vr ns as m, vs = .ref a :: vr ∧ Same G H ∧ SqL K G a (ns.map V.int) ∧ DenAll K G vr as ∧ F ns as = some m ∧
  ∀ v G' H' fr, Step G H (fun _ => False) G' H' fr → OwnAt K R G' H' v m fr → (∀ a, fr a → G' a = none) → Q v H'
def startD (n : Nat) (as : List (MO S)) : DS S := as.map some ++ List.replicate (n - as.length) none
def outM : Out S → Option (MO S × DS S)
  | .rt m ds => some (m, ds)
  | .nx ds => some (.d .none, ds)
  | _ => none
def stAt (ds : DS S) (i : Nat) : Option S := match ds[i]? with
  | some (some (.st s)) => some s
  | _ => none
theorem stAt_some {ds : DS S} {i : Nat} {s : S} (h : stAt ds i = some s) : ds[i]? = some (some (.st s)) := by
  unfold stAt at h
  split at h
  · cases h; assumption
  · cases h
def runP (n : Nat) (g : SF S) : List D → Option (MO S) := fun as => (g (startD n (as.map .d))).bind fun o => (outM o).map (·.1)
def runC (n : Nat) (g : SF S) : List Int → List D → Option (MO S) := fun ns as => (g (startD n (.scr ns :: as.map .d))).bind fun o => (outM o).map (·.1)
variable {K : PySem.W.Frag} {R : StI S} {G H : Hp}
inductive ArgOk (K : PySem.W.Frag) (R : StI S) (G H : Hp) : List V → List (MO S) → (Nat → Addr → Prop) → Prop
  | mk {vs : List V} {ms : List (MO S)} {F : Nat → Addr → Prop} : vs.length = ms.length → (∀ (i : Nat) m, ms[i]? = some m → ∃ v, vs[i]? = some v ∧ OwnAt K R G H v m (F i)) → (∀ (i : Nat), ms.length ≤ i → ∀ a, ¬ F i a) → (∀ i j a, F i a → F j a → i = j) → (∀ i a, F i a → G a = none) → ArgOk K R G H vs ms F
theorem rs_start {N : List Str} {vs : List V} {ms : List (MO S)} {F : Nat → Addr → Prop} (s : Same G H) (h : ArgOk K R G H vs ms F) : RS K R (startD N.length ms) (L2.start N vs) G H F := by
  obtain ⟨hl, h1, h2, h3, h4⟩ := h
  have gd : ∀ i, (startD N.length ms)[i]? = if i < ms.length then ms[i]?.map some else if i < ms.length + (N.length - ms.length) then some none else none := fun i => by
    unfold startD
    by_cases hi : i < ms.length
    · rw [List.getElem?_append_left (by simpa using hi), if_pos hi, List.getElem?_map]
    · rw [List.getElem?_append_right (by simpa using hi), if_neg hi, List.getElem?_replicate]
      simp only [List.length_map]
      by_cases h2 : i - ms.length < N.length - ms.length
      · rw [if_pos h2, if_pos (by omega)]
      · rw [if_neg h2, if_neg (by omega)]
  refine ⟨s, ?_, fun i m e => ?_, fun i e a ha => ?_, h3, h4⟩
  · unfold startD L2.start
    simp only [List.length_append, List.length_map, List.length_replicate, hl]
  · rw [gd] at e
    by_cases hi : i < ms.length
    · rw [if_pos hi] at e
      cases q : ms[i]? with
      | none => rw [q] at e; cases e
      | some m' =>
        rw [q] at e
        cases e
        obtain ⟨v, hv, o⟩ := h1 i m q
        refine ⟨v, ?_, o⟩
        unfold L2.start
        rw [List.getElem?_append_left (by simpa [hl] using hi), List.getElem?_map, hv]
        rfl
    · rw [if_neg hi] at e
      split at e <;> cases e
  · by_cases hi : i < ms.length
    · have q : ms[i]? = some ms[i] := List.getElem?_eq_getElem hi
      exact e ms[i] (by rw [gd, if_pos hi, q]; rfl)
    · exact h2 i (by omega) a ha
theorem argOk_data {vs : List V} {as : List D} (d : DenAll K G vs as) : ArgOk K R G H vs (as.map .d) (fun _ _ => False) := by
  refine .mk (by rw [List.length_map, d.length]) (fun i m e => ?_) (fun _ _ _ z => z) (fun _ _ _ z => z.elim) fun _ _ z => z.elim
  rw [List.getElem?_map] at e
  cases q : as[i]? with
  | none => rw [q] at e; cases e
  | some x =>
    rw [q] at e
    cases e
    obtain ⟨v, h1, h2⟩ := d.get q
    exact ⟨v, h1, h2, fun _ z => z⟩
theorem argOk_first {v0 : V} {m0 : MO S} {vr : List V} {as : List D} {fp : Addr → Prop} (o : OwnAt K R G H v0 m0 fp) (n : ∀ a, fp a → G a = none) (d : DenAll K G vr as) : ArgOk K R G H (v0 :: vr) (m0 :: as.map .d) (fun i a => i = 0 ∧ fp a) := by
  refine .mk (by simp [d.length]) (fun i m e => ?_) (fun i hi a z => ?_) (fun i j a z1 z2 => by rw [z1.1, z2.1]) fun i a z => n a z.2
  · cases i with
    | zero => cases e; exact ⟨v0, rfl, o.iff fun a => ⟨fun z => z.2, fun z => ⟨rfl, z⟩⟩⟩
    | succ i =>
      have e' : (as.map (MO.d (S := S)))[i]? = some m := by simpa using e
      rw [List.getElem?_map] at e'
      cases q : as[i]? with
      | none => rw [q] at e'; cases e'
      | some x =>
        rw [q] at e'
        cases e'
        obtain ⟨v, h1, h2⟩ := d.get q
        exact ⟨v, by simpa using h1, h2, fun a z => by cases z.1⟩
  · rw [z.1] at hi
    simp at hi
section
variable {P : Program} {w : World} {mg : Str → Option Value} {base : Heap} {x qual : Str} {st : Stmt} {f : Addr} {fd : FuncData} {N ps : List Str} {k : Nat} {g : SF S}
abbrev BodyOk (P : Program) (w : World) (K : PySem.W.Frag) (mg : Str → Option Value) (base : Heap) (N : List Str) (qual : Str) (st : Stmt) (f : Addr) (k : Nat) (R : StI S) (pn : List Nat) (g : SF S) : Prop :=
  ∀ (cdv : Value) (A : Around) (outer : List Env) (s : Shared) (H : Hp) (E : XK), Room k (A.deeper (envOfC qual (defScope st) s.heap.objs.size f cdv)) → (A.deeper (envOfC qual (defScope st) s.heap.objs.size f cdv)).guards = some [] →
    PSs (cxOf CX0 P w K mg base N qual (defScope st) f cdv A outer s H E).nox (defBody st) (tS K R pn g)
theorem fn_P (Fn : Fun K x qual st f fd) (sc : FnScope N ps (defScope st)) (hbody : BodyOk P w K mg base N qual st f k R [] g) : FnG P w K mg base CX0 (k + 1) f fd ps (spP K R ps.length (runP N.length g)) := by
  refine fnG_of Fn sc (fun vs H Q E h => h.1) fun cdv A outer s H vs Q E hr hgd h => ⟨_, hbody cdv A outer s H E hr hgd, ?_⟩
  obtain ⟨hl, G, as, m, sm, d, e, q⟩ := h
  unfold runP at e
  cases eg : g (startD N.length (as.map .d)) with
  | none => rw [eg] at e; cases e
  | some o =>
    rw [eg] at e
    have r := rs_start (N := N) sm (argOk_data (R := R) (H := H) d)
    refine ⟨G, _, _, o, r, eg, ?_⟩
    have nf : ∀ {G' H' : Hp} {P' : Addr → Prop}, Step G H (fun a => ∃ (i : Nat), False) G' H' P' → Step G H (fun _ => False) G' H' P' := fun s => ⟨fun a _ o e => s.frame a (fun ⟨_, z⟩ => z) o e, s.keep, s.sub, fun b hb => by
      rcases s.new0 b hb with z | z | ⟨_, z⟩
      · exact .inl z
      · exact .inr (.inl z)
      · exact z.elim, fun b hb => (s.newf b hb).elim (fun ⟨_, z⟩ => z.elim) .inr⟩
    cases o with
    | nx ds' =>
      cases e
      exact fun σ' G' H' F' r' s' _ => q .non G' H' (fun _ => False) ((nf s').weaken fun _ z => z.elim) ⟨.non, fun _ z => z⟩ fun _ z => z.elim
    | rt m' ds' =>
      cases e
      exact fun v σ' G' H' F' fr r' s' o' h1 h2 _ => q v G' H' fr ((nf s').weaken fun _ z => .inr z) o' h2
    | bk ds' => cases e
    | ct ds' => cases e
theorem fn_C (Fn : Fun K x qual st f fd) (sc : FnScope N ps (defScope st)) (hbody : BodyOk P w K mg base N qual st f k R [] g) : FnG P w K mg base CX0 (k + 1) f fd ps (spC K R ps.length (runC N.length g)) := by
  refine fnG_of Fn sc (fun vs H Q E h => h.1) fun cdv A outer s H vs Q E hr hgd h => ⟨_, hbody cdv A outer s H E hr hgd, ?_⟩
  obtain ⟨hl, G, a0, vr, ns, as, m, rfl, sm, sq, d, e, q⟩ := h
  unfold runC at e
  cases eg : g (startD N.length (.scr ns :: as.map .d)) with
  | none => rw [eg] at e; cases e
  | some o =>
    rw [eg] at e
    have r := rs_start (N := N) sm (argOk_first (R := R) (H := H) (v0 := .ref a0) (m0 := .scr ns) (fp := fun _ => False) ⟨⟨a0, rfl, sq⟩, fun _ z => z⟩ (fun _ z => z.elim) d)
    refine ⟨G, _, _, o, r, eg, ?_⟩
    have nf : ∀ {G' H' : Hp} {P' : Addr → Prop}, Step G H (fun a => ∃ (i : Nat), i = 0 ∧ False) G' H' P' → Step G H (fun _ => False) G' H' P' := fun s => ⟨fun a _ o e => s.frame a (fun ⟨_, _, z⟩ => z) o e, s.keep, s.sub, fun b hb => by
      rcases s.new0 b hb with z | z | ⟨_, _, z⟩
      · exact .inl z
      · exact .inr (.inl z)
      · exact z.elim, fun b hb => (s.newf b hb).elim (fun ⟨_, _, z⟩ => z.elim) .inr⟩
    cases o with
    | nx ds' =>
      cases e
      exact fun σ' G' H' F' r' s' _ => q .non G' H' (fun _ => False) ((nf s').weaken fun _ z => z.elim) ⟨.non, fun _ z => z⟩ fun _ z => z.elim
    | rt m' ds' =>
      cases e
      exact fun v σ' G' H' F' fr r' s' o' h1 h2 _ => q v G' H' fr ((nf s').weaken fun _ z => .inr z) o' h2
    | bk ds' => cases e
    | ct ds' => cases e
end
variable {X : Cx} {R : StI S} {C : CXT} {k n : Nat} {f : Addr} {fd : FuncData} {ps : List Str} {x : Str} {p pos : Pos} {e : Expr} {es : List Expr}
def toD : MO S → Option D
  | .d x => some x
  | .lst xs => some (.list xs)
  | .dic kvs => some (.dict ((.none, .bool true) :: encKs kvs))
  | _ => none
theorem step_gr {G H G' H' : Hp} {P' : Addr → Prop} (s : Step G H (fun _ => False) G' H' P') : Gr G H G' H' := ⟨s.keep, s.sub, fun a o e => s.frame a (fun z => z) o e, fun b hb => (s.new0 b hb).elim .inl fun z => z.elim .inr False.elim⟩
def gCallP (n : Nat) (F : List D → Option (MO S)) (gs : DS S → Option (List D)) : DS S → Option D := fun ds => (gs ds).bind fun as => if as.length = n then (F as).bind toD else none
theorem p_call {F : List D → Option (MO S)} {gs : DS S → Option (List D)} {σ : L2.St} {H : Hp} {Q : VK} (h : tP K (gCallP n F gs) σ H Q) : tCall (spP K R n F) [] E0 (tPA K gs) σ H Q := by
  obtain ⟨G, ds, d, s, w, e, k⟩ := h
  unfold gCallP at e
  cases ea : gs ds with
  | none => rw [ea] at e; cases e
  | some as =>
    rw [ea] at e
    simp only [Option.bind_some] at e
    split at e
    · rename_i hn
      cases ef : F as with
      | none => rw [ef] at e; cases e
      | some m =>
        rw [ef] at e
        refine ⟨G, ds, as, s, w, ea, fun vs G1 H1 g1 d1 => ?_⟩
        show spP K R n F (vs ++ []) H1 Q E0
        rw [List.append_nil]
        refine ⟨by rw [d1.length]; exact hn, G1, as, m, g1.sub, d1, ef, fun v G2 H2 fr s2 o n2 => ?_⟩
        cases m with
        | d x => cases e; exact k v G2 H2 (g1.trans (step_gr s2)) o.1
        | lst xs =>
          cases e
          obtain ⟨q, vs2, rfl, hq, z, dd, fq⟩ := o
          have hG : G2 q = none := n2 q ((fq q).mpr rfl)
          have hH : H1 q = none := (s2.newf q ((fq q).mpr rfl)).elim False.elim fun z => z
          exact k _ (upd G2 q (.lst vs2)) H2 (g1.trans ((step_gr s2).freeze hG hH hq)) (.lst upd_same z (dd.mono fun b u e => by rw [upd_ne (ne_of_none e hG)]; exact e))
        | st s => cases e
        | scr ns => cases e
        | dic kvs =>
          cases e
          obtain ⟨q, vs2, rfl, hq, z, dd, fq⟩ := o
          have hG : G2 q = none := n2 q ((fq q).mpr rfl)
          have hH : H1 q = none := (s2.newf q ((fq q).mpr rfl)).elim False.elim fun z => z
          exact k _ (upd G2 q (.dK vs2)) H2 (g1.trans ((step_gr s2).freeze hG hH hq)) (.dct upd_same z (kvs_den (dd.mono fun b u e => by rw [upd_ne (ne_of_none e hG)]; exact e)))
        | lk kvs => cases e
        | dp x => cases e
        | obj x fs => cases e
    · cases e
theorem ep_call {F : List D → Option (MO S)} {gs : DS S → Option (List D)} (Fn : FnG X.prog X.w X.K X.mg X.base CX0 k f fd ps (spP X.K R n F)) (hr : Room k X.A) (hgd : X.A.guards = some []) (hg : Gl X x) (hm : X.mg x = some (.ref f)) (hk : PySem.W.keepIn X.K (.ref f) = true) (hb : Binds X.K fd ps [])
    (ha : PA X (e :: es) (tPA X.K gs)) (hdb : (x == ("__debug__" : Str)) = false := by decide) (he : starEach (e :: es) X.env = (false, eval e X.env) :: starEach es X.env := by rfl) (hpl : (backTo pos (starEach es X.env)).any (·.1) = false := by rfl) :
    PE X (.Call (.Name x p) (e :: es) [] pos) (tP X.K (gCallP n F gs)) := PE.imp (pe_callG Fn hr hgd hg hm hk hb pass0 ha hdb he hpl) fun _ _ _ h => p_call h
def oCallP (n : Nat) (F : List D → Option (MO S)) (fs : XF S (List D)) : XF S (MO S) := xb fs fun as => xlift (if as.length = n then F as else none)
theorem RS.callee {ds : DS S} {σ : L2.St} {F : Nat → Addr → Prop} {G H G2 H2 : Hp} {fr : Addr → Prop} (r : RS K R ds σ G H F) (s : Step G H (fun _ => False) G2 H2 fr) : RS K R ds σ G2 H2 F ∧ Step G H (fun a => ∃ i, F i a) G2 H2 (fun a => (∃ i, F i a) ∨ fr a) ∧ ∀ a, fr a → ¬ ∃ i, F i a := by
  refine ⟨r.grow (step_gr s), ⟨fun a _ o e => s.frame a (fun z => z) o e, s.keep, s.sub, fun b hb => (s.new0 b hb).elim .inl fun z => z.elim (fun z => .inr (.inl z)) False.elim, fun b hb => hb.elim .inl fun z => .inr ((s.newf b z).elim False.elim fun z => z)⟩, fun a ha ⟨i, hi⟩ => ?_⟩
  exact r.trk i a hi ((s.newf a ha).elim False.elim fun z => z)
theorem o_call {F : List D → Option (MO S)} {fs : XF S (List D)} {σ : L2.St} {H : Hp} {Q : VK} (h : tO K R (oCallP n F fs) σ H Q) : tCall (spP K R n F) [] E0 (tXA K R fs) σ H Q := by
  obtain ⟨G, F0, ds, m, ds', rs, e, k⟩ := h
  obtain ⟨as, ds1, ea, e⟩ := xb_some e
  obtain ⟨eg, e9⟩ := xlift_some e
  subst e9
  by_cases hn : as.length = n
  · rw [if_pos hn] at eg
    refine ⟨G, F0, ds, as, _, rs, ea, fun vs G1 H1 F1 r1 s1 d1 => ?_⟩
    show spP K R n F (vs ++ []) H1 Q E0
    rw [List.append_nil]
    refine ⟨by rw [d1.length]; exact hn, G1, as, m, r1.sub, d1, eg, fun v G2 H2 fr s2 o n2 => ?_⟩
    obtain ⟨r2, s3, ap⟩ := r1.callee s2
    exact k v G2 H2 F1 fr r2 (s1.trans s3) o ap n2
  · rw [if_neg hn] at eg; cases eg
theorem eo_call {F : List D → Option (MO S)} {fs : XF S (List D)} (Fn : FnG X.prog X.w X.K X.mg X.base CX0 k f fd ps (spP X.K R n F)) (hr : Room k X.A) (hgd : X.A.guards = some []) (hg : Gl X x) (hm : X.mg x = some (.ref f)) (hk : PySem.W.keepIn X.K (.ref f) = true) (hb : Binds X.K fd ps [])
    (ha : PA X (e :: es) (tXA X.K R fs)) (hdb : (x == ("__debug__" : Str)) = false := by decide) (he : starEach (e :: es) X.env = (false, eval e X.env) :: starEach es X.env := by rfl) (hpl : (backTo pos (starEach es X.env)).any (·.1) = false := by rfl) :
    PE X (.Call (.Name x p) (e :: es) [] pos) (tO X.K R (oCallP n F fs)) := PE.imp (pe_callG Fn hr hgd hg hm hk hb pass0 ha hdb he hpl) fun _ _ _ h => o_call h
def oCallS (n i : Nat) (F : S → List D → Option (MO S × S)) (fs : XF S (List D)) : XF S (MO S) := fun ds0 => (stAt ds0 i).bind fun _ => xb fs (fun as => fun ds => (stAt ds i).bind fun s => if as.length + 1 = n then (F s as).map fun q => (q.1, ds.set i (some (.st q.2))) else none) ds0
def scrAt (ds : DS S) (i : Nat) : Option (List Int) := match ds[i]? with
  | some (some (.scr ns)) => some ns
  | _ => none
theorem scrAt_some {ds : DS S} {i : Nat} {ns : List Int} (h : scrAt ds i = some ns) : ds[i]? = some (some (.scr ns)) := by
  unfold scrAt at h
  split at h
  · cases h; assumption
  · cases h
def oCallC (n i : Nat) (F : List Int → List D → Option (MO S)) (fs : XF S (List D)) : XF S (MO S) := fun ds0 => (scrAt ds0 i).bind fun ns => xb fs (fun as => fun ds => if as.length + 1 = n then (F ns as).map fun m => (m, ds) else none) ds0
def reprD : List D → Option D
  | [d] => if d.showable = true ∧ d.depth ≤ 64 ∧ d.shown.length ≤ sizeLine ∧ PyData.strOk d.shown = true ∧ noD d = true then some (.str d.shown) else none
  | _ => none
def rRepr (K : PySem.W.Frag) : List V → Hp → VK → Prop := fun xs H Q => ∃ x d, xs = [x] ∧ Dp K H x d ∧ d.canLay0 = true ∧ d.showable = true ∧ d.depth ≤ 64 ∧ d.shown.length ≤ sizeLine ∧ Q (.str d.shown) H
mutual
theorem noDict_lay : ∀ (d : D), d.canLay0 = true → d.hasDict = false
  | .none, _ => rfl
  | .bool _, _ => rfl
  | .int _, _ => rfl
  | .str _, _ => rfl
  | .list xs, h => by unfold PyData.canLay0 at h; unfold PyData.hasDict; exact noDict_layAll xs h
  | .tuple xs, h => by unfold PyData.canLay0 at h; unfold PyData.hasDict; exact noDict_layAll xs h
  | .dict _, h => by unfold PyData.canLay0 at h; cases h
theorem noDict_layAll : ∀ (ds : List D), PyData.canLayAll0 ds = true → PyData.hasDictAll ds = false
  | [], _ => rfl
  | x :: xs, h => by
    unfold PyData.canLayAll0 at h
    obtain ⟨h1, h2⟩ := Bool.and_eq_true_iff.mp h
    unfold PyData.hasDictAll
    rw [noDict_lay x h1, noDict_layAll xs h2]
    rfl
end
theorem call_reprD (hu : X.A.units + 100 < cLine) (hgd : X.A.guards = some []) : CallR X (.builtin "repr") (rRepr X.K) := by
  intro pins s σ H xs us Q I r h
  obtain ⟨x, d, rfl, hd, hl, hs, hz, hsz, q⟩ := h
  obtain ⟨u, rfl, rx⟩ := vals1 r
  obtain ⟨as, rd⟩ := Dp.reads I d x u hd rx
  have fin : ∀ {h' : Heap} {tk : Nat} {t : Tok}, (∀ b o, s.heap.get? b = some o → h'.get? b = some o) → EP X pins σ Q (.str d.shown t) { s with heap := h', toks := tk } := fun k => ⟨.str d.shown, H, I.kept k, ⟨_, rfl⟩, q⟩
  cases rd with
  | none => exact PySem.P.repr_of_none (fin fun _ _ e => e)
  | bool => exact PySem.P.repr_of_bool (fin fun _ _ e => e)
  | int => exact PySem.P.repr_of_int (by simpa [PyData.showable] using hs) (fin fun _ _ e => e)
  | str => exact PySem.P.repr_of_str (fin fun _ _ e => e) hsz
  | list h1 h2 h3 h4 => exact repr_of_reads' (Reads.list h1 h2 h3 h4) hs (PyData.noDict_hsm (noDict_lay _ hl)) hgd (by omega) (fun _ _ e => e) (fun h' u tk k => fin k) hsz
  | tuple h1 h2 h3 h4 => exact repr_of_reads' (Reads.tuple h1 h2 h3 h4) hs (PyData.noDict_hsm (noDict_lay _ hl)) hgd (by omega) (fun _ _ e => e) (fun h' u tk k => fin k) hsz
  | dict h1 h2 h3 h4 h5 => exact absurd hl (by simp [PyData.canLay0])
theorem d_repr : RCD K (rRepr K) reprD := by
  intro vs ds d G H Q s da e k
  match ds, e with
  | [x], e =>
    simp only [reprD] at e
    split at e
    · cases e
      rename_i h
      match vs, da with
      | [v], .cons dv .nil => exact ⟨v, x, rfl, (dv.mono s).dp h.2.2.2.2, dv.lay h.2.2.2.2, h.1, h.2.1, h.2.2.1, k _ G H (.refl s) (.str _ h.2.2.1 h.2.2.2.1)⟩
    · cases e
end
theorem callG {P : Program} {w : World} {K : PySem.W.Frag} {mg mb : Str → Option Value} {k : Nat} {fa a : Addr} {fd : FuncData} {x : Str} {sp : Sp} {s : Shared} {vs : List Value} {ns : List Int}
    (inK : K.In s.heap) (hg1 : s.heap.Ns mainGlobals mg) (hb1 : s.heap.Ns builtinsNs mb) (hb2 : ∀ y : Str, y ≠ "__name__" → mb y = bootBuiltins y) (lim : s.heap.NoLimit) (hgens : s.gens = #[])
    (hlist : s.heap.get? a = some { cls := .type "list", data := .seq vs.toArray }) (hints : IntsAre vs ns) (hsize : ns.length ≤ sizeLine) (room : Room k callerA)
    (F : ∀ base : Heap, K.In base → base.Ns mainGlobals mg → FnG P w K mg base CX0 k fa fd [x] sp) (hbind : ∀ (s : Shared) (u : Value), BindsTo s fd ⟨[u], []⟩ [(x, u)])
    (hsp : ∀ H : Hp, SqL K H a (ns.map V.int) → sp [.ref a] H (fun v _ => v = .bl true) E0) :
    codeAny (model P w) callerA (.call (.ref fa) ⟨[.ref a], []⟩) (fun r s' => r = .ok (.ret (.bool true)) ∧ OldK s.heap s'.heap ∧ s'.os = s.os ∧ AllBare s'.gens) s := by
  have rv := vals_ints hints
  have lv := hints.length
  let sobj : Obj := { cls := .type "list", data := .seq vs.toArray }
  -- the abstract heap tracks the script alone, or nothing (where the script is the module's own)
  have main : ∀ H : Hp, (∀ b, H b = none ∨ (b = a ∧ H b = some (.frz sobj (.lst (ns.map V.int))))) → (H a ≠ none → K.lookup a = none) → SqL K H a (ns.map V.int) → HOk P w H s.heap →
      codeAny (model P w) callerA (.call (.ref fa) ⟨[.ref a], []⟩) (fun r s' => r = .ok (.ret (.bool true)) ∧ OldK s.heap s'.heap ∧ s'.os = s.os ∧ AllBare s'.gens) s := by
    intro H hH hKa hS hok
    have free : ∀ {b : Addr} {o : Obj}, s.heap.get? b = some o → o ≠ sobj → H b = none := fun {b o} q ne => (hH b).elim (fun z => z) fun ⟨z, _⟩ => by
      subst z
      rw [hlist] at q
      exact absurd (Option.some.inj q).symm ne
    have toBase : ∀ {b : Addr} {o : Obj}, s.heap.get? b = some o → H b = none → (hidT s.heap H).get? b = some o := fun q n => hidT_get q n
    have nsBase : ∀ {b : Addr} {m : Str → Option Value}, s.heap.Ns b m → (hidT s.heap H).Ns b m := fun {b m} ⟨o, es, ep, q, d, rest⟩ =>
      ⟨o, es, ep, toBase q (free q fun z => by rw [z] at d; cases d), d, rest⟩
    have inBase : K.In (hidT s.heap H) := fun b o q => toBase (inK b o q) ((hH b).elim (fun z => z) fun ⟨z, e⟩ => by
      subst z
      have := hKa (by rw [e]; simp)
      rw [q] at this
      cases this)
    have env : Env0 P w K mg (hidT s.heap H) callerA [] s H :=
      { frames := rfl
        mod := { kin := inBase, glob := nsBase hg1, blt := ⟨mb, nsBase hb1, hb2⟩, nolimit := by obtain ⟨c, z1, z2⟩ := lim; exact ⟨c, nsBase z1, z2⟩ }
        bs := fun b o q => of_hidT q
        bsz := Nat.le_of_eq (hidT_size _ _)
        funs := trivial
        frf := fun b hb => by cases hb
        hok := hok
        bare := .of_eq hgens }
    refine codeAny_mono ((F _ inBase (nsBase hg1)).run callerA [] s H ⟨[.ref a], []⟩ [.ref a] [.ref a] _ _ room rfl env (hbind s (.ref a)) (.cons rfl .nil) (hsp H hS)) fun r s2 q => ?_
    match r, q with
    | .error e, q => exact q.elim
    | .ok .next, q => exact q.elim
    | .ok .brk, q => exact q.elim
    | .ok .cont, q => exact q.elim
    | .ok (.ret u), ⟨v, H2, os, bare, un, hok2, rel, hv⟩ =>
      subst hv
      cases (show u = Value.bool true from rel)
      refine ⟨rfl, OldK.of_keep fun b o q => ?_, os, bare⟩
      rcases hH b with z | ⟨z, e⟩
      · exact un.keep b o q z (fun y => by cases y) (fun y => by cases y)
      · obtain ⟨y1, _⟩ := hok b _ e
        obtain ⟨y2, _⟩ := hok2 b _ (un.frzs b _ _ e)
        rw [q] at y1
        cases y1
        exact y2
  cases hk : K.lookup a with
  | some o =>
    have q := inK a o hk
    rw [hlist] at q
    cases q
    exact main (fun _ => none) (fun _ => .inl rfl) (fun z => absurd rfl z) (.inr ⟨_, vs.toArray, _, hk, rfl, rfl, rfl, by rw [List.size_toArray, lv]; exact hsize, by simpa using rv⟩) fun b u z => by cases z
  | none =>
    have at0 : (fun b : Addr => if b = a then some (HO.frz sobj (.lst (ns.map V.int))) else none) a = some (.frz sobj (.lst (ns.map V.int))) := if_pos rfl
    refine main (fun b => if b = a then some (.frz sobj (.lst (ns.map V.int))) else none) (fun b => ?_) (fun _ => hk) (.inl (.inr ⟨sobj, at0⟩)) fun b u z => ?_
    · by_cases hb : b = a
      · exact .inr ⟨hb, if_pos hb⟩
      · exact .inl (if_neg hb)
    · by_cases hb : b = a
      · subst hb
        rw [at0] at z
        cases z
        exact ⟨hlist, by rw [List.length_map]; exact hsize, vs, _, rv, hlist⟩
      · dsimp only at z
        rw [if_neg hb] at z
        cases z
theorem walkG {l : PySem.W.OpenLaw} {n k : Nat} {q : Program} {loose : List Str} {XP : (Str → Option Value) → Heap → Prop} {YP : World → Heap → Prop} {d : DefRec} {K : Params → PySem.W.Frag} {sp : PySem.W.Frag → Sp} {x : Str}
    (hn : l.most = some n) (hn2 : n ≤ sizeLine) (hdf : d.params.defaults = []) (room : Room k callerA) (hY : ∀ (w : World) (h : Heap), YP w h → (K w.params).In h)
    (F : ∀ (w : World) (mg : Str → Option Value) (fa : Addr) (h : Heap), (K w.params).In h → h.Ns mainGlobals mg → mg d.name = some (.ref fa) →
      ∃ fd : FuncData, (∀ (s : Shared) (u : Value), BindsTo s fd ⟨[u], []⟩ [(x, u)]) ∧ ∀ base : Heap, (K w.params).In base → base.Ns mainGlobals mg → FnG l.prog w (K w.params) mg base CX0 k fa fd [x] (sp (K w.params)))
    (hsp : ∀ (K : PySem.W.Frag) (H : Hp) (a : Addr) (ns : List Int), ns.length ≤ n → SqL K H a (ns.map V.int) → sp K [.ref a] H (fun v _ => v = .bl true) E0) :
    PySem.W.WalkO q loose XP YP l.row.toRowW d [] (fun f vs => PySem.call f vs) :=
  Att.attach_call hn hdf fun w s₀ s₁ mg mb fa o pm cd doc a vs ns G Y ho hd hcd hmg hobj hints hlen hg => by
    obtain ⟨fd, hb, hF⟩ := F w mg fa _ (hY w _ Y) G.T.g hmg
    exact callG (hY w _ Y) G.T.g G.T.b G.T.builtins G.T.nolimit hg hobj hints (Nat.le_trans hlen hn2) room hF hb fun H hS => hsp (K w.params) H a ns hlen hS
theorem sp_of {S : Type} {K : PySem.W.Frag} {R : StI S} {F : List Int → List D → Option (MO S)} {n : Nat} (h : ∀ ns : List Int, ns.length ≤ n → F ns [] = some (.d (.bool true))) (H : Hp) (a : Addr) (ns : List Int) (hl : ns.length ≤ n) (hS : SqL K H a (ns.map V.int)) :
    spC K R 1 F [.ref a] H (fun v _ => v = .bl true) E0 :=
  ⟨rfl, H, a, [], ns, [], .d (.bool true), rfl, Same.refl _, hS, .nil, h ns hl, fun v G2 H2 fr s o _ => by cases o.1; rfl⟩
theorem meets_enumT (l : Addr) (items : Array Value) :
    Meets (Builtin.«enumerate.__new__» ⟨[.type "enumerate", .ref l], []⟩) (fun _ R s => s.heap.IsTuple l items ∧
      R (.ok (.ret (.ref (s.heap.push { cls := .type "tuple_iterator", data := .fields #[.ref l, .int 0 0] }).objs.size)))
        { s with heap := (s.heap.push { cls := .type "tuple_iterator", data := .fields #[.ref l, .int 0 0] }).push { cls := .type "enumerate", data := .fields #[.none, .bool false, .ref s.heap.objs.size, rawInt 0, .none, .none] } }) :=
  .of_wp fun prog w A R s h => by
    obtain ⟨hp, g, d, tk, os⟩ := s
    obtain ⟨ht, h⟩ := h
    have hsub := sub_enumerate
    wp_walk
    refine wpAny_stack_any fun st => wpAny_pure ?_
    split
    · rename_i c _ _ _ _ _
      cases (c == Value.type "enumerate")
      · wp_walk using (wpAny_pyIter_tuple ht)
        exact ⟨_, rfl, h⟩
      · wp_walk using (wpAny_pyIter_tuple ht)
        exact ⟨_, rfl, h⟩
    · wp_walk using (wpAny_pyIter_tuple ht)
      exact ⟨_, rfl, h⟩
section
variable {prog : Program} {w : World} {A : Around} {E : Value → Shared → Prop} {s : Shared}
theorem call_enumT {l : Addr} {items : Array Value} {Q : Value → Shared → Prop} (hL : s.heap.IsTuple l items)
    (h : ∀ h', IsEnum h' (s.heap.objs.size + 1) s.heap.objs.size 0 .none → h'.IsTupleIter s.heap.objs.size l 0 → h'.objs.size = s.heap.objs.size + 2 → (∀ b o, s.heap.get? b = some o → h'.get? b = some o) → Q (.ref (s.heap.objs.size + 1)) { s with heap := h' }) :
    wpAny (model prog w) A (call (.type "enumerate") [.ref l]) Q E s := by
  refine callType_new F.called_enumerate (by decide) (F.typeCall_enumerate_1 _) (F.newCall_enumerate_1 _) (fun obj => F.args_object_init_2 obj _) F.entry_enumerate_new (meets_enumT l items) ⟨hL, ?_⟩
  have hz : (s.heap.push { cls := .type "tuple_iterator", data := .fields #[.ref l, .int 0 0] }).objs.size = s.heap.objs.size + 1 := Heap.size_push ..
  show _ ∧ _
  rw [hz]
  have he : IsEnum ((s.heap.push { cls := .type "tuple_iterator", data := .fields #[.ref l, .int 0 0] }).push
      { cls := .type "enumerate", data := .fields #[.none, .bool false, .ref s.heap.objs.size, rawInt 0, .none, .none] }) (s.heap.objs.size + 1) s.heap.objs.size 0 .none := by
    have q := Heap.get?_push_size (s.heap.push { cls := .type "tuple_iterator", data := .fields #[.ref l, .int 0 0] }) (o := { cls := .type "enumerate", data := .fields #[.none, .bool false, .ref s.heap.objs.size, rawInt 0, .none, .none] }) rfl
    rw [hz] at q
    exact q
  exact ⟨⟨_, he, rfl⟩, h _ he ⟨_, Heap.get?_push_of_some _ (Heap.get?_push_size _ rfl), rfl, rfl⟩ (by rw [Heap.size_push, hz]) fun b o x => Heap.get?_push_of_some _ (Heap.get?_push_of_some _ x)⟩
end
def IteT (K : PySem.W.Frag) (a : Addr) : It :=
  ⟨fun i H => ∃ (xs : List V) (x : V), SqT K H a xs ∧ xs[i]? = some x, fun i H v H' => ∃ T x, v = .ref T ∧ H T = none ∧ H' = upd H T (.tup [.int (i : Nat), x]) ∧ ∀ xs, SqT K H a xs → xs[i]? = some x, fun i H => ∃ xs : List V, SqT K H a xs ∧ xs.length = i⟩
theorem turn_enumT {P : Program} {w : World} {K : PySem.W.Frag} {elts : List Expr} {kk : Nat} {tpos : Pos} (a e it : Addr) :
    Turn P w K (.Tuple elts kk tpos) (IteT K a) [e, it] e (fun i h => (∃ old, IsEnum h e it ((i : Nat) : Int) old) ∧ h.IsTupleIter it a i ∧ e ≠ it) where
  mem := by simp
  obj := fun i h st b hb => by
    obtain ⟨⟨old, he⟩, ⟨o, ho, hc, hd⟩, _⟩ := st
    rcases (show b = e ∨ b = it by simpa using hb) with z | z
    · rw [z]; exact ⟨_, he, fun v q => nomatch q⟩
    · rw [z]; exact ⟨o, ho, fun v q => by rw [hd] at q; cases q⟩
  keep := fun i h h' ⟨⟨old, he⟩, ⟨o, ho, hr⟩, ne⟩ k => ⟨⟨old, k e (by simp) _ he⟩, ⟨o, k it (by simp) o ho, hr⟩, ne⟩
  item := by
    intro X eP eW eK calm i pins s σ H E I hf st go
    subst eP eW eK
    obtain ⟨⟨old, he⟩, hit, ne⟩ := st
    obtain ⟨xs, x, hq, hx⟩ := go
    obtain ⟨its, rv, tp, _⟩ := I.tuple hq
    obtain ⟨u, hu, ru⟩ := rv.get hx
    have le : e < s.heap.objs.size := Heap.lt_size he
    have li : it < s.heap.objs.size := by obtain ⟨_, q, _⟩ := hit; exact Heap.lt_size q
    have nit : a ≠ it := fun z => by
      obtain ⟨o1, q1, c1, _⟩ := hit
      obtain ⟨o2, q2, c2, _⟩ := id tp
      rw [z, q1] at q2
      cases q2
      rw [c1] at c2
      exact absurd c2 (by decide)
    have nae : e ≠ a := fun z => by
      obtain ⟨o2, q2, c2, _⟩ := id tp
      rw [← z] at q2
      have q3 := Option.some.inj (he.symm.trans q2)
      rw [← q3] at c2
      exact absurd (show ("enumerate" : String) = "tuple" by injection c2) (by decide)
    have hlt : i < its.toArray.size := by
      have := (List.getElem?_eq_some_iff.mp hu).1
      simpa using this
    refine wpAny_pyNext_enum_itemD (Draws.tuple (A := X.A.in1) (show X.A.in1.handled = none from I.ok.hd calm) it a nit its.toArray) he ⟨hit, tp⟩ hlt ne (by simp [ne, nae]) fun v h1 tk hv hout st1 hnew hsz hk => ?_
    have hv2 : v = u := by
      have q : its.toArray[i]? = some v := hv
      rw [List.getElem?_toArray, hu] at q
      exact (Option.some.inj q).symm
    subst hv2
    refine ⟨_, rfl, wpAny_letOwnedTupleGo_enum (s := { s with heap := h1, toks := tk + 1 }) hout fun h2 he2 sb => ?_⟩
    have hT2 : h2.get? s.heap.objs.size = some { cls := .type "tuple", data := .seq #[.int i tk, v] } := (sb.2 _ (Nat.ne_of_gt le)).trans hnew
    have ok : ObjOk X.prog X.w (upd H s.heap.objs.size (.tup [.int (i : Nat), x])) h2 s.heap.objs.size (.tup [.int (i : Nat), x]) :=
      ⟨(by show 2 ≤ sizeLine; decide), [.int i tk, v], .cons ⟨_, rfl⟩ (.cons ru .nil), ⟨_, hT2, rfl, _, rfl⟩⟩
    have I1 : Inv X pins σ (upd H s.heap.objs.size (.tup [.int (i : Nat), x])) { s with heap := h2, toks := tk + 1 } :=
      I.turnedNew (ch := [e, it]) (fun b ob hb q => (sb.2 b fun z => hb (by simp [z])).trans (hk b ob (fun z => hb (by simp [z])) (fun z => hb (by simp [z])) q)) hf (Nat.le_refl _) ok
    refine ⟨.ref s.heap.objs.size, _, I1, rfl, ⟨_, x, rfl, I.hok.fresh (Nat.le_refl _), rfl, fun ys hy => by rw [I.tuple_inj hy hq]; exact hx⟩, ⟨⟨v, ?_⟩, ?_, ne⟩, fun b hb => ?_⟩
    · have e1 : ((i + 1 : Nat) : Int) = (i : Int) + 1 := by omega
      rw [e1]; exact he2
    · obtain ⟨o, ho, hr⟩ := st1.1
      exact ⟨o, (sb.2 it (Ne.symm ne)).trans ho, hr⟩
    · have lb : b < s.heap.objs.size := by
        rcases (show b = e ∨ b = it by simpa using hb) with z | z
        · rw [z]; exact le
        · rw [z]; exact li
      rw [upd_ne (Nat.ne_of_lt lb)]
      exact (hf b hb).1
  done := by
    intro X eP eW eK calm i pins s σ H E I hf st stop
    subst eP eW eK
    obtain ⟨⟨old, he⟩, hit, ne⟩ := st
    obtain ⟨xs, hq, hx⟩ := stop
    obtain ⟨its, rv, tp, _⟩ := I.tuple hq
    have nit : a ≠ it := fun z => by
      obtain ⟨o1, q1, c1, _⟩ := hit
      obtain ⟨o2, q2, c2, _⟩ := id tp
      rw [z, q1] at q2
      cases q2
      rw [c1] at c2
      exact absurd c2 (by decide)
    have hn : i = its.toArray.size := by
      have := rv.length
      simp only [List.size_toArray]
      omega
    rw [hn] at hit he
    have f1 := hf it (by simp)
    obtain ⟨f0, f1, f2, f3, f4, f5⟩ := f1
    exact wpAny_pyNext_enum_endD (Draws.tuple (A := X.A.in1) (show X.A.in1.handled = none from I.ok.hd calm) it a nit its.toArray) he ⟨hit, tp⟩ fun h' eb => ⟨rfl, I.turned (t' := s.toks) (fun b o hb q => eb b o hb q) f0 f1 f3 f4 f5⟩
  self := fun A i s Q E st h => by
    obtain ⟨⟨old, he⟩, _⟩ := st
    exact wpAny_pyIter_enum he h
def iEnumT (K : PySem.W.Frag) (ta : TA) : TI := fun σ H R => ta σ H fun vs H1 => ∃ a xs, vs = [.ref a] ∧ SqT K H1 a xs ∧ R (IteT K a) H1
theorem pi_enumT {X : Cx} {e : Expr} {ta : TA} {p pos tpos : Pos} {elts : List Expr} {kk : Nat} (hg : Gl X "enumerate") (hm : X.mg "enumerate" = none) (ha : PA X [e] ta) (hs : starEach [e] X.env = [(false, eval e X.env)] := by rfl) :
    PI X (.Tuple elts kk tpos) (.Call (.Name "enumerate" p) [e] [] pos) (iEnumT X.K ta) := by
  refine ⟨fun pins s σ H R I h => Call_ (ld_blt I hg hm boot_enumerate (PyProof.Rows.callWith_type1 (thn (ha.run pos pins s σ H _ I h) fun us s1 ⟨vs, H1, I1, r1, q1⟩ => ?_) hs rfl))⟩
  obtain ⟨a, xs, rfl, hq, q⟩ := q1
  match us, r1 with
  | _, .cons (rfl : _ = Value.ref a) .nil =>
    obtain ⟨its, rv, tp, _⟩ := I1.tuple hq
    refine call_enumT tp fun h' he hit hsz hk => wpAny_pyIter_enum he ?_
    refine ⟨s1.heap.objs.size + 1, [s1.heap.objs.size + 1, s1.heap.objs.size], _, _, H1, rfl, I1.kept (t' := s1.toks) hk, turn_enumT a (s1.heap.objs.size + 1) s1.heap.objs.size, ⟨⟨.none, he⟩, hit, Nat.succ_ne_self _⟩, fun b hb => ?_, q⟩
    have hle : s1.heap.objs.size ≤ b := by
      rcases (show b = s1.heap.objs.size + 1 ∨ b = s1.heap.objs.size by simpa using hb) with z | z
      · rw [z]; exact Nat.le_succ _
      · rw [z]; exact Nat.le_refl _
    exact I1.fpOk hle (I1.hok.fresh hle)
section
variable {S : Type} {X : Cx} {K : PySem.W.Frag} {tg e : Expr} {G : Hp} {g1 : DS S → Option (List D)} {p pos tpos : Pos} {elts : List Expr} {kk : Nat}
theorem itd_enumT {a : Addr} {vs : List V} {xs : List D} (q : SqT K G a vs) (z : vs.length ≤ sizeLine) (r : DenAll K G vs xs) : ItD true K (IteT K a) (enumD 0 xs) G where
  len := by rw [enumD_len, ← r.length]; exact z
  go := fun i H s hi => by
    have hi' : i < vs.length := by rw [r.length]; rw [enumD_len] at hi; exact hi
    exact ⟨vs, vs[i], sqt_mono s q, List.getElem?_eq_getElem hi'⟩
  stop := fun i H s hi hj => ⟨vs, sqt_mono s q, by rw [r.length]; rw [enumD_len] at hi hj; omega⟩
  yld := fun i H x H' s hi ⟨T, y, ev, hT, eh, hy⟩ => by
    subst ev eh
    obtain ⟨d, h1, h2⟩ := r.getV (hy vs (sqt_mono s q))
    refine ⟨.tuple [.int (i : Int), d], by rw [enumD_get, h1]; simp, fun G0 s0 s1 => ⟨upd G0 T (.tup [.int (i : Int), y]), .upd s1 hT, ?_⟩⟩
    exact .inr ⟨rfl, _, _, _, rfl, rfl, .inl (.inl upd_same), (by show 2 ≤ sizeLine; decide), .cons (.int _) (.cons ((h2.mono s0).at_new (s1.free hT)) .nil)⟩
def enum2 : List D → Option (List D)
  | [.list xs] => some (enumD 0 xs)
  | [.tuple xs] => some (enumD 0 xs)
  | _ => none
theorem pi_en2 (hg : Gl X "enumerate") (hm : X.mg "enumerate" = none) (ha : PA X [e] (tPA X.K g1)) (hs : starEach [e] X.env = [(false, eval e X.env)] := by rfl) :
    PI X (.Tuple elts kk tpos) (.Call (.Name "enumerate" p) [e] [] pos) (tI true X.K (gArgs g1 enum2)) :=
  PI.imp (PI.or (pi_enum hg hm ha hs) (pi_enumT hg hm ha hs)) fun σ H R ⟨G, ds, xs, s, w, e, k⟩ => by
    unfold gArgs at e
    cases ea : g1 ds with
    | none => rw [ea] at e; cases e
    | some as =>
      rw [ea] at e
      match as, e with
      | [.list ys], e =>
        cases e
        refine .inl ⟨G, ds, _, s, w, ea, fun vs G1 H1 g1 d1 => ?_⟩
        match vs, d1 with
        | _, .cons (.lst q z r) .nil => exact ⟨_, _, rfl, SqL.of (g1.sub _ _ q), k _ G1 H1 g1 (itd_enum q z r)⟩
      | [.tuple ys], e =>
        cases e
        refine .inr ⟨G, ds, _, s, w, ea, fun vs G1 H1 g1 d1 => ?_⟩
        match vs, d1 with
        | _, .cons (.tup q z r) .nil => exact ⟨_, _, rfl, sqt_mono g1.sub q.sq, k _ G1 H1 g1 (itd_enumT q.sq z r)⟩
end
theorem psi {X : Cx} {st : Stmt} {t t' : TS} (h : PS X st t) (i : ∀ D σ H, t' D σ H → t D σ H) : PS X st t' := ⟨fun pins s σ H D I q => h.run pins s σ H D I (i D σ H q)⟩
theorem pssi {X : Cx} {st : List Stmt} {t t' : TS} (h : PSs X st t) (i : ∀ D σ H, t' D σ H → t D σ H) : PSs X st t' := ⟨fun pins s σ H D I q => h.run pins s σ H D I (i D σ H q)⟩
section
variable {S : Type} {X : Cx} {R : StI S} {pn : List Nat} {st : Stmt} {rest a b : List Stmt} {g h : SF S} {e c tg iter : Expr} {pos : Pos}
theorem ss_seq (h1 : PS X st (tS X.K R pn g)) (h2 : PSs X rest (tS X.K R pn h)) : PSs X (st :: rest) (tS X.K R pn (gSeq g h)) := pssi (pss_cons h1 h2) fun _ _ _ => s_seq
theorem ss_one (h1 : PS X st (tS X.K R pn g)) : PSs X [st] (tS X.K R pn g) := pss_one h1
theorem ss_nil : PSs X [] (tS X.K R pn (gNext (S := S))) := pssi pss_nil fun _ _ _ => s_next
theorem ss_ret {f : XF S (MO S)} (he : PE X e (tO X.K R f)) : PS X (.Return (some e) pos) (tS X.K R pn (gRet f)) := psi (ps_ret he) fun _ _ _ => s_ret
theorem ss_set {i : Nat} {x : Str} {f : XF S (MO S)} {pos' : Pos} (hp : i ∉ pn) (hN : X.N.Nodup) (hi : X.N[i]? = some x) (hx : Loc X.env.scope x) (he : PE X e (tO X.K R f)) (hs : swapsWith e (some (.Name x pos')) pos.line X.env = pure false := by rfl) (hf : X.fn x = true ∨ X.env.scope.names.lookup x = some .local := by first | exact .inl rfl | exact .inr rfl | assumption) :
    PS X (.Assign [.Name x pos'] e pos) (tS X.K R pn (gAsg i f)) := psi (ps_set hN hi hx he hs hf) fun _ _ _ => s_asg hp
theorem ss_drop {f : XF S D} (he : PE X e (tX X.K R f)) (hs : swapsWith e none pos.line X.env = pure false := by rfl) : PS X (.Expr e pos) (tS X.K R pn (gDrop f)) := psi (ps_expr he hs) fun _ _ _ => s_drop
theorem ss_if {f : XF S Bool} (hc : PT X c (tXT X.K R f)) (ha : PSs X a (tS X.K R pn g)) (hb : PSs X b (tS X.K R pn h)) : PS X (.If c a b pos) (tS X.K R pn (gIfS f g h)) := psi (ps_if hc ha hb) fun _ _ _ => s_if
theorem ss_asgT {t : D → Option (List (Nat × D))} {gt : TG} {f : XF S D} (ht : TGD false X.K gt t) (hp : ∀ d as, t d = some as → ∀ p ∈ as, p.1 ∉ pn) (he : PE X e (tX X.K R f)) (hg : PG X tg gt) (hs : swapsWithSole [tg] e pos.line X.env = pure false := by rfl) (hw : swappedStores [tg] e X.env = pure none := by rfl)
    (h1 : (assignEach [tg] X.env).map (·.2) = [assign tg X.env] := by rfl) : PS X (.Assign [tg] e pos) (tS X.K R pn (gAsgT t f)) := psi (ps_asg he hg hs hw h1) fun _ _ _ => s_asgT ht hp
theorem ss_for {W : Bool} {src : XF S (List D)} {t : D → Option (List (Nat × D))} {gt : TG} (ht : TGD W X.K gt t) (hp : ∀ d as, t d = some as → ∀ p ∈ as, p.1 ∉ pn) (hc : X.nox.calm = true) (hi : PI X.nox tg iter (tXI W X.K R src)) (hg : PG X.nox tg gt) (hb : PSs X.nox rest (tS X.K R pn g))
    (hs : ∀ x, foldedSetIterable iter X.nox.env x = pure x := by intro _; rfl) : PS X.nox (.For tg iter rest [] pos) (tS X.K R pn (gFor src t g)) := psi (ps_for PassesOwn.never hc hi hg hb hs) fun _ _ _ => s_for ht hp
theorem ss_while {n : Nat} {f : XF S Bool} (hc : PT X.nox c (tXT X.K R f)) (hb : PSs X.nox rest (tS X.K R pn g)) : PS X.nox (.While c rest [] pos) (tS X.K R pn (gWhile n f g)) := psi (ps_while PassesOwn.never hc hb) fun _ _ _ => s_while
end
section
variable {S : Type} {K : PySem.W.Frag} {R : StI S} {pn : List Nat} {Dn : Ends} {σ : L2.St} {H : Hp}
def setM (ds : DS S) : List Nat → List (MO S) → DS S
  | i :: is, m :: ms => setM (ds.set i (some m)) is ms
  | _, _ => ds
def gParN (is : List Nat) (f : XF S (List (MO S))) : SF S := fun ds => (f ds).bind fun p => if p.1.length = is.length ∧ p.1.length ≤ sizeLine then some (.nx (setM p.2 is p.1)) else none
theorem parN_go {G H : Hp} {Q : L2.St → Hp → Prop} {pn : List Nat} {σ0 : L2.St} : ∀ {is : List Nat} {vs : List V} {ms : List (MO S)} {fr : Addr → Prop} {ds : DS S} {σ : L2.St} {F : Nat → Addr → Prop}, RS K R ds σ G H F → OwnAll K R G H vs ms fr → (∀ a, fr a → ¬ ∃ i, F i a) → (∀ a, fr a → G a = none) → ms.length = is.length → (∀ i ∈ is, i ∉ pn) → (∀ i ∈ pn, σ[i]? = σ0[i]?) →
    (∀ σ' F', RS K R (setM ds is ms) σ' G H F' → (∀ a, (∃ i, F' i a) → (∃ i, F i a) ∨ fr a) → (∀ i ∈ pn, σ'[i]? = σ0[i]?) → Q σ' H) → gNames is vs σ H Q
  | [], _, _, _, ds, σ, F, r, .nil, _, _, _, _, hp, k => ⟨rfl, k σ F r (fun _ z => .inl z) hp⟩
  | i :: is, _, _, _, ds, σ, F, r, .cons (v := v) (m := m) (vs := vs) (ms := ms) (f1 := f1) (f2 := f2) o1 o2 d1, h1, h2, hl, hn, hp, k => by
    obtain ⟨F2, r2, u2⟩ := r.seto i o1 (fun a ha => h1 a (.inl ha)) fun a ha => h2 a (.inl ha)
    refine ⟨v, vs, rfl, ?_⟩
    show gNames is vs (σ.set i (some v)) H Q
    refine parN_go r2 o2 (fun a ha z => (u2 a z).elim (h1 a (.inr ha)) fun q => d1 a q ha) (fun a ha => h2 a (.inr ha)) (by simpa using hl) (fun j hj => hn j (List.mem_cons_of_mem _ hj)) (fun j hj => ?_) fun σ' F' r' u' hp' => k σ' F' r' (fun a z => ?_) hp'
    · rw [List.getElem?_set_ne fun z => hn i (List.mem_cons_self ..) (by rw [z]; exact hj)]
      exact hp j hj
    · rcases u' a z with z | z
      · rcases u2 a z with z | z
        · exact .inl z
        · exact .inr (.inl z)
      · exact .inr (.inr z)
  | [], _, _, _, _, _, _, _, .cons _ _ _, _, _, hl, _, _, _ => by simp at hl
  | _ :: _, _, _, _, _, _, _, _, .nil, _, _, hl, _, _, _ => by simp at hl
theorem OwnAll.length {G H : Hp} : ∀ {vs : List V} {ms : List (MO S)} {fr : Addr → Prop}, OwnAll K R G H vs ms fr → vs.length = ms.length
  | _, _, _, .nil => rfl
  | _, _, _, .cons _ o _ => by rw [List.length_cons, List.length_cons, OwnAll.length o]
theorem OwnAll.mono {G H H' : Hp} : ∀ {vs : List V} {ms : List (MO S)} {fr : Addr → Prop}, OwnAll K R G H vs ms fr → (∀ a, fr a → H' a = H a) → OwnAll K R G H' vs ms fr
  | _, _, _, .nil, _ => .nil
  | _, _, _, .cons o1 o2 d, h => .cons (o1.mono (Same.refl _) fun a ha => h a (.inl ha)) (OwnAll.mono o2 fun a ha => h a (.inr ha)) d
theorem OwnAll.trk {G H : Hp} : ∀ {vs : List V} {ms : List (MO S)} {fr : Addr → Prop}, OwnAll K R G H vs ms fr → ∀ a, fr a → H a ≠ none
  | _, _, _, .nil, _, h => h.elim
  | _, _, _, .cons o1 o2 _, a, h => h.elim (o1.trk a) (OwnAll.trk o2 a)
theorem s_parN {is : List Nat} {f : XF S (List (MO S))} (hn : ∀ i ∈ is, i ∉ pn) (w : tS K R pn (gParN is f) Dn σ H) : tAsg (tTup (tOA K R f)) (L2.gTup K is.length (gNames is)) Dn σ H := by
  obtain ⟨G, F, ds, o, r, e, k⟩ := w
  unfold gParN at e
  cases ef : f ds with
  | none => rw [ef] at e; cases e
  | some p =>
    rw [ef] at e
    simp only [Option.bind_some] at e
    split at e
    · rename_i hz
      cases e
      refine ⟨G, F, ds, p.1, p.2, r, ef, fun vs G' H' F' fr r' s o h1 h2 => ⟨by rw [o.length]; exact hz.2, fun q hq => ?_⟩⟩
      have gr : Gr G' H' G' (upd H' q (.tup vs)) := Gr.own r'.sub hq
      have r2 := r'.grow gr
      have o2 : OwnAll K R G' (upd H' q (.tup vs)) vs p.1 fr := o.mono fun a ha => upd_ne fun z => o.trk a ha (by rw [z]; exact hq)
      refine ⟨q, vs, rfl, .inl (.inl upd_same), by rw [o.length]; exact hz.1, ?_⟩
      refine parN_go (pn := pn) (σ0 := σ) r2 o2 h1 h2 hz.1 hn (fun _ _ => rfl) fun σ' F2 r3 u3 hp => ?_
      refine k σ' G' _ F2 r3 ((s.trans (gr.step (P := fun a => (∃ i, F' i a) ∨ fr a))).weaken u3) hp
    · cases e
variable {X : Cx} {es ts : List Expr} {pos tpos : Pos} {k1 k2 : Nat} {pt2 : Pos}
theorem ss_parN {is : List Nat} {f : XF S (List (MO S))} (hn : ∀ i ∈ is, i ∉ pn) (ha : PA X es (tOA X.K R f)) (hg : PG X (.Tuple ts k1 tpos) (L2.gTup X.K is.length (gNames is))) (hs : swapsWithSole [.Tuple ts k1 tpos] (.Tuple es k2 pt2) pos.line X.env = pure false := by rfl) (hw : swappedStores [.Tuple ts k1 tpos] (.Tuple es k2 pt2) X.env = pure none := by rfl)
    (h1 : (assignEach [.Tuple ts k1 tpos] X.env).map (·.2) = [assign (.Tuple ts k1 tpos) X.env] := by rfl) : PS X (.Assign [.Tuple ts k1 tpos] (.Tuple es k2 pt2) pos) (tS X.K R pn (gParN is f)) := psi (ps_asg (pe_tup ha) hg hs hw h1) fun _ _ _ => s_parN hn
end
section
variable {S : Type} {X : Cx} {R : StI S} {K : PySem.W.Frag} {e : Expr}
def oMove (i : Nat) : XF S (MO S) := fun ds => match ds[i]? with
  | some (some (.lst xs)) => some (.lst xs, ds.set i none)
  | some (some (.st s)) => some (.st s, ds.set i none)
  | some (some (.dic kvs)) => some (.dic kvs, ds.set i none)
  | _ => none
theorem RS.moved {ds : DS S} {σ : L2.St} {G H : Hp} {F : Nat → Addr → Prop} {i : Nat} {m : MO S} (r : RS K R ds σ G H F) (e : ds[i]? = some (some m)) : RS K R (ds.set i none) σ G H (setF F i fun _ => False) := by
  have hi : i < ds.length := (List.getElem?_eq_some_iff.mp e).1
  refine ⟨r.sub, by rw [List.length_set]; exact r.len, fun j m' q => ?_, fun j q a ha => ?_, fun j l a ha hb => ?_, fun j a ha => ?_⟩
  · by_cases hj : i = j
    · subst hj
      rw [List.getElem?_set_self hi] at q
      cases q
    · rw [List.getElem?_set_ne hj] at q
      obtain ⟨v, h1, h2⟩ := r.own j m' q
      exact ⟨v, h1, h2.iff fun a => by unfold setF; rw [if_neg (Ne.symm hj)]⟩
  · unfold setF at ha
    by_cases hj : j = i
    · rw [if_pos hj] at ha; exact ha
    · rw [if_neg hj] at ha
      refine r.emp j (fun m' z => q m' ?_) a ha
      rw [List.getElem?_set_ne (Ne.symm hj)]
      exact z
  · unfold setF at ha hb
    by_cases hj : j = i
    · rw [if_pos hj] at ha; exact ha.elim
    · by_cases hl : l = i
      · rw [if_pos hl] at hb; exact hb.elim
      · rw [if_neg hj] at ha
        rw [if_neg hl] at hb
        exact r.dj j l a ha hb
  · unfold setF at ha
    by_cases hj : j = i
    · rw [if_pos hj] at ha; exact ha.elim
    · rw [if_neg hj] at ha; exact r.dis j a ha
theorem o_move {i : Nat} {σ : L2.St} {H : Hp} {Q : VK} (h : tO K R (oMove i) σ H Q) : tVar i σ H Q := by
  obtain ⟨G, F, ds, m, ds', r, e, k⟩ := h
  have key : ∃ m', ds[i]? = some (some m') ∧ m = m' ∧ ds' = ds.set i none := by
    unfold oMove at e
    split at e
    · cases e; exact ⟨_, by assumption, rfl, rfl⟩
    · cases e; exact ⟨_, by assumption, rfl, rfl⟩
    · cases e; exact ⟨_, by assumption, rfl, rfl⟩
    · cases e
  obtain ⟨m', e1, rfl, rfl⟩ := key
  obtain ⟨v, hv, o⟩ := r.own i m e1
  refine ⟨v, hv, k v G H _ (F i) (r.moved e1) ⟨fun _ _ _ z => z, Same.refl _, r.sub, fun _ z => .inl z, fun b hb => ?_⟩ o (fun a ha ⟨j, z⟩ => ?_) (r.dis i)⟩
  · rcases hb with ⟨j, z⟩ | z
    · unfold setF at z
      by_cases hj : j = i
      · rw [if_pos hj] at z; exact z.elim
      · rw [if_neg hj] at z; exact .inl ⟨j, z⟩
    · exact .inl ⟨i, z⟩
  · unfold setF at z
    by_cases hj : j = i
    · rw [if_pos hj] at z; exact z
    · rw [if_neg hj] at z; exact hj (r.dj j i a z ha)
theorem eo_move {i : Nat} (h : PE X e (tVar i)) : PE X e (tO X.K R (oMove (S := S) i)) := PE.imp h fun _ _ _ => o_move
end
section
variable {S : Type} {X : Cx} {R : StI S} {pn : List Nat} {elt tg iter : Expr} {ifs : List Expr} {scope : Scope} {own : List (Str × Nat)} {pos spos py : Pos} {t : D → Option (List (Nat × D))} {gt : TG} {y : Str} {i : Nat}
theorem ef_lc {W : Bool} {src : DS S → Option (List D)} {h : DS S → Option Bool} {g : DS S → Option D} (ht : TGD W X.K gt t) (ho : ∀ d as, t d = some as → ∀ p ∈ as, p.1 ∈ own.map (·.2)) (hc : X.calm = true) (hN : X.N.Nodup) (hi : PI X tg iter (tI W X.K src)) (ok : BlkOk X.N X.env.scope scope own)
    (hg : ∀ (s : Shared) (H : Hp) (C : Addr) (cl : List (Str × Addr)) (fp : List Addr), PG (X.blk s H scope (compEnvC scope cl C X.env) fp) tg gt) (hh : ∀ (s : Shared) (H : Hp) (C : Addr) (cl : List (Str × Addr)) (fp : List Addr), PTs (X.blk s H scope (compEnvC scope cl C X.env) fp) ifs (tPT X.K h))
    (he : ∀ (s : Shared) (H : Hp) (C : Addr) (cl : List (Str × Addr)) (fp : List Addr), PE (X.blk s H scope (compEnvC scope cl C X.env) fp) elt (tP X.K g)) (hs : ∀ x, foldedSetIterable iter X.env x = pure x := by intro _; rfl) :
    PE X (.ListComp elt [⟨tg, iter, ifs, 0⟩] scope pos) (tF X.K (gLc src (own.map (·.2)) t h g)) := PE.imp (pe_lc hc hN hi ok hg hh he hs) fun _ _ _ => p_lc ht ho
theorem eo_lc {W : Bool} {src : XF S (List D)} {h : XF S Bool} {g : XF S D} (ht : TGD W X.K gt t) (ho : ∀ d as, t d = some as → ∀ p ∈ as, p.1 ∈ own.map (·.2)) (hc : X.calm = true) (hN : X.N.Nodup) (hi : PI X tg iter (tXI W X.K R src)) (ok : BlkOk X.N X.env.scope scope own)
    (hg : ∀ (s : Shared) (H : Hp) (C : Addr) (cl : List (Str × Addr)) (fp : List Addr), PG (X.blk s H scope (compEnvC scope cl C X.env) fp) tg gt) (hh : ∀ (s : Shared) (H : Hp) (C : Addr) (cl : List (Str × Addr)) (fp : List Addr), PTs (X.blk s H scope (compEnvC scope cl C X.env) fp) ifs (tXT X.K R h))
    (he : ∀ (s : Shared) (H : Hp) (C : Addr) (cl : List (Str × Addr)) (fp : List Addr), PE (X.blk s H scope (compEnvC scope cl C X.env) fp) elt (tX X.K R g)) (hs : ∀ x, foldedSetIterable iter X.env x = pure x := by intro _; rfl) :
    PE X (.ListComp elt [⟨tg, iter, ifs, 0⟩] scope pos) (tO X.K R (xLc src (own.map (·.2)) t h g)) := PE.imp (pe_lc hc hN hi ok hg hh he hs) fun _ _ _ => x_lc ht ho
theorem ss_lcP {W : Bool} {src : DS S → Option (List D)} {h : DS S → Option Bool} {g : DS S → Option D} {f : XF S (MO S)} (conv : ∀ σ H (Q : VK), tO X.K R f σ H Q → tF X.K (gLc src (own.map (·.2)) t h g) σ H Q) (hp : i ∉ pn) (ht : TGD W X.K gt t) (ho : ∀ d as, t d = some as → ∀ p ∈ as, p.1 ∈ own.map (·.2)) (hc : X.calm = true) (hN : X.N.Nodup) (hy : X.N[i]? = some y) (hyl : X.env.scope.names.lookup y = some .local)
    (hsw : swapsWith (.ListComp elt [⟨tg, iter, ifs, 0⟩] scope pos) (some (.Name y py)) spos.line X.env = pure true) (hi : PI X tg iter (tI W X.K src)) (ok : BlkOk X.N X.env.scope scope own)
    (hg : ∀ (s : Shared) (H : Hp) (C : Addr) (cl : List (Str × Addr)) (fp : List Addr), PG (X.blk s H scope (compEnvC scope cl C X.env) fp) tg gt) (hh : ∀ (s : Shared) (H : Hp) (C : Addr) (cl : List (Str × Addr)) (fp : List Addr), PTs (X.blk s H scope (compEnvC scope cl C X.env) fp) ifs (tPT X.K h))
    (he : ∀ (s : Shared) (H : Hp) (C : Addr) (cl : List (Str × Addr)) (fp : List Addr), PE (X.blk s H scope (compEnvC scope cl C X.env) fp) elt (tP X.K g)) (hs : ∀ x, foldedSetIterable iter X.env x = pure x := by intro _; rfl) :
    PS X (.Assign [.Name y py] (.ListComp elt [⟨tg, iter, ifs, 0⟩] scope pos) spos) (tS X.K R pn (gAsg i f)) := psi (ps_setLc hc hN hy hyl hsw hi ok hg hh he hs) fun D σ H w => p_lc ht ho (conv _ _ _ (s_asg hp w))
end
section
variable {S : Type} {X : Cx} {R : StI S} {tg e a b : Expr} {p pos : Pos}
def xiP (src : DS S → Option (List D)) : XF S (List D) := fun ds => (src (hideDS ds)).map fun xs => (xs, ds)
theorem xi_P {W : Bool} {src : DS S → Option (List D)} (h : PI X tg e (tI W X.K src)) : PI X tg e (tXI W X.K R (xiP src)) := PI.imp h fun σ H J ⟨G, F, ds, xs, ds', r, e, k⟩ => by
  unfold xiP at e
  cases eg : src (hideDS ds) with
  | none => rw [eg] at e; cases e
  | some ys =>
    rw [eg] at e
    cases e
    exact ⟨G, hideDS ds, _, r.sub, r.view, eg, fun I G' H' gr it => k I G' H' F (r.grow gr) gr.step it⟩
def xSrc (f : XF S D) : XF S (List D) := xb f fun x => xlift (srcD x)
theorem xi_any {f : XF S D} (h : PE X e (tX X.K R f)) : PI X tg e (tXI false X.K R (xSrc f)) := PI.imp (PI.or (pi_list h) (PI.or (pi_tup h) (pi_str h))) fun σ H J ⟨G, F, ds, xs, ds', r, e, k⟩ => by
  obtain ⟨d, ds1, ea, e⟩ := xb_some e
  obtain ⟨eg, e9⟩ := xlift_some e
  subst e9
  cases d with
  | list ys =>
    cases eg
    refine .inl ⟨G, F, ds, _, _, r, ea, fun v G1 H1 F1 r1 s1 d1 => ?_⟩
    cases d1 with
    | lst q z rr => exact ⟨_, rfl, ⟨_, SqL.of (r1.sub _ _ q)⟩, k _ G1 H1 F1 r1 s1 (itd_list q z rr)⟩
  | tuple ys =>
    cases eg
    refine .inr (.inl ⟨G, F, ds, _, _, r, ea, fun v G1 H1 F1 r1 s1 d1 => ?_⟩)
    cases d1 with
    | tup q z rr => exact ⟨_, rfl, ⟨_, sqt_mono r1.sub q.sq⟩, k _ G1 H1 F1 r1 s1 (itd_tup q.sq z rr)⟩
  | str x =>
    cases eg
    refine .inr (.inr ⟨G, F, ds, _, _, r, ea, fun v G1 H1 F1 r1 s1 d1 => ?_⟩)
    cases d1 with
    | str _ z o => exact ⟨_, rfl, k _ G1 H1 F1 r1 s1 (itd_str z o)⟩
  | _ => cases eg
def xArgs (f : XF S (List D)) (g : List D → Option (List D)) : XF S (List D) := xb f fun x => xlift (g x)
theorem xi_r1 {f : XF S (List D)} (hg : Gl X "range") (hm : X.mg "range" = none) (ha : PA X [a] (tXA X.K R f)) (hs : starEach [a] X.env = [(false, eval a X.env)] := by rfl) : PI X tg (.Call (.Name "range" p) [a] [] pos) (tXI false X.K R (xArgs f rng1)) :=
  PI.imp (pi_range1 hg hm ha hs) fun σ H J ⟨G, F, ds, xs, ds', r, e, k⟩ => by
    obtain ⟨as, ds1, ea, e⟩ := xb_some e
    obtain ⟨eg, e9⟩ := xlift_some e
    subst e9
    match as, eg with
    | [.int j], eg =>
      simp only [rng1] at eg
      split at eg
      · rename_i hz
        cases eg
        refine ⟨G, F, ds, _, _, r, ea, fun vs G1 H1 F1 r1 s1 d1 => ?_⟩
        cases d1 with
        | cons d1 rr =>
          cases rr
          cases d1
          have hl : (sizeLine : Int) < 2 ^ 62 := by decide
          exact ⟨j, rfl, hz.2, by omega, k _ G1 H1 F1 r1 s1 (itd_rng (by omega))⟩
      · cases eg
end
section
variable {S : Type} {X : Cx} {R : StI S} {e : Expr} {pos p2 : Pos} {lo hi : Option Expr}
def xNoPart : XF S (Option Int) := fun ds => some (none, ds)
def intD1 : D → Option (Option Int)
  | .int i => some (some i)
  | _ => none
def xPart (f : XF S D) : XF S (Option Int) := xb f fun x => xlift (intD1 x)
def xSl3 {α : Type} (fa : XF S D) (fl fh : XF S (Option Int)) (g : D → Option Int → Option Int → Option α) : XF S α := xb fa fun x => xb fl fun l => xb fh fun h => xlift (g x l h)
theorem cutS_le (z : Str) (lo hi : Option Int) : (cutS z lo hi).length ≤ z.length := by
  show ((z.cps.toList.drop _).take _).toArray.size ≤ z.cps.size
  simp only [List.size_toArray, List.length_take, List.length_drop, Array.length_toList]
  omega
def slT1 : D → Option Int → Option Int → Option D
  | .tuple xs, lo, hi => some (.tuple (cutD xs lo hi))
  | .str x, lo, hi => if PyData.strOk (cutS x lo hi) = true then some (.str (cutS x lo hi)) else none
  | _, _, _ => none
theorem sl_ts2 : SlR X (fun x lo hi H Q => rSlF X.K x lo hi H Q ∨ rSlS x lo hi H Q) := SlR.or sl_tupF sl_str
theorem cutD_whole {xs : List D} {lo hi : Option Int} (h : HT.sIx xs.length 0 lo = 0 ∧ HT.sIx xs.length xs.length hi = xs.length) : cutD xs lo hi = xs := by
  unfold cutD
  rw [h.1, h.2, List.drop_zero, Nat.sub_zero, List.take_length]
theorem slT_ok {K : PySem.W.Frag} {v : V} {x d : D} {l h : Option Int} {G H : Hp} {Q : VK} (s : Same G H) (dv : Den K G v x) (e : slT1 x l h = some d) (k : ∀ v G' H', Gr G H G' H' → Den K G' v d → Q v H') : rSlF K v l h H Q ∨ rSlS v l h H Q := by
  cases dv with
  | tup q z r =>
    rename_i a vs xs
    cases e
    refine .inl ⟨a, vs, rfl, sqt_mono s q.sq, fun hw => ?_, fun hw p o dn hp => ?_⟩
    · rw [r.length] at hw
      exact k _ G H (.refl s) (by rw [cutD_whole hw]; exact .tup q z r)
    · have hg := s.free hp
      exact k _ (upd G p (.frz o (.tup (cutV vs l h)))) _ (.upd s hp) (.tup (PqT.new dn) (Nat.le_trans (cutV_le _ _ _) z) ((den_cut r l h).mono fun b u e => by rw [upd_ne (ne_of_none e hg)]; exact e))
  | str y z o =>
    unfold slT1 at e
    dsimp only at e
    split at e
    · rename_i ho
      cases e
      exact .inr ⟨y, rfl, z, k _ G H (.refl s) (.str _ (Nat.le_trans (cutS_le _ _ _) z) ho)⟩
    · cases e
  | _ => cases e
end
section
variable {S : Type} {X : Cx} {R : StI S} {o e : Expr} {apos pos : Pos}
def strOkAll (ys : List Str) : Bool := ys.all fun y => decide (y.length ≤ sizeLine) && PyData.strOk y
def splitD : D → D → Option (List D)
  | .str a, .str b => if (b.length == 0) = false ∧ a.length + 2 ≤ sizeLine ∧ (Txt.split a b).length ≤ sizeLine ∧ strOkAll (Txt.split a b) = true then some ((Txt.split a b).map .str) else none
  | _, _ => none
def gSplit (ga gb : DS S → Option D) : DS S → Option (List D) := fun ds => (ga ds).bind fun x => (gb ds).bind fun y => splitD x y
def gOp2 (g : D → D → Option D) (ga gb : DS S → Option D) : DS S → Option D := fun ds => (ga ds).bind fun x => (gb ds).bind fun y => g x y
end
section
variable {S : Type} {X : Cx} {R : StI S} {pn : List Nat} {o e i : Expr} {es : List Expr} {apos cpos pos tpos : Pos}
theorem ty_own {K : PySem.W.Frag} : ∀ p vs (H : Hp), H p = some (.lst vs) → tyV K "list" (.ref p) H := fun p vs H h => .inl ⟨rfl, vs, SqL.of h⟩
theorem ex_app {j : Nat} {f : XF S (List D)} (ho : PE X o (tVar j)) (ha : PA X (e :: es) (tXA X.K R f)) (hbase : attributeBase o "append" X.env (eval o X.env) = eval o X.env := by rfl)
    (hfew : ((backTo cpos (starEach (e :: es) X.env)).all (fun x => !x.1) && (backToKw cpos (keywordEach [] X.env)).all (fun x => x.1.isSome)
      && decide ((e :: es).length + ([] : List Keyword).length + (if ([] : List Keyword).isEmpty then 0 else 1) < 30)) = true := by rfl)
    (hline : (apos.endLine == cpos.line) = true := by rfl) (hs : starEach (e :: es) X.env = (false, eval e X.env) :: starEach es X.env := by rfl) (hplain : (backTo cpos (starEach es X.env)).any (·.1) = false := by rfl) :
    PE X (.Call (.Attribute o "append" apos) (e :: es) [] cpos) (tX X.K R (xMt j appD f)) := PE.imp (pe_bm PySem.F.plainAttrs_list PySem.F.slot_list_append PySem.F.type_list_append mt_append ho ha hbase hfew hline hs hplain) fun _ _ _ h => x_mt d_app ty_own h
end
inductive St2 where
  | draw (cells left : List Int) (at_ : Int)
  | dic (kvs : List (Int × Int))
  | rows (xss : List (List (Option Int)))
def oiV : Option Int → V
  | none => .non
  | some i => .int i
def RowsAt (H : Hp) (ps : List Addr) (xss : List (List (Option Int))) : Prop :=
  ps.length = xss.length ∧ ∀ (l : Nat) q r, ps[l]? = some q → xss[l]? = some r → H q = some (.lst (r.map oiV)) ∧ r.length ≤ sizeLine
theorem RowsAt.mono {H H' : Hp} {ps : List Addr} {xss : List (List (Option Int))} (h : RowsAt H ps xss) (k : ∀ q ∈ ps, H' q = H q) : RowsAt H' ps xss :=
  ⟨h.1, fun l q r h1 h2 => ⟨by rw [k q (List.mem_of_getElem? h1)]; exact (h.2 l q r h1 h2).1, (h.2 l q r h1 h2).2⟩⟩
theorem RowsAt.trk {H : Hp} {ps : List Addr} {xss : List (List (Option Int))} (h : RowsAt H ps xss) {q : Addr} (hq : q ∈ ps) : H q ≠ none := by
  obtain ⟨l, hl, e⟩ := List.mem_iff_getElem.mp hq
  have h2 : l < xss.length := by rw [← h.1]; exact hl
  rw [(h.2 l q xss[l] (by rw [List.getElem?_eq_getElem hl, e]) (List.getElem?_eq_getElem h2)).1]
  simp
def drawKV (pc pl : Addr) (k : Int) : List (Key × V) := [(.inr "cells", .ref pc), (.inr "left", .ref pl), (.inr "at", .int k)]
def dicKV (kvs : List (Int × Int)) : List (Key × V) := kvs.map fun p => (.inl p.1, .int p.2)
def rel2 (H : Hp) (v : V) : St2 → (Addr → Prop) → Prop
  | .draw cells left k, fp => ∃ p pc pl, v = .ref p ∧ H p = some (.dK (drawKV pc pl k)) ∧ H pc = some (.lst (cells.map V.int)) ∧ H pl = some (.lst (left.map V.int)) ∧ p ≠ pc ∧ p ≠ pl ∧ pc ≠ pl ∧ ∀ a, fp a ↔ a = p ∨ a = pc ∨ a = pl
  | .dic kvs, fp => ∃ p, v = .ref p ∧ H p = some (.dK (dicKV kvs)) ∧ ∀ a, fp a ↔ a = p
  | .rows xss, fp => ∃ p ps, v = .ref p ∧ H p = some (.lst (ps.map V.ref)) ∧ ps.length ≤ sizeLine ∧ RowsAt H ps xss ∧ (p :: ps).Nodup ∧ ∀ a, fp a ↔ a = p ∨ a ∈ ps
def R2i : StI St2 where
  rel := fun _ => rel2
  frame := fun {G G' H H' v s fp} h _ k => by
    cases s with
    | draw cells left n =>
      obtain ⟨p, pc, pl, rfl, h1, h2, h3, n1, n2, n3, hf⟩ := h
      exact ⟨p, pc, pl, rfl, by rw [k p ((hf p).mpr (.inl rfl))]; exact h1, by rw [k pc ((hf pc).mpr (.inr (.inl rfl)))]; exact h2, by rw [k pl ((hf pl).mpr (.inr (.inr rfl)))]; exact h3, n1, n2, n3, hf⟩
    | dic kvs =>
      obtain ⟨p, rfl, h1, hf⟩ := h
      exact ⟨p, rfl, by rw [k p ((hf p).mpr rfl)]; exact h1, hf⟩
    | rows xss =>
      obtain ⟨p, ps, rfl, h1, z, h2, n, hf⟩ := h
      exact ⟨p, ps, rfl, by rw [k p ((hf p).mpr (.inl rfl))]; exact h1, z, h2.mono fun q hq => k q ((hf q).mpr (.inr hq)), n, hf⟩
  trk := fun {G H v s fp} h a ha => by
    cases s with
    | draw cells left n =>
      obtain ⟨p, pc, pl, rfl, h1, h2, h3, n1, n2, n3, hf⟩ := h
      rcases (hf a).mp ha with z | z | z
      · rw [z, h1]; simp
      · rw [z, h2]; simp
      · rw [z, h3]; simp
    | dic kvs =>
      obtain ⟨p, rfl, h1, hf⟩ := h
      rw [(hf a).mp ha, h1]; simp
    | rows xss =>
      obtain ⟨p, ps, rfl, h1, z, h2, n, hf⟩ := h
      rcases (hf a).mp ha with z | z
      · rw [z, h1]; simp
      · exact h2.trk z
abbrev DS2 := DS St2
section
variable {S : Type} {K : PySem.W.Frag} {R : StI S} {ds : DS S} {σ : L2.St} {G H : Hp} {F : Nat → Addr → Prop}
theorem RS.put (r : RS K R ds σ G H F) {i : Nat} {s s' : S} {v : V} {q : Addr} {o : HO} (e : ds[i]? = some (some (.st s))) (hv : σ[i]? = some (some v)) (hq : F i q) (rel : R.rel G (upd H q o) v s' (F i)) :
    RS K R (ds.set i (some (.st s'))) σ G (upd H q o) F ∧ Step G H (fun a => ∃ j, F j a) G (upd H q o) (fun a => ∃ j, F j a) := by
  have hi : i < ds.length := (List.getElem?_eq_some_iff.mp e).1
  have hg : G q = none := r.dis i q hq
  have sub : Same G (upd H q o) := fun b u z => by rw [upd_ne (ne_of_none z hg)]; exact r.sub b u z
  refine ⟨⟨sub, by rw [List.length_set]; exact r.len, fun j m z => ?_, fun j z => ?_, r.dj, r.dis⟩, ⟨fun a ha u z => ?_, Same.refl _, sub, fun b hb => .inl hb, fun b hb => .inl hb⟩⟩
  · by_cases hj : i = j
    · subst hj
      rw [List.getElem?_set_self hi] at z
      cases z
      exact ⟨v, hv, rel⟩
    · rw [List.getElem?_set_ne hj] at z
      obtain ⟨u, h1, h2⟩ := r.own j m z
      exact ⟨u, h1, h2.mono (Same.refl _) fun a ha => upd_ne fun y => hj (r.dj i j a (by rw [y]; exact hq) ha)⟩
  · by_cases hj : i = j
    · subst hj
      exact absurd (List.getElem?_set_self hi) (z _)
    · rw [List.getElem?_set_ne hj] at z
      exact r.emp j z
  · rw [upd_ne fun y => ha ⟨i, by rw [y]; exact hq⟩]; exact z
end
section
variable {X : Cx} {pn : List Nat} {o e i e2 : Expr} {es : List Expr} {pos pos2 apos cpos : Pos} {j : Nat}
theorem layAll_ints : ∀ l : List Int, PyData.canLayAll0 (l.map PyData.int) = true
  | [] => by unfold PyData.canLayAll0; rfl
  | n :: r => by unfold List.map PyData.canLayAll0; rw [layAll_ints r]; rfl
end
section
variable {X : Cx} {pn : List Nat} {o e i e2 k1 k2 k3 z0 : Expr} {es : List Expr} {pos pos2 apos cpos : Pos} {j : Nat}
theorem Step.add {G H : Hp} {P Z : Addr → Prop} {G' H' : Hp} (s : Step G H P G' H' P) (n : ∀ a, Z a → H a = none) : Step G H P G' H' (fun a => P a ∨ Z a) :=
  ⟨s.frame, s.keep, s.sub, s.new0, fun b hb => hb.elim (fun z => s.newf b z) fun z => .inr (n b z)⟩
theorem Step.write {G H : Hp} {P : Addr → Prop} {q : Addr} {o : HO} (s : Same G H) (hg : G q = none) (hp : P q) : Step G H P G (upd H q o) P :=
  ⟨fun a ha u e => by rw [upd_ne fun y => ha (by rw [y]; exact hp)]; exact e, Same.refl _, fun b u e => by rw [upd_ne (ne_of_none e hg)]; exact s b u e, fun b hb => .inl hb, fun b hb => .inl hb⟩
end
section
variable {prog : Program} {w : World} {κ : Type} [DecidableEq κ] {kn : KeyKind prog w κ} {A : Around} {E : Value → Shared → Prop} {s : Shared} {vw dd : Addr} {tab : List (κ × Value)} {ep : Nat}
end
section
variable {X : Cx} {e : Expr} {te : TE} {p apos cpos pos : Pos}
end
section
variable {S : Type} {X : Cx} {R : StI S} {e : Expr} {pos p2 : Pos} {lo hi : Option Expr}
def slA : D → Option Int → Option Int → Option D
  | .list xs, lo, hi => some (.list (cutD xs lo hi))
  | .tuple xs, lo, hi => some (.tuple (cutD xs lo hi))
  | .str x, lo, hi => if PyData.strOk (cutS x lo hi) = true then some (.str (cutS x lo hi)) else none
  | _, _, _ => none
theorem slA_ok {K : PySem.W.Frag} {v : V} {x d : D} {l h : Option Int} {G H : Hp} {Q : VK} (s : Same G H) (dv : Den K G v x) (e : slA x l h = some d) (k : ∀ v G' H', Gr G H G' H' → Den K G' v d → Q v H') : rSlL K v l h H Q ∨ (rSlF K v l h H Q ∨ rSlS v l h H Q) := by
  cases x with
  | list ys =>
    cases e
    cases dv with
    | lst q z r =>
      refine .inl ⟨_, _, rfl, SqL.of (s _ _ q), fun p hp => ?_⟩
      have hg := s.free hp
      exact k _ (upd G p _) _ (.upd s hp) (.lst upd_same (Nat.le_trans (cutV_le _ _ _) z) ((den_cut r l h).mono fun b u e => by rw [upd_ne (ne_of_none e hg)]; exact e))
  | tuple ys => exact .inr (slT_ok s dv e k)
  | str y => exact .inr (slT_ok s dv e k)
  | _ => cases e
theorem sl_any : SlR X (fun x lo hi H Q => rSlL X.K x lo hi H Q ∨ (rSlF X.K x lo hi H Q ∨ rSlS x lo hi H Q)) := SlR.or sl_list sl_ts2
def gSlA (ga : DS S → Option D) (gl gh : DS S → Option (Option Int)) : DS S → Option D := fun ds => (ga ds).bind fun x => (gl ds).bind fun l => (gh ds).bind fun h => slA x l h
theorem ep_slA {ga : DS S → Option D} {gl gh : DS S → Option (Option Int)} (he : PE X e (tP X.K ga)) (hl : PO X lo (tPO X.K gl)) (hu : PO X hi (tPO X.K gh)) : PE X (.Subscript e (.Slice lo hi none p2) pos) (tP X.K (gSlA ga gl gh)) := PE.imp (pe_slice sl_any he hl hu) fun σ H Q ⟨G, ds, d, s, w, e, k⟩ => by
  unfold gSlA at e
  cases ea : ga ds with
  | none => rw [ea] at e; cases e
  | some x =>
    cases el : gl ds with
    | none => simp [ea, el] at e
    | some l =>
      cases eh : gh ds with
      | none => simp [ea, el, eh] at e
      | some h =>
        simp only [ea, el, eh, Option.bind_some] at e
        refine ⟨G, ds, x, s, w, ea, fun v G1 H1 g1 d1 => ?_⟩
        refine ⟨G1, ds, l, g1.sub, w.mono g1.keep, el, fun G2 H2 g2 => ?_⟩
        refine ⟨G2, ds, h, g2.sub, w.mono (g1.trans g2).keep, eh, fun G3 H3 g3 => ?_⟩
        exact slA_ok g3.sub (d1.mono (g2.trans g3).keep) e fun v G4 H4 g4 d4 => k v G4 H4 (((g1.trans g2).trans g3).trans g4) d4
def addA : D → D → Option D
  | .list xs, y => (addL (.list xs) y).map .list
  | x, y => addD x y
theorem o_addA : OpR X (binaryOp .Add) (fun x y H Q => rCat x y H Q ∨ rAddD X.K x y H Q) := OpR.or op_cat o_add
theorem d_addA {K : PySem.W.Frag} : R2D K (fun x y H Q => rCat x y H Q ∨ rAddD K x y H Q) addA := by
  intro x y dx dy d G H Q s d1 d2 e k
  cases dx with
  | list xs =>
    cases ea : addL (.list xs) dy with
    | none => simp [addA, ea] at e
    | some zs =>
      simp only [addA, ea, Option.map_some] at e
      cases e
      refine .inl (d_addL x y (.list xs) dy zs G H Q s d1 d2 ea fun p vs G' H' g h1 h2 h3 z dz => ?_)
      exact k (.ref p) (upd G' p (.lst vs)) H' (g.freeze h1 h2 h3) (.lst upd_same z (dz.mono fun b u e => by rw [upd_ne (ne_of_none e h1)]; exact e))
  | none => exact .inr (d_add x y _ dy d G H Q s d1 d2 e k)
  | bool _ => exact .inr (d_add x y _ dy d G H Q s d1 d2 e k)
  | int _ => exact .inr (d_add x y _ dy d G H Q s d1 d2 e k)
  | str _ => exact .inr (d_add x y _ dy d G H Q s d1 d2 e k)
  | tuple _ => exact .inr (d_add x y _ dy d G H Q s d1 d2 e k)
  | dict _ => exact .inr (d_add x y _ dy d G H Q s d1 d2 e k)
end
theorem notin_own {t : D → Option (List (Nat × D))} {own pn : List Nat} (h : ∀ d as, t d = some as → ∀ p ∈ as, p.1 ∈ own) (n : ∀ i ∈ own, i ∉ pn) : ∀ d as, t d = some as → ∀ p ∈ as, p.1 ∉ pn := fun d as e p hp => n _ (h d as e p hp)
theorem room_u {k n : Nat} {A : Around} (r : Room k A) (h : n ≤ 200) : A.units + n < cLine := by
  have := r.un
  omega
structure Cl (P : Program) (w : World) (K : PySem.W.Frag) (mg : Str → Option Value) (base : Heap) (k : Nat) (x : Str) (sp : Sp) : Prop where
  ex : ∃ (f : Addr) (fd : FuncData) (ps : List Str), FnG P w K mg base CX0 k f fd ps sp ∧ Binds K fd ps [] ∧ PySem.W.keepIn K (.ref f) = true ∧ mg x = some (.ref f)
section
variable {S : Type} {X : Cx} {R : StI S} {j k n : Nat} {x : Str} {p pos : Pos} {e : Expr} {es : List Expr}
theorem cp_call {F : List D → Option (MO S)} {gs : DS S → Option (List D)} (c : Cl X.prog X.w X.K X.mg X.base j x (spP X.K R n F)) (hk : j ≤ k) (hr : Room k X.A) (hgd : X.A.guards = some []) (hg : Gl X x) (ha : PA X (e :: es) (tPA X.K gs))
    (hdb : (x == ("__debug__" : Str)) = false := by decide) (he : starEach (e :: es) X.env = (false, eval e X.env) :: starEach es X.env := by rfl) (hpl : (backTo pos (starEach es X.env)).any (·.1) = false := by rfl) :
    PE X (.Call (.Name x p) (e :: es) [] pos) (tP X.K (gCallP n F gs)) := by
  obtain ⟨f, fd, ps, Fn, hb, hkp, hm⟩ := c.ex
  exact ep_call (Fn.up hk) hr hgd hg hm hkp hb ha hdb he hpl
theorem co_call {F : List D → Option (MO S)} {fs : XF S (List D)} (c : Cl X.prog X.w X.K X.mg X.base j x (spP X.K R n F)) (hk : j ≤ k) (hr : Room k X.A) (hgd : X.A.guards = some []) (hg : Gl X x) (ha : PA X (e :: es) (tXA X.K R fs))
    (hdb : (x == ("__debug__" : Str)) = false := by decide) (he : starEach (e :: es) X.env = (false, eval e X.env) :: starEach es X.env := by rfl) (hpl : (backTo pos (starEach es X.env)).any (·.1) = false := by rfl) :
    PE X (.Call (.Name x p) (e :: es) [] pos) (tO X.K R (oCallP n F fs)) := by
  obtain ⟨f, fd, ps, Fn, hb, hkp, hm⟩ := c.ex
  exact eo_call (Fn.up hk) hr hgd hg hm hkp hb ha hdb he hpl
end
def mkS (names : List (Str × NameKind)) : Scope := { kind := .function, names := names, isGenerator := false, isCoroutine := false }
section
variable {S : Type} {K : PySem.W.Frag} {R : StI S}
theorem p_f {g : DS S → Option (List D)} {σ : L2.St} {H : Hp} {Q : VK} (h : tP K (gL g) σ H Q) : tF K g σ H Q := by
  obtain ⟨G, ds, d, s, w, e, k⟩ := h
  unfold gL at e
  cases eg : g ds with
  | none => rw [eg] at e; cases e
  | some xs =>
    rw [eg] at e
    cases e
    refine ⟨G, ds, xs, s, w, eg, fun p vs G' H' g h1 h2 h3 z d => ?_⟩
    refine k (.ref p) (upd G' p (.lst vs)) H' (g.freeze h1 h2 h3) (.lst upd_same z (d.mono fun b u e => ?_))
    rw [upd_ne (ne_of_none e h1)]; exact e
theorem conv_BX {X : Cx} {R : StI S} {g : DS S → Option (List D)} : ∀ σ H (Q : VK), tO X.K R (oX (xO (oB g))) σ H Q → tF X.K g σ H Q := fun _ _ _ h => o_B (x_O (o_X h))
theorem conv_PX {X : Cx} {R : StI S} {g : DS S → Option (List D)} : ∀ σ H (Q : VK), tO X.K R (oX (xP (gL g))) σ H Q → tF X.K g σ H Q := fun _ _ _ h => p_f (x_pure (o_X h))
end
section
variable {S : Type} {X : Cx} {a b c : Expr} {ga gb gc : DS S → Option D} {pos : Pos}
theorem p_chain {K : PySem.W.Frag} {r r' : R2} {g g' : D → D → Option D} (hr : R2D K r g) (hr' : R2D K r' g') {σ : L2.St} {H : Hp} {Q : VK} (h : tP K (gChain g g' ga gb gc) σ H Q) : tChain r r' (tP K ga) (tP K gb) (tP K gc) σ H Q := by
  obtain ⟨G, ds, d, s, w, e, k⟩ := h
  unfold gChain at e
  cases ea : ga ds with
  | none => rw [ea] at e; cases e
  | some x =>
    cases eb : gb ds with
    | none => simp [ea, eb] at e
    | some y =>
      cases ez : g x y with
      | none => simp [ea, eb, ez] at e
      | some z =>
        simp only [ea, eb, ez, Option.bind_some] at e
        refine ⟨G, ds, x, s, w, ea, fun v G1 H1 g1 d1 => ?_⟩
        refine ⟨G1, ds, y, g1.sub, w.mono g1.keep, eb, fun u G2 H2 g2 d2 => ?_⟩
        refine hr v u x y z G2 H2 _ g2.sub (d1.mono g2.keep) d2 ez fun q G3 H3 g3 d3 => ?_
        cases z with
        | bool t =>
          cases d3
          refine ⟨t, rfl, ?_⟩
          cases t with
          | true =>
            cases ec : gc ds with
            | none => simp [ec] at e
            | some o =>
              simp only [ec, Option.bind_some] at e
              refine iteT ⟨G3, ds, o, g3.sub, w.mono ((g1.trans g2).trans g3).keep, ec, fun p G4 H4 g4 d4 => ?_⟩
              exact hr' u p y o d G4 H4 Q g4.sub (d2.mono (g3.trans g4).keep) d4 e fun r G5 H5 g5 d5 => k r G5 H5 ((((g1.trans g2).trans g3).trans g4).trans g5) d5
          | false =>
            have e' : d = .bool false := by simpa using e.symm
            subst e'
            exact iteF (k _ G3 H3 ((g1.trans g2).trans g3) (.bl false))
        | _ => cases e
theorem tp_chain {op op' : CmpOp} {r r' : R2} {g g' : D → D → Option D} (ho : OpR X (compareOp op) r) (hr : R2D X.K r g) (ho' : OpR X (compareOp op') r') (hr' : R2D X.K r' g') (ha : PE X a (tP X.K ga)) (hb : PE X b (tP X.K gb)) (hc : PE X c (tP X.K gc))
    (hm : lastMarks [op, op'] [b, c] = false := by with_unfolding_all rfl) : PT X (.Compare a [op, op'] [b, c] pos) (tPT X.K (gB (gChain g g' ga gb gc))) := PT.imp (pt_chain ho ho' ha hb hc hm) fun σ H Q ⟨G, ds, t, s, w, e, k⟩ => by
  unfold gB at e
  split at e
  · cases e
    rename_i t0 eg
    refine p_chain hr hr' ⟨G, ds, _, s, w, eg, fun v G' H' gr d => ?_⟩
    cases d
    exact ⟨_, rfl, k G' H' gr⟩
  · cases e
end
theorem ext_tup (l : Addr) (its : Array Value) (n : Nat) (b : Addr) (dd : Option Addr) (sl : Array (Option Value)) (more : Array Value) (n2 : Nat) (z0 : ¬ (!its.isEmpty && Builtin.List.listTooLong (its.size + more.size)) = true) (z1 : its.size ≤ sizeLine) (z2 : its.size + more.size ≤ sizeLine + 1) :
    Meets (Builtin.«list.extend» ⟨[.ref l, .ref b], []⟩) (fun _ R s => s.heap.get? l = some { cls := .type "list", dict := none, data := .seq its n, slots := #[] } ∧ s.heap.get? b = some { cls := .type "tuple", dict := dd, data := .seq more n2, slots := sl } ∧
      R (.ok (.ret Value.none)) { s with heap := s.heap.update l (Obj.mapSeq fun x => x ++ more), toks := s.toks }) :=
  .of_wp fun prog w A R s h => by
    obtain ⟨hp, g, d, tk, os⟩ := s
    obtain ⟨hl, hb, h⟩ := h
    have f1 := AutoSeq1.idx_int; have f2 := sub_tuple_tuple; have f3 := sub_list_list; have f4 := sub_tuple_list; have f5 := sub_list_tuple
    have hz' : (its ++ more).size ≤ sizeLine + 1 := by rw [Array.size_append]; exact z2
    wp_walk using (wpAny_updateSeq hl rfl (hz := z1) (_hz' := hz')), wpAny_loadPart' hl, wpAny_loadPart' hb
    exact ⟨_, rfl, h⟩
def rExtT (K : PySem.W.Frag) : V → List V → Hp → VK → Prop := fun x vs H Q => ∃ l b xs zs, x = .ref l ∧ vs = [.ref b] ∧ H l = some (.lst xs) ∧ SqT K H b zs ∧ xs.length + zs.length ≤ sizeLine ∧ Q .non (upd H l (.lst (xs ++ zs)))
theorem mt_extT {X : Cx} : MtM X "list.extend" (rExtT X.K) := by
  intro pins s σ H x vs v us Q I rx rv h
  obtain ⟨l, b, xs, zs, rfl, rfl, hH, hB, hz, q⟩ := h
  cases rx
  obtain ⟨u, rfl, ru⟩ := rv.one
  cases ru
  obtain ⟨z, its, n, r, hl, e⟩ := I.lstM hH
  obtain ⟨its2, r2, tp, z2⟩ := I.tuple hB
  obtain ⟨⟨cls, dd, data, sl⟩, ho, hc, n2, hd⟩ := id tp
  dsimp only at hc hd
  subst hc hd
  have l2 := r2.length
  have hsz : its.toArray.size + its2.toArray.size ≤ sizeLine := by rw [List.size_toArray, List.size_toArray]; omega
  have hlong : ¬ (!its.toArray.isEmpty && Builtin.List.listTooLong (its.toArray.size + its2.toArray.size)) = true := by
    rw [notLongL hsz, Bool.and_false]; exact Bool.false_ne_true
  refine call_meets F.slot_list_extend ⟨_, e, rfl⟩ F.entry_list_extend (F.args_list_extend_2 _ _) (ext_tup l its.toArray n b dd sl its2.toArray n2 hlong (by rw [List.size_toArray]; omega) (by omega)) ⟨e, ho, ?_⟩
  exact ⟨.non, _, I.lset (its' := its ++ its2) hH e (by simp) (r.append r2) (by rw [List.length_append]; omega), rfl, q⟩
def extTD (xs as : List D) : Option (D × List D) := match as with
  | [.tuple ys] => if xs.length + ys.length ≤ sizeLine then some (.none, xs ++ ys) else none
  | _ => none
theorem d_extT {K : PySem.W.Frag} : MtD K (rExtT K) extTD := by
  intro p vs xs as ws d ys G H Q s hp hg z dx dw e k
  match as, e with
  | [.tuple zs], e =>
    simp only [extTD] at e
    split at e
    · rename_i hz
      cases e
      match ws, dw with
      | _, .cons (.tup q z2 r) .nil =>
        exact ⟨p, _, vs, _, rfl, rfl, hp, sqt_mono s q.sq, by rw [dx.length, r.length]; exact hz, k _ (vs ++ _) (by rw [List.length_append, dx.length, r.length]; exact hz) (dx.append r) .non⟩
    · cases e
section
variable {S : Type} {X : Cx} {R : StI S} {o e : Expr} {es : List Expr} {apos cpos : Pos}
end
section
variable {S : Type} {X : Cx} {R : StI S} {pn : List Nat} {st : Stmt} {body : List Stmt} {h0 : ExceptHandler} {hs : List ExceptHandler} {pos : Pos}
theorem ep_glob {x : Str} {v : V} {d : D} {u : Value} (hg : Gl X x) (hm : X.mg x = some u) (r : RelV v u) (dd : ∀ G, Den X.K G v d) (hd : (x == ("__debug__" : Str)) = false := by decide) : PE X (.Name x pos) (tP X.K (gC (S := S) d)) := ep_c (pe_glob hg hm r hd) dd
theorem ep_globI {x : Str} {i : Int} (hg : Gl X x) (hm : ∃ t, X.mg x = some (.int i t)) (hd : (x == ("__debug__" : Str)) = false := by decide) : PE X (.Name x pos) (tP X.K (gC (S := S) (.int i))) := by
  obtain ⟨t, hm⟩ := hm
  exact ep_glob hg hm (v := .int i) ⟨t, rfl⟩ (fun _ => .int i) hd
end
section
variable {X : Cx} {K : PySem.W.Frag}
end
section
variable {S : Type} {X : Cx} {K : PySem.W.Frag} {R : StI S} {o e : Expr} {es : List Expr} {apos cpos : Pos}
def extBD (xs as : List D) : Option (D × List D) := match as with
  | [.tuple ys] => if xs.length + ys.length ≤ sizeLine then some (.none, xs ++ ys) else none
  | as => extD xs as
def rExtB (K : PySem.W.Frag) : V → List V → Hp → VK → Prop := fun x vs H Q => rExtend x vs H Q ∨ rExtT K x vs H Q
theorem mt_extB : MtM X "list.extend" (rExtB X.K) := by
  intro pins s σ H x vs v us Q I rx rv h
  rcases h with h | h
  · exact mt_extend pins s σ H x vs v us Q I rx rv h
  · exact mt_extT pins s σ H x vs v us Q I rx rv h
theorem d_extB : MtD K (rExtB K) extBD := by
  intro p vs xs as ws d ys G H Q s hp hg z dx dw e k
  have go : extD xs as = some (d, ys) → rExtB K (.ref p) ws H Q := fun e => .inl (d_ext p vs xs as ws d ys G H Q s hp hg z dx dw e k)
  unfold extBD at e
  split at e
  · exact .inr (d_extT p vs xs _ ws d ys G H Q s hp hg z dx dw (by unfold extTD; exact e) k)
  · exact go e
theorem ex_extB {j : Nat} {f : XF S (List D)} (ho : PE X o (tVar j)) (ha : PA X (e :: es) (tXA X.K R f)) (hbase : attributeBase o "extend" X.env (eval o X.env) = eval o X.env := by rfl)
    (hfew : ((backTo cpos (starEach (e :: es) X.env)).all (fun x => !x.1) && (backToKw cpos (keywordEach [] X.env)).all (fun x => x.1.isSome)
      && decide ((e :: es).length + ([] : List Keyword).length + (if ([] : List Keyword).isEmpty then 0 else 1) < 30)) = true := by rfl)
    (hline : (apos.endLine == cpos.line) = true := by rfl) (hs : starEach (e :: es) X.env = (false, eval e X.env) :: starEach es X.env := by rfl) (hplain : (backTo cpos (starEach es X.env)).any (·.1) = false := by rfl) :
    PE X (.Call (.Attribute o "extend" apos) (e :: es) [] cpos) (tX X.K R (xMt j extBD f)) := PE.imp (pe_bm PySem.F.plainAttrs_list PySem.F.slot_list_extend PySem.F.type_list_extend mt_extB ho ha hbase hfew hline hs hplain) fun _ _ _ h => x_mt d_extB ty_own h
end
def vKey : Value → Option Key
  | .int i _ => some (.inl i)
  | .str x _ => some (.inr x)
  | _ => none
theorem vKey_of {k : Key} {v : Value} (h : keyIs k v = true) : vKey v = some k := by
  rcases keyIs_shape h with ⟨i, t, rfl, rfl⟩ | ⟨x, t, rfl, rfl⟩ <;> rfl
theorem key_scans {k : Key} {v : Value} (h : keyIs k v = true) : v.scannable = true := by
  rcases keyIs_shape h with ⟨i, t, rfl, rfl⟩ | ⟨x, t, rfl, rfl⟩ <;> rfl
def hasK (ks : List Key) (k : Key) : Bool := ks.any fun j => decide (j = k)
theorem hasK_iff {ks : List Key} {k : Key} : hasK ks k = true ↔ k ∈ ks := by
  unfold hasK
  rw [List.any_eq_true]
  exact ⟨fun ⟨j, h, e⟩ => by rw [← of_decide_eq_true e]; exact h, fun h => ⟨k, h, decide_eq_true rfl⟩⟩
def addK (ks : List Key) (k : Key) : List Key := if hasK ks k = true then ks else ks ++ [k]
def distK (ks : List Key) : List Key := ks.foldl addK []
theorem distK_take {ks : List Key} {i : Nat} {k : Key} (h : ks[i]? = some k) : distK (ks.take (i + 1)) = addK (distK (ks.take i)) k := by
  unfold distK
  rw [List.take_add_one, h]
  simp [List.foldl_append]
theorem addK_nodup {ks : List Key} {k : Key} (h : ks.Nodup) : (addK ks k).Nodup := by
  unfold addK
  split
  · exact h
  · rename_i z
    rw [List.nodup_append]
    exact ⟨h, by simp, fun a ha b hb => by simp at hb; rw [hb]; exact fun y => z (hasK_iff.mpr (y ▸ ha))⟩
theorem addK_length (ks : List Key) (k : Key) : (addK ks k).length ≤ ks.length + 1 := by
  unfold addK
  split <;> simp
theorem distK_len : ∀ (n : Nat) (ks : List Key), ks.length = n → (distK ks).length ≤ n := by
  have go : ∀ (ks acc : List Key), (ks.foldl addK acc).length ≤ acc.length + ks.length := by
    intro ks
    induction ks with
    | nil => intro acc; simp
    | cons k r ih =>
      intro acc
      have h1 := ih (addK acc k)
      have h2 := addK_length acc k
      simp only [List.foldl_cons, List.length_cons]
      omega
  intro n ks h
  have := go ks []
  unfold distK
  simp at this
  omega
def SetM (P : Program) (w : World) (h : Heap) (a : Addr) (ks : List Key) : Prop :=
  ∃ o es ep t, h.get? a = some o ∧ o.ExactSet ∧ o.data = .set es ep t ∧ ElemsOf (mixKind P w) es.toList ∧ (es.toList.map fun e => vKey e.2).Perm (ks.map some) ∧ ks.Nodup ∧ es.size < scanBound ∧ t.fits es.size = true ∧ Ris t.place.toList ∧ (w.params.followText "set-order" = true ∨ t.led = true)
section
variable {P : Program} {w : World} {A : Around} {E : Value → Shared → Prop} {s : Shared} {a : Addr} {ks : List Key}
theorem SetM.keep {h h' : Heap} (R : SetM P w h a ks) (k : ∀ o, h.get? a = some o → h'.get? a = some o) : SetM P w h' a ks := by
  obtain ⟨o, es, ep, t, ho, r⟩ := R
  exact ⟨o, es, ep, t, k o ho, r⟩
theorem mem_at {l : List (Int × Value)} (el : ElemsOf (mixKind P w) l) (k : Key) : some k ∈ l.map (fun e => vKey e.2) ↔ ∃ e ∈ l, (mixKind P w).is k e.2 = true := by
  rw [List.mem_map]
  refine ⟨fun ⟨e, he, q⟩ => ⟨e, he, ?_⟩, fun ⟨e, he, q⟩ => ⟨e, he, vKey_of q⟩⟩
  obtain ⟨⟨k', q', _⟩, _⟩ := el e he
  have := vKey_of q'
  rw [q] at this
  cases this
  exact q'
theorem size_keys {es : Array (Int × Value)} (pm : (es.toList.map fun e => vKey e.2).Perm (ks.map some)) : es.size = ks.length := by
  have := pm.length_eq
  simpa using this
theorem setM_lay {g : Bool → Sem Unit} (hg : ∀ (b : Bool) (s₁ : Shared) (Z : Unit → Shared → Prop), Z () s₁ → wpAny (model P w) A (g b) Z E s₁) {o : Obj} {es : Array (Int × Value)} {ep : Nat} {t : SetTable} (ho : s.heap.get? a = some o) (hx : o.ExactSet) (hd : o.data = .set es ep t) {fs : Array (Int × Value)} {t2 : SetTable}
    (el : ElemsOf (mixKind P w) fs.toList) (pm : (fs.toList.map fun e => vKey e.2).Perm (ks.map some)) (nd : ks.Nodup) (hb : fs.size < scanBound) (hf : t2.fits fs.size = true) (hr : Ris t2.place.toList) (hl : w.params.followText "set-order" = true ∨ t2.led = true) {wd : Bool} {Z : Option Bool → Shared → Prop}
    (hZ : ∀ h', Heap.SameBut a s.heap h' → SetM P w h' a ks → Z (some true) { s with heap := h' }) :
    wpAny (model P w) A (do { storeSet a fs t2; if (!wd && t2.tooFull) = true then do { g (relayAll t2 fs (SetTable.grown fs.size)).2.2; storeSet a (relayAll t2 fs (SetTable.grown fs.size)).1 (relayAll t2 fs (SetTable.grown fs.size)).2.1; pure (some true) } else pure (some true) }) Z E s := by
  have first := store_at (es' := fs) (t' := t2) ho hd
  have same := Heap.SameBut.update s.heap a (Obj.putSet fs t2)
  refine wpAny_bind (wpAny_storeSet_of ho hd ?_ (fits_of_scanBound hb))
  split
  · have q1 := relayAll_perm t2 fs (SetTable.grown fs.size); have q2 := relayAll_fits t2 fs (SetTable.grown fs.size); have q3 := relayAll_ris t2 fs (SetTable.grown fs.size); have q4 := relayAll_led t2 fs (SetTable.grown fs.size)
    generalize relayAll t2 fs (SetTable.grown fs.size) = Y at q1 q2 q3 q4 ⊢
    obtain ⟨gs, t3, gv⟩ := Y
    dsimp only at q1 q2 q3 q4 ⊢
    have sz : gs.size = fs.size := by have := q1.length_eq; simpa using this
    refine wpAny_bind (hg _ _ _ (wpAny_bind (wpAny_storeSet_of first rfl ?_ (fits_of_scanBound (by rw [sz]; exact hb)))))
    refine wpAny_pure (hZ _ (same.trans (Heap.SameBut.update _ a _)) ⟨_, gs, _, t3, store_at (es' := gs) (t' := t3) first rfl, hx, rfl, fun e he => el e (q1.mem_iff.mp he), (q1.map _).trans pm, nd, by rw [sz]; exact hb, q2, q3, hl.imp id fun z => by rw [q4]; exact z⟩)
  · exact wpAny_pure (hZ _ same ⟨_, fs, _, t2, first, hx, rfl, el, pm, nd, hb, hf, hr, hl⟩)
theorem setM_add {k : Key} {v : Value} (hv : keyIs k v = true) {Q : Bool → Shared → Prop} (R : SetM P w s.heap a ks) (room : ks.length + 1 < scanBound) (hQ : ∀ b h', Heap.SameBut a s.heap h' → SetM P w h' a (addK ks k) → Q b { s with heap := h' }) :
    wpAny (model P w) A (setAddHashed a v ((mixKind P w).hash k)) Q E s := by
  obtain ⟨o, es, ep, t, ho, hx, hd, el, pm, nd, hb, hf, hr, hl⟩ := R
  have sc := key_scans hv
  have hs : (mixKind P w).is k v = true := hv
  have inK : k ∈ ks ↔ ∃ e ∈ es.toList, (mixKind P w).is k e.2 = true := by
    rw [← mem_at el k, pm.mem_iff, List.mem_map]
    exact ⟨fun z => ⟨k, z, rfl⟩, fun ⟨k', z, e⟩ => by cases e; exact z⟩
  unfold setAddHashed setAddHashedIn
  refine wpAny_holding (wpAny_bind (wpAny_setState_of ho hd hf ?_))
  dsimp only
  rw [byScan_of sc hb el]
  simp only [↓reduceIte]
  unfold setAddByScan
  refine wpAny_bind (wpAny_bind (wpAny_rule (wpAny_bind (wpAny_setScan_of hs ho hd hf el ?_))))
  cases ef : List.findIdx? (fun e => (mixKind P w).is k e.2) es.toList with
  | some j =>
    dsimp only
    obtain ⟨hj, pj, _⟩ := List.findIdx?_eq_some_iff_getElem.mp ef
    have there : addK ks k = ks := if_pos (hasK_iff.mpr (inK.mpr ⟨_, List.getElem_mem hj, pj⟩))
    exact wpAny_pure (wpAny_pure (hQ _ s.heap (Heap.SameBut.refl a s.heap) (by rw [there]; exact ⟨o, es, ep, t, ho, hx, hd, el, pm, nd, hb, hf, hr, hl⟩)))
  | none =>
    dsimp only
    have out : k ∉ ks := fun z => by
      obtain ⟨e, he, q⟩ := inK.mp z
      have := List.findIdx?_eq_none_iff.mp ef e he
      rw [q] at this
      cases this
    have eK : addK ks k = ks ++ [k] := if_neg fun z => out (hasK_iff.mp z)
    have q1 := layNew_perm t es ((mixKind P w).hash k) v; have q2 := layNew_fits t es ((mixKind P w).hash k) v; have q3 := layNew_ris t es ((mixKind P w).hash k) v hr; have q4 := layNew_led t es ((mixKind P w).hash k) v
    generalize layNew t es ((mixKind P w).hash k) v = Y at q1 q2 q3 q4 ⊢
    obtain ⟨fs, t1, wd, gv⟩ := Y
    dsimp only at q1 q2 q3 q4 ⊢
    rw [Array.toList_push] at q1
    have el1 : ElemsOf (mixKind P w) fs.toList := fun e he => by
      rcases List.mem_append.mp (q1.mem_iff.mp he) with z | z
      · exact el e z
      · rw [List.mem_singleton.mp z]; exact ⟨⟨k, hs, rfl⟩, sc⟩
    have pm1 : (fs.toList.map fun e => vKey e.2).Perm ((addK ks k).map some) := by
      refine (q1.map _).trans ?_
      rw [List.map_append, eK, List.map_append]
      refine pm.append ?_
      show [vKey v].Perm [some k]
      rw [vKey_of hv]
    have hb1 : fs.size < scanBound := by
      rw [size_keys pm1, eK, List.length_append]
      exact room
    have gw : ∀ (b : Bool) {s₁ : Shared} {Z : Unit → Shared → Prop}, Z () s₁ → wpAny (model P w) A (match b with | true => rule "set.scan.the-table-gave-way" | false => pure ()) Z E s₁ := fun b _ _ q => by
      cases b
      · exact wpAny_pure q
      · exact wpAny_rule q
    have led1 : w.params.followText "set-order" = true ∨ t1.led = true := hl.imp id fun z => by rw [q4]; exact z
    have nd1 := addK_nodup (k := k) nd
    refine wpAny_bind (gw _ ?_)
    split
    · refine wpAny_bind ?_
      rw [hashByValue_scannable 8 sc]
      refine wpAny_pure (setM_lay (ks := addK ks k) (fun b s₁ Z q => gw b q) ho hx hd el1 pm1 nd1 hb1 ?_ ?_ ?_ fun h' sb r => by dsimp only; exact wpAny_pure (hQ _ h' sb r))
      · first | (split <;> first | exact q2 | exact SetTable.fits_plain_off q2) | exact q2
      · first | (split <;> exact q3) | exact q3
      · first | (split <;> exact led1) | exact led1
    · refine wpAny_bind (wpAny_pure ?_)
      simp only [↓reduceIte]
      exact setM_lay (ks := addK ks k) (fun b s₁ Z q => gw b q) ho hx hd el1 pm1 nd1 hb1 q2 q3 led1 fun h' sb r => by dsimp only; exact wpAny_pure (hQ _ h' sb r)
end
theorem paired_at {α β : Type} {F : α → β → Prop} : ∀ {xs : List α} {ys : List β}, Paired F xs ys → ∀ {i : Nat} {b : β}, ys[i]? = some b → ∃ a, xs[i]? = some a ∧ F a b
  | _, _, .nil, _, _, e => by simp at e
  | _, _, .cons h _, 0, _, e => by simp at e; subst e; exact ⟨_, rfl, h⟩
  | _, _, .cons _ r, i + 1, _, e => by
    obtain ⟨a, h1, h2⟩ := paired_at r (i := i) (by simpa using e)
    exact ⟨a, by simpa using h1, h2⟩
section
variable {P : Program} {w : World} {A : Around} {E : Value → Shared → Prop} {s : Shared} {a : Addr}
abbrev newSet (w : World) : Obj := { cls := .type "set", dict := none, data := .set #[] 0 (.fresh 0 0 (!w.params.followText "set-order")) }
theorem setM_new {h : Heap} (ho : h.get? a = some (newSet w)) : SetM P w h a (distK []) :=
  ⟨_, #[], 0, _, ho, ⟨rfl, rfl, rfl⟩, rfl, (fun e he => by simp at he), .nil, .nil, (by decide), (by rfl), .nil, by
    show _ ∨ (!w.params.followText "set-order") = true
    cases w.params.followText "set-order"
    · exact .inr rfl
    · exact .inl rfl⟩
theorem setM_loop {I : Addr} {fp wr : List Addr} {T : Array GenState → Array GenState → Prop} {n : Nat} {Pv : Nat → Value → Prop} {St : Nat → Shared → Prop} {R : Result → Shared → Prop} (W : WalksS P w A.in1 I fp wr T n Pv St) (z : Addr) (hz : z ∉ fp) (ks : List Key) (hn : n = ks.length) (hb : ks.length + 1 < scanBound)
    (hv : ∀ i v, Pv i v → ∃ k, ks[i]? = some k ∧ keyIs k v = true) : ∀ (m i : Nat) (s : Shared), n - i = m → i ≤ n → St i s → SetM P w s.heap z (distK (ks.take i)) →
      (∀ s', Moved (z :: wr) T s s' → SetM P w s'.heap z (distK ks) → R (.ok (.ret .none)) s') → codeAny (model P w) A (.builtin "set.update.loop" ⟨[.ref z, .ref I], []⟩) R s := by
  have nzw : z ∉ wr := fun h => hz (W.sub _ h)
  have up : ∀ b ∈ wr, b ∈ z :: wr := fun b h => List.mem_cons_of_mem _ h
  intro m
  induction m with
  | zero =>
    intro i s hm hi hst hS fin
    obtain rfl : i = n := by omega
    refine codeAny_builtin F.entry_set_update_loop ?_
    rw [Around.under_plainId F.plain_set_update_loop _]
    show wpAny _ A.in1 (pyNext (.ref I) >>= _) _ _ s
    refine wpAny_bind (W.done s _ _ hst fun s' mv => ?_)
    rw [List.take_of_length_le (by omega)] at hS
    exact wpAny_pure (fin s' (mv.mono up) (hS.keep fun o e => mv.heap z o nzw e))
  | succ m ih =>
    intro i s hm hi hst hS fin
    refine codeAny_builtin F.entry_set_update_loop ?_
    rw [Around.under_plainId F.plain_set_update_loop _]
    show wpAny _ A.in1 (pyNext (.ref I) >>= _) _ _ s
    refine wpAny_bind (W.item i s _ _ (by omega) hst fun v s' pv hst' mv => ?_)
    obtain ⟨k, ek, kv⟩ := hv i v pv
    have hS1 := hS.keep (h' := s'.heap) fun o e => mv.heap z o nzw e
    show wpAny _ A.in1 (holding [v] (setAdd z v) >>= _) _ _ s'
    refine wpAny_bind (wpAny_holding ?_)
    unfold setAdd
    refine wpAny_holding (wpAny_bind ((mixKind P w).pyHash (k := k) kv ?_))
    have room : (distK (ks.take i)).length + 1 < scanBound := by
      have := distK_len _ (ks.take i) rfl
      rw [List.length_take] at this
      omega
    refine setM_add (s := { s' with toks := s'.toks + 1 }) kv hS1 room fun b h' sb hS2 => ?_
    rw [← distK_take ek] at hS2
    refine wpAny_pure ⟨plainId_quiet F.plain_set_update_loop _, ih (i + 1) _ (by omega) (by omega) (W.frame _ s' _ _ hst' (Nat.le_succ _) fun c hc o e => ?_) hS2 fun s2 mv2 hS3 => fin s2 (Moved.trans W.gtrans ((mv.mono up).then_heap (Nat.le_succ _) fun c o hc e => ?_) mv2) hS3⟩
    · rw [sb.2 c fun y => hz (by rw [← y]; exact hc)]; exact e
    · rw [sb.2 c fun y => hc (by rw [y]; exact List.mem_cons_self)]; exact e
set_option maxHeartbeats 8000000 in
theorem setM_ofList {l : Addr} {items : Array Value} (ks : List Key) {Q : Value → Shared → Prop} (hh : A.handled = none) (hl : s.heap.IsList l items) (hi : Paired (fun k v => keyIs k v = true) ks items.toList) (hb : ks.length + 1 < scanBound)
    (h : ∀ (h' : Heap) (tk : Nat), SetM P w h' s.heap.objs.size (distK ks) → (∀ b o, s.heap.get? b = some o → h'.get? b = some o) → Q (.ref s.heap.objs.size) { s with heap := h', toks := tk }) : wpAny (model P w) A (call (.type "set") [.ref l]) Q E s := by
  have sz : items.size = ks.length := by have := hi.length; simpa using this.symm
  obtain ⟨c, tl, hmro⟩ := F.called_set.mro
  have a1 := F.called_set.made; have a2 := F.called_set.sub; have a3 := F.called_set.notType; have a4 := F.called_set.canCreate; have a5 := F.typeCall_set_1 (.ref l); have a6 := F.called_set.init.lookup; have a7 := F.called_set.init.bind (.ref s.heap.objs.size)
  refine wpAny_call (codeAny_of_tree ?_)
  show wpAny _ _ (callAny (.type "set") _) _ _ _
  refine wpAny_pure ⟨Code.quiet_builtin _ (by decide +kernel), codeAny_builtin F.entry_type_call ?_⟩
  rw [Around.under_plain (weight_type_call_type "set" [.ref l] []) rfl]
  repeat (any_goals (first | assumption | wp_step))
  refine codeAny_mono (code_set_led1 (.ref l) (E := E) (Q₁ := fun x t => x = .ref s.heap.objs.size ∧ t = { s with heap := s.heap.push (newSet w) }) ⟨rfl, rfl⟩) fun r t hr => ?_
  match r, hr with
  | .error e, hr => exact hr
  | .ok .next, hr => exact hr.elim
  | .ok .brk, hr => exact hr.elim
  | .ok .cont, hr => exact hr.elim
  | .ok (.ret x), ⟨e1, e2⟩ =>
    subst e1 e2
    have b0 : (s.heap.push (newSet w)).get? s.heap.objs.size = some (newSet w) := Heap.get?_push_size _ rfl
    have b1 : Shared.TypeIs { s with heap := s.heap.push (newSet w) } (.ref s.heap.objs.size) "set" := ⟨_, b0, rfl⟩
    repeat (any_goals (first | assumption | wp_step))
    refine codeAny_mono (codeAny_call_builtin (R := wants (fun r t => r = .none ∧ ∃ h' tk, t = { s with heap := h', toks := tk } ∧ SetM P w h' s.heap.objs.size (distK ks) ∧ ∀ b o, s.heap.get? b = some o → h'.get? b = some o) E) F.called_set.init.plain F.entry_set_init (check_set_init_1 b1 ?_)) fun r t hr => ?_
    · obtain ⟨⟨oc, od, odt, osl⟩, ho, hc, nl, hd⟩ := hl
      simp only at hc hd
      subst hc hd
      have lt : l < s.heap.objs.size := Heap.lt_size ho
      have c1 : (s.heap.push (newSet w)).get? l = some { cls := .type "list", dict := od, data := .seq items nl, slots := osl } := Heap.get?_push_of_some _ ho
      have c2 := F.sub_list_set; have c3 := F.sub_list_frozenset; have c4 : (Value.type "list" == Value.type "dict") = false := by decide
      have c5 : (s.heap.push (newSet w)).IsList l items := ⟨_, c1, rfl, nl, rfl⟩
      have c6 : A.in1.in1.in1.handled = none := by simp [hh]
      have c7 : (s.heap.push (newSet w)).objs.size = s.heap.objs.size + 1 := Heap.size_push ..
      unfold Builtin.«set.__init__» noKeywords Builtin.Frozenset.updateFrom
      generalize hI : pyIter = PI
      wp_walk
      subst hI
      refine wpAny_pyIter_list c5 (wpAny_bind (wpAny_runValue ?_))
      refine setM_loop ((Walks.list c6 _ l (by rw [c7]; exact Nat.ne_of_lt (Nat.lt_succ_of_lt lt)) items).toS) s.heap.objs.size (by rw [c7]; simp only [List.mem_cons, List.not_mem_nil, or_false, not_or]; exact ⟨Nat.ne_of_lt (Nat.lt_succ_self _), Nat.ne_of_gt lt⟩) ks sz hb (fun i v e => ?_) (items.size - 0) 0 _ (by omega) (Nat.zero_le _) ⟨⟨_, Heap.get?_push_size _ rfl, rfl, rfl⟩, c5.push _⟩ ?_ ?_
      · obtain ⟨k, h1, h2⟩ := paired_at hi (by rw [Array.getElem?_toList]; exact e)
        exact ⟨k, h1, h2⟩
      · exact setM_new (Heap.get?_push_of_some _ b0)
      · intro s' mv hS
        obtain ⟨h', g2, d', tk', os'⟩ := s'
        obtain rfl : g2 = s.gens := mv.gens
        obtain rfl : d' = s.drawn := mv.drawn
        obtain rfl : os' = s.os := mv.os
        refine wpAny_pure (wpAny_pure ⟨rfl, h', tk', rfl, hS, fun b o e => ?_⟩)
        have lb : b < s.heap.objs.size := Heap.lt_size e
        refine mv.heap b o ?_ (Heap.get?_push_of_some _ (Heap.get?_push_of_some _ e))
        rw [c7]
        simp only [List.mem_cons, List.not_mem_nil, or_false, not_or]
        exact ⟨Nat.ne_of_lt lb, Nat.ne_of_lt (Nat.lt_succ_of_lt lb)⟩
    · match r, hr with
      | .error e, hr => exact hr
      | .ok .next, hr => exact hr.elim
      | .ok .brk, hr => exact hr.elim
      | .ok .cont, hr => exact hr.elim
      | .ok (.ret x), ⟨e1, h', tk, e2, hS, hk⟩ =>
        subst e1 e2
        repeat (any_goals (first | assumption | wp_step))
        exact h _ _ hS hk
set_option maxHeartbeats 8000000 in
theorem setM_ofTup {l : Addr} {items : Array Value} (ks : List Key) {Q : Value → Shared → Prop} (hh : A.handled = none) (hl : s.heap.IsTuple l items) (hi : Paired (fun k v => keyIs k v = true) ks items.toList) (hb : ks.length + 1 < scanBound)
    (h : ∀ (h' : Heap) (tk : Nat), SetM P w h' s.heap.objs.size (distK ks) → (∀ b o, s.heap.get? b = some o → h'.get? b = some o) → Q (.ref s.heap.objs.size) { s with heap := h', toks := tk }) : wpAny (model P w) A (call (.type "set") [.ref l]) Q E s := by
  have sz : items.size = ks.length := by have := hi.length; simpa using this.symm
  obtain ⟨c, tl, hmro⟩ := F.called_set.mro
  have a1 := F.called_set.made; have a2 := F.called_set.sub; have a3 := F.called_set.notType; have a4 := F.called_set.canCreate; have a5 := F.typeCall_set_1 (.ref l); have a6 := F.called_set.init.lookup; have a7 := F.called_set.init.bind (.ref s.heap.objs.size)
  refine wpAny_call (codeAny_of_tree ?_)
  show wpAny _ _ (callAny (.type "set") _) _ _ _
  refine wpAny_pure ⟨Code.quiet_builtin _ (by decide +kernel), codeAny_builtin F.entry_type_call ?_⟩
  rw [Around.under_plain (weight_type_call_type "set" [.ref l] []) rfl]
  repeat (any_goals (first | assumption | wp_step))
  refine codeAny_mono (code_set_led1 (.ref l) (E := E) (Q₁ := fun x t => x = .ref s.heap.objs.size ∧ t = { s with heap := s.heap.push (newSet w) }) ⟨rfl, rfl⟩) fun r t hr => ?_
  match r, hr with
  | .error e, hr => exact hr
  | .ok .next, hr => exact hr.elim
  | .ok .brk, hr => exact hr.elim
  | .ok .cont, hr => exact hr.elim
  | .ok (.ret x), ⟨e1, e2⟩ =>
    subst e1 e2
    have b0 : (s.heap.push (newSet w)).get? s.heap.objs.size = some (newSet w) := Heap.get?_push_size _ rfl
    have b1 : Shared.TypeIs { s with heap := s.heap.push (newSet w) } (.ref s.heap.objs.size) "set" := ⟨_, b0, rfl⟩
    repeat (any_goals (first | assumption | wp_step))
    refine codeAny_mono (codeAny_call_builtin (R := wants (fun r t => r = .none ∧ ∃ h' tk, t = { s with heap := h', toks := tk } ∧ SetM P w h' s.heap.objs.size (distK ks) ∧ ∀ b o, s.heap.get? b = some o → h'.get? b = some o) E) F.called_set.init.plain F.entry_set_init (check_set_init_1 b1 ?_)) fun r t hr => ?_
    · obtain ⟨⟨oc, od, odt, osl⟩, ho, hc, nl, hd⟩ := hl
      simp only at hc hd
      subst hc hd
      have lt : l < s.heap.objs.size := Heap.lt_size ho
      have c1 : (s.heap.push (newSet w)).get? l = some { cls := .type "tuple", dict := od, data := .seq items nl, slots := osl } := Heap.get?_push_of_some _ ho
      have c2 := F.sub_tuple_set; have c3 := F.sub_tuple_frozenset; have c4 : (Value.type "tuple" == Value.type "dict") = false := by decide
      have c5 : (s.heap.push (newSet w)).IsTuple l items := ⟨_, c1, rfl, nl, rfl⟩
      have c6 : A.in1.in1.in1.handled = none := by simp [hh]
      have c7 : (s.heap.push (newSet w)).objs.size = s.heap.objs.size + 1 := Heap.size_push ..
      unfold Builtin.«set.__init__» noKeywords Builtin.Frozenset.updateFrom
      generalize hI : pyIter = PI
      wp_walk
      subst hI
      refine wpAny_pyIter_tuple c5 (wpAny_bind (wpAny_runValue ?_))
      refine setM_loop ((Walks.tuple c6 _ l (by rw [c7]; exact Nat.ne_of_lt (Nat.lt_succ_of_lt lt)) items).toS) s.heap.objs.size (by rw [c7]; simp only [List.mem_cons, List.not_mem_nil, or_false, not_or]; exact ⟨Nat.ne_of_lt (Nat.lt_succ_self _), Nat.ne_of_gt lt⟩) ks sz hb (fun i v e => ?_) (items.size - 0) 0 _ (by omega) (Nat.zero_le _) ⟨⟨_, Heap.get?_push_size _ rfl, rfl, rfl⟩, c5.push _⟩ ?_ ?_
      · obtain ⟨k, h1, h2⟩ := paired_at hi (by rw [Array.getElem?_toList]; exact e)
        exact ⟨k, h1, h2⟩
      · exact setM_new (Heap.get?_push_of_some _ b0)
      · intro s' mv hS
        obtain ⟨h', g2, d', tk', os'⟩ := s'
        obtain rfl : g2 = s.gens := mv.gens
        obtain rfl : d' = s.drawn := mv.drawn
        obtain rfl : os' = s.os := mv.os
        refine wpAny_pure (wpAny_pure ⟨rfl, h', tk', rfl, hS, fun b o e => ?_⟩)
        have lb : b < s.heap.objs.size := Heap.lt_size e
        refine mv.heap b o ?_ (Heap.get?_push_of_some _ (Heap.get?_push_of_some _ e))
        rw [c7]
        simp only [List.mem_cons, List.not_mem_nil, or_false, not_or]
        exact ⟨Nat.ne_of_lt lb, Nat.ne_of_lt (Nat.lt_succ_of_lt lb)⟩
    · match r, hr with
      | .error e, hr => exact hr
      | .ok .next, hr => exact hr.elim
      | .ok .brk, hr => exact hr.elim
      | .ok .cont, hr => exact hr.elim
      | .ok (.ret x), ⟨e1, h', tk, e2, hS, hk⟩ =>
        subst e1 e2
        repeat (any_goals (first | assumption | wp_step))
        exact h _ _ hS hk
end
def keyOf1 : D → Option Key
  | .int i => some (.inl i)
  | .str x => some (.inr x)
  | _ => none
def keysD : List D → Option (List Key)
  | [] => some []
  | d :: r => (keyOf1 d).bind fun k => (keysD r).map (k :: ·)
theorem keyOf1_some {d : D} {k : Key} (h : keyOf1 d = some k) : d = kD k := by
  cases d <;> first | (cases h; rfl) | cases h
theorem keysD_some : ∀ {ds : List D} {ks : List Key}, keysD ds = some ks → ds = ks.map kD
  | [], _, e => by cases e; rfl
  | d :: r, ks, e => by
    unfold keysD at e
    cases e1 : keyOf1 d with
    | none => rw [e1] at e; cases e
    | some k =>
      rw [e1, Option.bind_some] at e
      cases e2 : keysD r with
      | none => rw [e2] at e; cases e
      | some q =>
        rw [e2] at e
        cases e
        rw [keyOf1_some e1, keysD_some e2]
        rfl
section
variable {K : PySem.W.Frag} {G : Hp}
theorem den_key {v : V} {k : Key} (h : Den K G v (kD k)) : v = kV k := by
  cases k <;> (cases h; rfl)
theorem den_keys : ∀ {vs : List V} {ks : List Key}, DenAll K G vs (ks.map kD) → vs = ks.map kV
  | _, [], h => by cases h; rfl
  | _, k :: ks, h => by
    cases h with
    | cons h r => rw [den_key h, den_keys r]; rfl
theorem keys_paired : ∀ {ks : List Key} {us : List Value}, Vals (ks.map kV) us → Paired (fun k v => keyIs k v = true) ks us
  | [], _, h => by cases h; exact .nil
  | k :: ks, _, h => by
    cases h with
    | cons r t =>
      refine .cons ?_ (keys_paired t)
      cases k with
      | inl i => obtain ⟨u, rfl⟩ := r; exact keyIs_int i u
      | inr x => obtain ⟨u, rfl⟩ := r; exact keyIs_str x u
end
def tLenS (K : PySem.W.Frag) (ta : TE) : TE := fun σ H Q => ta σ H fun x H1 => ∃ (l : Addr) (ks : List Key), x = .ref l ∧ (SqL K H1 l (ks.map kV) ∨ SqT K H1 l (ks.map kV)) ∧ ks.length ≤ 1000 ∧ Q (.int ((distK ks).length : Nat)) H1
section
variable {X : Cx} {a : Expr} {ta : TE} {p p2 q pos : Pos}
theorem set_call {pins : List (Addr × Obj)} {σ : L2.St} {H : Hp} {s : Shared} {l : Addr} {ks : List Key} (hc : X.calm = true) (I : Inv X pins σ H s) (hq : SqL X.K H l (ks.map kV) ∨ SqT X.K H l (ks.map kV)) (hl : ks.length ≤ 1000) {A : Around} (hh : A.handled = none) {Q : Value → Shared → Prop} {E : Value → Shared → Prop}
    (h : ∀ (h' : Heap) (tk : Nat), SetM X.prog X.w h' s.heap.objs.size (distK ks) → (∀ b o, s.heap.get? b = some o → h'.get? b = some o) → Q (.ref s.heap.objs.size) { s with heap := h', toks := tk }) : wpAny (model X.prog X.w) A (call (.type "set") [.ref l]) Q E s := by
  have hb : ks.length + 1 < scanBound := by unfold scanBound; omega
  rcases hq with hq | hq
  · obtain ⟨its, r, pl, hz⟩ := I.list hq
    exact setM_ofList ks hh pl.isList (by simpa using keys_paired r) hb h
  · obtain ⟨its, r, pl, hz⟩ := I.tuple hq
    exact setM_ofTup ks hh pl (by simpa using keys_paired r) hb h
theorem pe_lenS (hg : Gl X "len") (hm : X.mg "len" = none) (hg2 : Gl X "set") (hm2 : X.mg "set" = none) (ha : PE X a ta) (hc : X.calm = true := by rfl)
    (na : starEach [a] X.env = (false, eval a X.env) :: starEach [] X.env := by rfl) : PE X (.Call (.Name "len" p) [.Call (.Name "set" p2) [a] [] q] [] pos) (tLenS X.K ta) := by
  refine ⟨fun pins s σ H Q I h => Call_ (ld_blt I hg hm boot_len (PyProof.Rows.callWith_builtin1 (PyProof.Rows.args_cons (Call_ (ld_blt I hg2 hm2 boot_set ?_)) rfl) rfl rfl))⟩
  refine PyProof.Rows.callWith_type1 (PyProof.Rows.args_cons (thn (ha.run pins s σ H _ I h) fun v s1 ⟨x, H1, I1, r1, q1⟩ => PyProof.Rows.args_nil ?_) na) na rfl
  obtain ⟨l, ks, rfl, hq, hl, q1⟩ := q1
  cases r1
  refine set_call hc I1 hq hl (I1.ok.hd hc) fun h' tk hS hk => PyProof.Rows.args_nil ?_
  obtain ⟨o, es, ep, t, ho, hx, hd, el, pm, nd, hb, hf, hr, hle⟩ := hS
  have sz := size_keys pm
  have d1 := distK_len _ ks rfl
  have I2 : Inv X pins σ H1 { s1 with heap := h', toks := tk } := I1.kept hk
  exact call_len_set ho hx hd hf (by rw [sz]; omega) ⟨.int ((distK ks).length : Nat), H1, I2.tok _, ⟨_, by rw [sz]⟩, q1⟩
end
theorem mem_distK {ks : List Key} {k : Key} : k ∈ distK ks ↔ k ∈ ks := by
  have go : ∀ (ks acc : List Key), k ∈ ks.foldl addK acc ↔ k ∈ acc ∨ k ∈ ks := by
    intro ks
    induction ks with
    | nil => intro acc; simp
    | cons j r ih =>
      intro acc
      rw [List.foldl_cons, ih]
      unfold addK
      split
      · rename_i h
        have h := hasK_iff.mp h
        rw [List.mem_cons]
        refine ⟨fun z => z.elim .inl fun z => .inr (.inr z), fun z => z.elim .inl fun z => z.elim (fun e => .inl (e ▸ h)) .inr⟩
      · simp only [List.mem_append, List.mem_cons, List.not_mem_nil, or_false, or_assoc]
  have := go ks []
  unfold distK
  rw [this]
  simp
section
variable {S : Type} {X : Cx} {a : Expr} {ga : DS S → Option D} {p p2 q pos : Pos}
def onKeys {α : Type} (x : D) (f : List Key → Option α) : Option α := match x with
  | .list ds => (keysD ds).bind f
  | .tuple ds => (keysD ds).bind f
  | _ => none
def lenSetD (x : D) : Option D := onKeys x fun ks => if ks.length ≤ 1000 then some (.int ((distK ks).length : Nat)) else none
theorem set_arg {K : PySem.W.Frag} {G H : Hp} {v : V} {x : D} {α : Type} {f : List Key → Option α} {y : α} (s : Same G H) (dv : Den K G v x) (e : onKeys x f = some y) :
    ∃ l ks, v = .ref l ∧ (SqL K H l (ks.map kV) ∨ SqT K H l (ks.map kV)) ∧ (∀ k ∈ ks, Den K G (kV k) (kD k)) ∧ f ks = some y := by
  have each : ∀ {ks : List Key}, DenAll K G (ks.map kV) (ks.map kD) → ∀ k ∈ ks, Den K G (kV k) (kD k) := by
    intro ks
    induction ks with
    | nil => intro _ k hk; cases hk
    | cons j r ih =>
      intro h k hk
      cases h with
      | cons h1 h2 =>
        rcases List.mem_cons.mp hk with z | z
        · rw [z]; exact h1
        · exact ih h2 k z
  cases dv with
  | @lst a vs ds q z r =>
    unfold onKeys at e
    dsimp only at e
    cases ek : keysD ds with
    | none => rw [ek] at e; cases e
    | some ks =>
      rw [ek, Option.bind_some] at e
      have e1 := keysD_some ek
      subst e1
      have e2 := den_keys r
      subst e2
      exact ⟨a, ks, rfl, .inl (SqL.of (s _ _ q)), each r, e⟩
  | @tup a vs ds q z r =>
    unfold onKeys at e
    dsimp only at e
    cases ek : keysD ds with
    | none => rw [ek] at e; cases e
    | some ks =>
      rw [ek, Option.bind_some] at e
      have e1 := keysD_some ek
      subst e1
      have e2 := den_keys r
      subst e2
      exact ⟨a, ks, rfl, .inr (sqt_mono s q.sq), each r, e⟩
  | _ => cases e
def gLenSet (ga : DS S → Option D) : DS S → Option D := fun ds => (ga ds).bind lenSetD
theorem ep_lenSet (hg : Gl X "len") (hm : X.mg "len" = none) (hg2 : Gl X "set") (hm2 : X.mg "set" = none) (ha : PE X a (tP X.K ga)) (hc : X.calm = true := by rfl)
    (na : starEach [a] X.env = (false, eval a X.env) :: starEach [] X.env := by rfl) : PE X (.Call (.Name "len" p) [.Call (.Name "set" p2) [a] [] q] [] pos) (tP X.K (gLenSet ga)) := PE.imp (pe_lenS hg hm hg2 hm2 ha hc na) fun σ H Q ⟨G, ds, d, s, w, e, k⟩ => by
  unfold gLenSet at e
  cases ea : ga ds with
  | none => rw [ea] at e; cases e
  | some x =>
    rw [ea, Option.bind_some] at e
    refine ⟨G, ds, x, s, w, ea, fun v G1 H1 g1 d1 => ?_⟩
    obtain ⟨l, ks, rfl, hq, _, ef⟩ := set_arg g1.sub d1 e
    by_cases hz : ks.length ≤ 1000
    · rw [if_pos hz] at ef
      cases ef
      exact ⟨l, ks, rfl, hq, hz, k _ G1 H1 g1 (.int _)⟩
    · rw [if_neg hz] at ef; cases ef
end
section
variable {S : Type} {X : Cx} {a b : Expr} {ga gb : DS S → Option D} {p p2 q pos : Pos}
end
section
variable {S : Type} {X : Cx} {R : StI S}
end
section
variable {S : Type} {X : Cx} {R : StI S}
end
def keyStr (e : DictEntry) : Str := match e.key with
  | .str x _ => x
  | _ => ""
structure TopKeys (K : PySem.W.Frag) (w : World) (mg : Str → Option Value) (x : Str) (ks : List Str) : Prop where
  ex : ∃ d es n, mg x = some (.ref d) ∧ KDict K w d es n ∧ es.toList.map keyStr = ks ∧ ks.Nodup
section
variable {S : Type} {X : Cx} {p q pos : Pos} {x : Str}
end
def mapK (kvs more : List (Key × V)) : List (Key × V) := more.foldl (fun m p => putK m p.1 p.2) kvs
theorem mapK_len : ∀ (more kvs : List (Key × V)), (mapK kvs more).length ≤ kvs.length + more.length
  | [], kvs => by show kvs.length ≤ _; omega
  | p :: r, kvs => by
    have h1 := mapK_len r (putK kvs p.1 p.2)
    have h2 := length_putK kvs p.1 p.2
    show (mapK (putK kvs p.1 p.2) r).length ≤ _
    rw [List.length_cons]
    omega
theorem mapK_kv : ∀ {more a : List (Key × V)} {ms b : List (Key × Value)}, KV a b → KV more ms → KV (mapK a more) (merged b ms)
  | [], _, [], _, r, .nil => r
  | p :: more, a, q :: ms, b, r, .cons h t => by
    have r1 : KV (putK a p.1 p.2) (stored b q.1 q.2) := by
      rw [← h.1]
      exact KV.put r p.1 h.2
    exact mapK_kv (more := more) (ms := ms) r1 t
inductive PV (K : PySem.W.Frag) (H : Hp) : List V → List (Key × V) → Prop
  | nil : PV K H [] []
  | cons {T : Addr} {k : Key} {v : V} {ys : List V} {kvs : List (Key × V)} : SqT K H T [kV k, v] → PV K H ys kvs → PV K H (.ref T :: ys) ((k, v) :: kvs)
theorem PV.len {K : PySem.W.Frag} {H : Hp} : ∀ {ys : List V} {kvs : List (Key × V)}, PV K H ys kvs → ys.length = kvs.length
  | _, _, .nil => rfl
  | _, _, .cons _ r => congrArg (· + 1) r.len
section
variable {X : Cx} {pins : List (Addr × Obj)} {σ : L2.St} {H : Hp} {s : Shared}
def PairsAre (P : Program) (w : World) (h : Heap) (kvs : List (Key × V)) (its : List Value) : Prop := ∃ (Es : List (Addr × Value × Value)) (vs : List (Key × Value)),
    its = Es.map (fun e => .ref e.1) ∧ (∀ e ∈ Es, PairAt h e.1 e.2.1 e.2.2) ∧ KV kvs vs ∧ vs.length = Es.length ∧ ∀ (i : Nat) (e : Addr × Value × Value), Es[i]? = some e → ∃ k, vs[i]? = some (k, e.2.2) ∧ (mixKind P w).is k e.2.1 = true
theorem pairs_cons {P : Program} {w : World} {h : Heap} {kvs : List (Key × V)} {its : List Value} {T : Addr} {a b : Value} {k : Key} {v : V} (pa : PairAt h T a b) (ra : RelV (kV k) a) (rb : RelV v b) (r : PairsAre P w h kvs its) : PairsAre P w h ((k, v) :: kvs) (.ref T :: its) := by
  obtain ⟨Es, vs, h1, h2, h3, h4, h5⟩ := r
  refine ⟨(T, a, b) :: Es, (k, b) :: vs, by rw [h1]; rfl, fun e he => ?_, .cons ⟨rfl, rb⟩ h3, by rw [List.length_cons, List.length_cons, h4], fun i e he => ?_⟩
  · rcases List.mem_cons.mp he with z | z
    · rw [z]; exact pa
    · exact h2 e z
  · cases i with
    | zero => cases he; exact ⟨k, rfl, kV_is ra⟩
    | succ i => exact h5 i e (by simpa using he)
theorem two_vals {x y : V} {us : List Value} (r : Vals [x, y] us) : ∃ a b, us = [a, b] ∧ RelV x a ∧ RelV y b := by
  cases r with
  | cons r1 r2 =>
    cases r2 with
    | cons r3 r4 =>
      cases r4
      exact ⟨_, _, rfl, r1, r3⟩
theorem pv_items (I : Inv X pins σ H s) {ys : List V} {kvs : List (Key × V)} (pv : PV X.K H ys kvs) : ∀ {its : List Value}, Vals ys its → PairsAre X.prog X.w s.heap kvs its := by
  induction pv with
  | nil =>
    intro its rv
    cases rv
    exact ⟨[], [], rfl, (fun e h => by cases h), .nil, rfl, fun i e h => by cases h⟩
  | cons q r ih =>
    intro its rv
    cases rv with
    | cons ru rv =>
      rename_i T k v ys' kvs' u its'
      have eu : u = Value.ref T := ru
      subst eu
      obtain ⟨us, r2, p, _⟩ := I.tuple q
      obtain ⟨a, b, rfl, ra, rb⟩ := two_vals r2
      exact pairs_cons (.inl p) ra rb (ih rv)
theorem call_dictD (hc : X.calm = true) : CallR X (.type "dict") (fun xs H Q => ∃ p ys kvs, xs = [.ref p] ∧ (SqL X.K H p ys ∨ PqT X.K H p ys) ∧ PV X.K H ys kvs ∧ ∀ l, H l = none → Q (.ref l) (upd H l (.dK (mapK [] kvs)))) := by
  rintro pins s σ H xs us Q I r ⟨p, ys, kvs, rfl, hq, pv, q⟩
  obtain ⟨u, rfl, rx⟩ := vals1 r
  obtain rfl : u = Value.ref p := rx
  have fin : ∀ {its : List Value} {T : String}, Vals ys its → ys.length ≤ sizeLine → (∀ (Ts : Nat → Addr) (ps : List (Value × Value)), PairItems s.heap its.toArray Ts ps → ∃ OK : Heap → Prop, PairArg X.prog X.w T p (p :: (List.range ps.length).map Ts) [] ps.length (PairRel ps) OK ∧ OK s.heap) →
      wpAny (model X.prog X.w) X.A (call (.type "dict") [.ref p]) (EP X pins σ Q) X.xe s := by
    intro its T rv hz mk
    obtain ⟨Es, vs, h1, h2, h3, h4, h5⟩ := pv_items I pv rv
    have ln : (Es.map (·.2)).length = Es.length := List.length_map _
    have el : Es.length = ys.length := by
      have e := rv.length
      rw [h1, List.length_map] at e
      exact e.symm
    obtain ⟨OK, P, ok⟩ := mk (fun j => (Es[j]?.map (·.1)).getD 0) (Es.map (·.2)) ⟨by rw [h1, List.size_toArray, List.length_map, List.length_map], fun j k v hj => by
      rw [List.getElem?_map] at hj
      cases ej : Es[j]? with
      | none => rw [ej] at hj; cases hj
      | some e =>
        rw [ej] at hj
        simp only [Option.map_some, Option.some.injEq] at hj
        have pa := h2 e (List.mem_of_getElem? ej)
        rw [hj] at pa
        have ts : (fun j : Nat => (Es[j]?.map (·.1)).getD 0) j = e.1 := by dsimp only; rw [ej]; rfl
        rw [ts]
        refine ⟨?_, pa⟩
        rw [h1, List.getElem?_toArray, List.getElem?_map, ej]
        rfl⟩
    refine call_dict_pairs (knd := mixKind X.prog X.w) (kvs := vs) P (I.ok.hd hc) ok ⟨by rw [h4, ln], fun i key v hr => ?_⟩ (by rw [ln, el]; exact hz) fun h' tk dd keep => ?_
    · have hr' : (Es.map (·.2))[i]? = some (key, v) := hr
      rw [List.getElem?_map] at hr'
      cases ei : Es[i]? with
      | none => rw [ei] at hr'; cases hr'
      | some e =>
        rw [ei] at hr'
        simp only [Option.map_some, Option.some.injEq] at hr'
        obtain ⟨k, g1, g2⟩ := h5 i e ei
        rw [hr'] at g1 g2
        exact ⟨k, g1, g2⟩
    · have big := I.big
      have pl := pv.len
      have ml := mapK_len kvs []
      have ez : kvs.length ≤ sizeLine := pl ▸ hz
      have new : ObjOk X.prog X.w (upd H s.heap.objs.size (.dK (mapK [] kvs))) h' s.heap.objs.size (.dK (mapK [] kvs)) := dk_new (by rw [List.length_nil, Nat.zero_add] at ml; exact Nat.le_trans ml ez) (beq_eq_false_iff_ne.mpr (Ne.symm (Nat.ne_of_lt big))) (mapK_kv .nil h3) dd
      exact ⟨.ref s.heap.objs.size, _, I.laid (t' := tk) (fun b o e => keep b o (fun z => by cases z) e) (Nat.le_refl _) new, rfl, q _ (I.hok.fresh (Nat.le_refl _))⟩
  rcases hq with hq | hq
  · obtain ⟨its, rv, ⟨o, n, a1, a2, a3, a4⟩, hz⟩ := I.list hq
    exact fin rv hz fun Ts ps pi => ⟨_, PairArg.list p its.toArray Ts ps, ⟨o, n, a1, a2, a3, a4⟩, pi⟩
  · rcases hq with ⟨o, e, d⟩ | ⟨o, its, n, e, c, d, dt, z, rv⟩
    · obtain ⟨a1, hz, its, rv, o2, b1, b2, n, b3⟩ := (show ObjOk X.prog X.w H s.heap p (.frz o (.tup ys)) from I.hok p _ e)
      have : o = o2 := Option.some.inj (a1.symm.trans b1)
      subst this
      exact fin rv hz fun Ts ps pi => ⟨_, PairArg.tuple p its.toArray Ts ps, ⟨o, n, a1, b2, d, b3⟩, pi⟩
    · refine fin rv (by have e : ys.length = its.toList.length := rv.length; rw [e, Array.length_toList]; exact z) fun Ts ps pi => ⟨_, PairArg.tuple p its.toList.toArray Ts ps, ⟨o, n, I.kIn p o e, c, d, by simpa using dt⟩, pi⟩
end
def lookD (kvs : List (Key × D)) (k : Key) : Option D := (kvs.find? fun p => decide (p.1 = k)).map (·.2)
def putD (kvs : List (Key × D)) (k : Key) (d : D) : List (Key × D) := if (kvs.any fun p => decide (p.1 = k)) = true then kvs.map (fun p => if p.1 = k then (p.1, d) else p) else kvs ++ [(k, d)]
def mapD (kvs more : List (Key × D)) : List (Key × D) := more.foldl (fun m p => putD m p.1 p.2) kvs
def pairsD : List D → Option (List (Key × D))
  | [] => some []
  | .tuple [x, y] :: r => (keyOf1 x).bind fun k => (pairsD r).map ((k, y) :: ·)
  | _ => none
def dictD : D → Option (List (Key × D))
  | .list ds => (pairsD ds).map (mapD [])
  | .tuple ds => (pairsD ds).map (mapD [])
  | _ => none
section
variable {K : PySem.W.Frag} {G : Hp}
theorem KVsD.any {xs : List (Key × V)} {kvs : List (Key × D)} (h : KVsD K G xs kvs) (k : Key) : (xs.any fun p => decide (p.1 = k)) = kvs.any fun p => decide (p.1 = k) := by
  induction h with
  | nil => rfl
  | cons _ _ _ ih => rw [List.any_cons, List.any_cons, ih]
theorem KVsD.app {xs ys : List (Key × V)} {kvs ms : List (Key × D)} (h : KVsD K G xs kvs) (h2 : KVsD K G ys ms) : KVsD K G (xs ++ ys) (kvs ++ ms) := by
  induction h with
  | nil => exact h2
  | cons a b _ ih => exact .cons a b ih
theorem KVsD.put {xs : List (Key × V)} {kvs : List (Key × D)} (h : KVsD K G xs kvs) {k : Key} {v : V} {d : D} (hk : Den K G (kV k) (kD k)) (hv : Den K G v d) : KVsD K G (putK xs k v) (putD kvs k d) := by
  unfold putK putD
  rw [h.any k]
  by_cases z : (kvs.any fun p => decide (p.1 = k)) = true
  · rw [if_pos z, if_pos z]
    clear z
    induction h with
    | nil => exact .nil
    | cons a b _ ih =>
      rename_i k' v' d' r s _
      rw [List.map_cons, List.map_cons]
      by_cases e : k' = k
      · rw [if_pos e, if_pos e]; exact .cons a hv ih
      · rw [if_neg e, if_neg e]; exact .cons a b ih
  · rw [if_neg z, if_neg z]
    exact h.app (.cons hk hv .nil)
theorem KVsD.map {more : List (Key × V)} {ms : List (Key × D)} (h2 : KVsD K G more ms) : ∀ {xs : List (Key × V)} {kvs : List (Key × D)}, KVsD K G xs kvs → KVsD K G (mapK xs more) (mapD kvs ms) := by
  induction h2 with
  | nil => intro xs kvs h; exact h
  | cons a b _ ih => intro xs kvs h; exact ih (h.put a b)
theorem KVsD.look {xs : List (Key × V)} {kvs : List (Key × D)} (h : KVsD K G xs kvs) (k : Key) : (∃ v d, valV xs k = some v ∧ lookD kvs k = some d ∧ Den K G v d) ∨ (valV xs k = none ∧ lookD kvs k = none) := by
  induction h with
  | nil => exact .inr ⟨rfl, rfl⟩
  | cons a b _ ih =>
    rename_i k' v' d' r s _
    by_cases e : k' = k
    · exact .inl ⟨v', d', valV_pos e, by unfold lookD; rw [List.find?_cons, decide_eq_true e]; rfl, b⟩
    · have e2 : lookD ((k', d') :: s) k = lookD s k := by unfold lookD; rw [List.find?_cons, decide_eq_false e]
      rw [valV_neg e, e2]
      exact ih
theorem den_key1 {v : V} {x : D} {k : Key} (h : Den K G v x) (e : keyOf1 x = some k) : v = kV k ∧ Den K G (kV k) (kD k) := by
  cases h with
  | int i => cases e; exact ⟨rfl, .int i⟩
  | str x z o => cases e; exact ⟨rfl, .str x z o⟩
  | _ => cases e
theorem pairsD_cons {x y : D} {ds : List D} {ms : List (Key × D)} (e : pairsD (.tuple [x, y] :: ds) = some ms) : ∃ k ms2, keyOf1 x = some k ∧ pairsD ds = some ms2 ∧ ms = (k, y) :: ms2 := by
  unfold pairsD at e
  cases ek : keyOf1 x with
  | none => rw [ek] at e; cases e
  | some k =>
    rw [ek, Option.bind_some] at e
    cases ep : pairsD ds with
    | none => rw [ep] at e; cases e
    | some ms2 => rw [ep] at e; cases e; exact ⟨k, ms2, rfl, rfl, rfl⟩
theorem pairs_pv {H : Hp} (s : Same G H) : ∀ {ds : List D} {ms : List (Key × D)} {vs : List V}, pairsD ds = some ms → DenAll K G vs ds → ∃ kvs, PV K H vs kvs ∧ KVsD K G kvs ms := by
  intro ds
  induction ds with
  | nil =>
    intro ms vs e r
    cases r
    cases e
    exact ⟨[], .nil, .nil⟩
  | cons d ds ih =>
    intro ms vs e r
    cases r with
    | cons h r =>
      cases h with
      | tup q z r2 =>
        cases r2 with
        | nil => cases e
        | cons a1 r2 =>
          cases r2 with
          | nil => cases e
          | cons a2 r2 =>
            cases r2 with
            | cons _ _ => cases e
            | nil =>
              obtain ⟨k, ms2, ek, ep, rfl⟩ := pairsD_cons e
              obtain ⟨kvs, p1, p2⟩ := ih ep r
              obtain ⟨ev, dk⟩ := den_key1 a1 ek
              subst ev
              exact ⟨_, .cons (sqt_mono s q.sq) p1, .cons dk a2 p2⟩
      | _ => cases e
theorem dict_arg {H : Hp} (s : Same G H) {v : V} {x : D} {ms : List (Key × D)} (h : Den K G v x) (e : dictD x = some ms) : ∃ p ys kvs, v = .ref p ∧ (SqL K H p ys ∨ PqT K H p ys) ∧ PV K H ys kvs ∧ KVsD K G (mapK [] kvs) ms ∧ (mapK [] kvs).length ≤ sizeLine := by
  have go : ∀ {vs : List V} {ds : List D}, DenAll K G vs ds → vs.length ≤ sizeLine → (pairsD ds).map (mapD []) = some ms → ∃ kvs, PV K H vs kvs ∧ KVsD K G (mapK [] kvs) ms ∧ (mapK [] kvs).length ≤ sizeLine := by
    intro vs ds r z e
    cases ep : pairsD ds with
    | none => rw [ep] at e; cases e
    | some m =>
      rw [ep] at e
      cases e
      obtain ⟨kvs, p1, p2⟩ := pairs_pv s ep r
      refine ⟨kvs, p1, p2.map .nil, ?_⟩
      have := mapK_len kvs []
      have l := p1.len
      rw [List.length_nil, Nat.zero_add, ← l] at this
      exact Nat.le_trans this z
  cases h with
  | lst q z r =>
    obtain ⟨kvs, h1, h2, h3⟩ := go r z e
    exact ⟨_, _, kvs, rfl, .inl (SqL.of (s _ _ q)), h1, h2, h3⟩
  | tup q z r =>
    obtain ⟨kvs, h1, h2, h3⟩ := go r z e
    exact ⟨_, _, kvs, rfl, .inr (q.keep fun o e => s _ _ e), h1, h2, h3⟩
  | _ => cases e
end
section
variable {S : Type} {X : Cx} {R : StI S} {a o i e : Expr} {j : Nat} {p pos pos2 : Pos} {pn : List Nat}
def dicKs (ds : DS S) (j : Nat) : Option (List (Key × D)) := match ds[j]? with
  | some (some (.dic kvs)) => some kvs
  | _ => none
theorem dicKs_some {ds : DS S} {j : Nat} {kvs : List (Key × D)} (h : dicKs ds j = some kvs) : ds[j]? = some (some (.dic kvs)) := by
  unfold dicKs at h
  split at h
  · rename_i e; cases h; exact e
  · cases h
def dicLs (ds : DS S) (j : Nat) : Option (List (Key × D)) := match ds[j]? with
  | some (some (.dic kvs)) => some kvs
  | some (some (.lk kvs)) => some kvs
  | _ => none
theorem dicLs_view {K : PySem.W.Frag} {G : Hp} {σ : L2.St} {ds : DS S} {j : Nat} {kvs : List (Key × D)} (w : View K G σ ds) (h : dicLs ds j = some kvs) : ∃ v, σ[j]? = some (some v) ∧ ∃ a xs, v = .ref a ∧ Rd G a (.dK xs) ∧ KVsD K G xs kvs := by
  unfold dicLs at h
  split at h
  · rename_i e
    cases h
    obtain ⟨v, hv, a, xs, e0, q, r⟩ := w.has j _ e
    exact ⟨v, hv, a, xs, e0, .inl q, r⟩
  · rename_i e
    cases h
    obtain ⟨v, hv, a, o, xs, e0, q, _, r⟩ := w.has j _ e
    exact ⟨v, hv, a, xs, e0, .inr ⟨o, q⟩, r⟩
  · cases h
def oDict (f : XF S D) : XF S (MO S) := xb f fun x => xlift ((dictD x).map .dic)
theorem eo_dict {f : XF S D} (hg : Gl X "dict") (hm : X.mg "dict" = none) (ha : PE X a (tX X.K R f)) (hc : X.calm = true := by rfl)
    (hs : starEach [a] X.env = (false, eval a X.env) :: starEach [] X.env := by rfl) (hpl : (backTo pos (starEach ([] : List Expr) X.env)).any (·.1) = false := by rfl) : PE X (.Call (.Name "dict" p) [a] [] pos) (tO X.K R (oDict f)) :=
  PE.imp (pe_callTy (call_dictD hc) hg hm PyProof.Rows.boot_dict (ax_cons ha ax_nil hs) (by decide) (by decide) hs hpl) fun σ H Q ⟨G, F, ds, m, ds', r, e, k⟩ => by
    obtain ⟨x, ds1, ea, e⟩ := xb_some e
    obtain ⟨eg, e9⟩ := xlift_some e
    subst e9
    cases ed : dictD x with
    | none => rw [ed] at eg; cases eg
    | some ms =>
      rw [ed] at eg
      cases eg
      refine ⟨G, F, ds, [x], ds', r, by unfold xCons xb; rw [ea]; rfl, fun vs G1 H1 F1 r1 s1 d1 => ?_⟩
      cases d1 with
      | cons d1 d2 =>
        cases d2
        obtain ⟨q, ys, kvs, rfl, h1, h2, h3, h4⟩ := dict_arg r1.sub d1 ed
        refine ⟨q, ys, kvs, rfl, h1, h2, fun l hl => ?_⟩
        have g0 := Gr.own (o := .dK (mapK [] kvs)) r1.sub hl
        exact k (.ref l) G1 _ F1 (fun b => b = l) (r1.grow g0) (s1.trans ((g0.step (P := fun b => ∃ i, F1 i b)).add fun b z => by rw [z]; exact hl)) ⟨l, _, rfl, upd_same, h4, h3, fun b => Iff.rfl⟩ (fun b hb ⟨i, z⟩ => r1.trk i b z (by rw [hb]; exact hl)) fun b hb => by rw [hb]; exact r1.sub.free hl
def oDictNew : XF S (MO S) := fun ds => some (.dic [], ds)
theorem eo_dictNew : PE X (.Dict [] [] pos) (tO X.K R (oDictNew (S := S))) := PE.imp pe_dnewK fun σ H Q ⟨G, F, ds, m, ds', r, e, k⟩ p hp => by
  cases e
  have g0 := Gr.own (o := .dK []) r.sub hp
  exact k (.ref p) G _ F (fun b => b = p) (r.grow g0) ((g0.step (P := fun b => ∃ i, F i b)).add fun b z => by rw [z]; exact hp) ⟨p, [], rfl, upd_same, Nat.zero_le _, .nil, fun b => Iff.rfl⟩ (fun b hb ⟨i, z⟩ => r.trk i b z (by rw [hb]; exact hp)) fun b hb => by rw [hb]; exact r.sub.free hp
def gDLook (j : Nat) (g : DS S → Option D) : DS S → Option (Option D) := fun ds => (dicLs ds j).bind fun kvs => (g ds).bind fun x => (keyOf1 x).map fun k => lookD kvs k
def gDGet (j : Nat) (g : DS S → Option D) : DS S → Option D := fun ds => (gDLook j g ds).bind id
def gDIn (b : Bool) (j : Nat) (g : DS S → Option D) : DS S → Option D := fun ds => (gDLook j g ds).map fun o => .bool (if b then o.isSome else !o.isSome)
theorem dlook {K : PySem.W.Frag} {j : Nat} {g : DS S → Option D} {ds : DS S} {o : Option D} (h : gDLook j g ds = some o) : ∃ kvs x k, dicLs ds j = some kvs ∧ g ds = some x ∧ keyOf1 x = some k ∧ o = lookD kvs k := by
  unfold gDLook at h
  cases e1 : dicLs ds j with
  | none => rw [e1] at h; cases h
  | some kvs =>
    rw [e1, Option.bind_some] at h
    cases e2 : g ds with
    | none => rw [e2] at h; cases h
    | some x =>
      rw [e2, Option.bind_some] at h
      cases e3 : keyOf1 x with
      | none => rw [e3] at h; cases h
      | some k => rw [e3] at h; cases h; exact ⟨kvs, x, k, rfl, rfl, e3, rfl⟩
theorem dget_of {K : PySem.W.Frag} {G1 H1 : Hp} {a : Addr} {xs : List (Key × V)} {kvs : List (Key × D)} {y : V} {x : D} {k : Key} (q : Rd H1 a (.dK xs)) (r : KVsD K G1 xs kvs) (h : Den K G1 y x) (e : keyOf1 x = some k) : ∃ o, DGet H1 a y o ∧ o.isSome = (lookD kvs k).isSome ∧ ∀ d, lookD kvs k = some d → ∃ v, o = some v ∧ Den K G1 v d := by
  obtain ⟨rfl, _⟩ := den_key1 h e
  rcases r.look k with ⟨v, d, h1, h2, h3⟩ | ⟨h1, h2⟩
  · refine ⟨some v, by rw [← h1]; exact .inl ⟨xs, k, q, rfl, rfl⟩, by rw [h2]; rfl, fun d' z => ?_⟩
    rw [h2] at z
    cases z
    exact ⟨v, rfl, h3⟩
  · refine ⟨none, by rw [← h1]; exact .inl ⟨xs, k, q, rfl, rfl⟩, by rw [h2]; rfl, fun d' z => ?_⟩
    rw [h2] at z
    cases z
theorem ep_dget {g : DS S → Option D} (hu : X.A.units + 1 < cLine) (ho : PE X o (tVar j)) (hi : PE X i (tP X.K g)) (hs : NoSl i) : PE X (.Subscript o i pos) (tP X.K (gDGet j g)) :=
  PE.imp (pe_dget hu ho hi hs) fun σ H Q ⟨G, ds, d, s, w, e, k⟩ => by
    unfold gDGet at e
    cases el : gDLook j g ds with
    | none => rw [el] at e; cases e
    | some od =>
      rw [el] at e
      have e : od = some d := e
      obtain ⟨kvs, x, kk, h1, h2, h3, h4⟩ := dlook (K := X.K) el
      obtain ⟨v, hv, a, xs, rfl, q, r⟩ := dicLs_view w h1
      refine ⟨_, hv, G, ds, x, s, w, h2, fun y G1 H1 g1 d1 => ?_⟩
      obtain ⟨o, p1, _, p3⟩ := dget_of (rd_mono g1.sub (rd_mono g1.keep q)) (r.mono g1.keep) d1 h3
      obtain ⟨v, rfl, dv⟩ := p3 d (by rw [← h4, e])
      exact ⟨a, v, rfl, p1, k v G1 H1 g1 dv⟩
theorem p_din {b : Bool} {g : DS S → Option D} {σ : L2.St} {H : Hp} {Q : VK} (h : tP X.K (gDIn b j g) σ H Q) : (fun σ H Q => tP X.K g σ H fun y H1 => tVar j σ H1 fun x H2 => ∃ a o, x = V.ref a ∧ DGet H2 a y o ∧ Q (.bl (if b then o.isSome else !o.isSome)) H2 : TE) σ H Q := by
  obtain ⟨G, ds, d, s, w, e, k⟩ := h
  unfold gDIn at e
  cases el : gDLook j g ds with
  | none => rw [el] at e; cases e
  | some od =>
    rw [el] at e
    cases e
    obtain ⟨kvs, x, kk, h1, h2, h3, h4⟩ := dlook (K := X.K) el
    refine ⟨G, ds, x, s, w, h2, fun y G1 H1 g1 d1 => ?_⟩
    obtain ⟨v, hv, a, xs, rfl, q, r⟩ := dicLs_view w h1
    obtain ⟨o, p1, p2, _⟩ := dget_of (rd_mono g1.sub (rd_mono g1.keep q)) (r.mono g1.keep) d1 h3
    refine ⟨_, hv, a, o, rfl, p1, ?_⟩
    rw [p2, ← h4]
    exact k _ G1 H1 g1 (.bl _)
theorem t_din {b : Bool} {g : DS S → Option D} {σ : L2.St} {H : Hp} {Q : Bool → Hp → Prop} (h : tPT X.K (gB (gDIn b j g)) σ H Q) : tP X.K (gDIn b j g) σ H fun v H1 => ∃ c, v = .bl c ∧ Q c H1 := by
  obtain ⟨G, ds, c, s, w, e, k⟩ := h
  unfold gB at e
  split at e
  · cases e
    rename_i eg
    refine ⟨G, ds, _, s, w, eg, fun v G1 H1 g1 d1 => ?_⟩
    cases d1
    exact ⟨_, rfl, k G1 H1 g1⟩
  · cases e
theorem tp_dnin {g : DS S → Option D} (hu : X.A.units + 1 < cLine) (hi : PE X i (tP X.K g)) (ho : PE X o (tVar j)) (hm : behindInMarks .NotIn o = false := by rfl) : PT X (.Compare i [.NotIn] [o] pos) (tPT X.K (gB (gDIn false j g))) :=
  PT.imp (pt_cmp (pc_dnotin hu hi ho) hm) fun _ _ _ h => p_din (t_din h)
end
section
variable {S : Type} {K : PySem.W.Frag} {R : StI S} {ds : DS S} {σ : L2.St} {G H : Hp} {F : Nat → Addr → Prop}
theorem RS.putM (r : RS K R ds σ G H F) {i : Nat} {m m' : MO S} {v : V} {q : Addr} {o : HO} (e : ds[i]? = some (some m)) (hv : σ[i]? = some (some v)) (hq : F i q) (rel : OwnAt K R G (upd H q o) v m' (F i)) :
    RS K R (ds.set i (some m')) σ G (upd H q o) F ∧ Step G H (fun a => ∃ j, F j a) G (upd H q o) (fun a => ∃ j, F j a) := by
  obtain ⟨hi, _⟩ := List.getElem?_eq_some_iff.mp e
  have hg := r.dis i q hq
  have sub : Same G (upd H q o) := by
    intro b u z
    rw [upd_ne (ne_of_none z hg)]
    exact r.sub b u z
  constructor
  · refine ⟨sub, by rw [List.length_set]; exact r.len, ?_, ?_, r.dj, r.dis⟩
    · intro j n z
      by_cases hj : i = j
      · subst hj
        rw [List.getElem?_set_self hi] at z
        cases z
        exact ⟨v, hv, rel⟩
      · rw [List.getElem?_set_ne hj] at z
        obtain ⟨u, h1, h2⟩ := r.own j n z
        refine ⟨u, h1, h2.mono (Same.refl _) fun a ha => upd_ne fun y => ?_⟩
        rw [y] at ha
        exact hj (r.dj i j q hq ha)
    · intro j z
      by_cases hj : i = j
      · subst hj
        exact absurd (List.getElem?_set_self hi) (z m')
      · rw [List.getElem?_set_ne hj] at z
        exact r.emp j z
  · refine ⟨?_, Same.refl _, sub, fun b hb => .inl hb, fun b hb => .inl hb⟩
    intro a ha u z
    rw [upd_ne fun y => ha ⟨i, by rw [y]; exact hq⟩]
    exact z
end
section
variable {S : Type} {X : Cx} {R : StI S} {o i e : Expr} {j : Nat} {pos pos2 : Pos} {pn : List Nat}
def gDPut (j : Nat) (f : XF S D) (g : DS S → Option D) : SF S := fun ds => (f ds).bind fun p => (dicKs p.2 j).bind fun kvs => (g (hideDS p.2)).bind fun x => (keyOf1 x).bind fun k => if kvs.length < sizeLine then some (.nx (p.2.set j (some (.dic (putD kvs k p.1))))) else none
theorem ss_dput {f : XF S D} {g : DS S → Option D} (hu : X.A.units + 1 < cLine) (ho : PE X o (tVar j)) (hi : PE X i (tP X.K g)) (hv : PE X e (tX X.K R f)) (hs : swapsWith e (some (.Subscript o i pos2)) pos.line X.env = pure false) :
    PS X (.Assign [.Subscript o i pos2] e pos) (tS X.K R pn (gDPut j f g)) := psi (ps_dput hu ho hi hv hs) fun Dn σ H ⟨G, F, ds, oo, r, e, k⟩ => by
  unfold gDPut at e
  cases ef : f ds with
  | none => rw [ef] at e; cases e
  | some p =>
    rw [ef, Option.bind_some] at e
    obtain ⟨d, ds1⟩ := p
    dsimp only at e
    cases ed : dicKs ds1 j with
    | none => rw [ed] at e; cases e
    | some kvs =>
      rw [ed, Option.bind_some] at e
      cases eg : g (hideDS ds1) with
      | none => rw [eg] at e; cases e
      | some x =>
        rw [eg, Option.bind_some] at e
        cases ek : keyOf1 x with
        | none => rw [ek] at e; cases e
        | some kk =>
          rw [ek, Option.bind_some] at e
          split at e
          · rename_i hz
            cases e
            refine ⟨G, F, ds, d, ds1, r, ef, fun v G1 H1 F1 r1 s1 d1 => ?_⟩
            obtain ⟨w, hw, a, xs, rfl, h1, h2, h3, hf⟩ := r1.own j _ (dicKs_some ed)
            refine ⟨_, hw, G1, hideDS ds1, x, r1.sub, r1.view, eg, fun u G2 H2 g2 d2 => ?_⟩
            have r2 := r1.grow g2
            have q1 := g2.all _ _ h1
            obtain ⟨rfl, dk⟩ := den_key1 d2 ek
            have xl : xs.length < sizeLine := by rw [h3.length]; exact hz
            have hdp : DPut H2 a (kV kk) v (upd H2 a (.dK (putK xs kk v))) := DPut.k q1 xl
            obtain ⟨r3, s3⟩ := r2.putM (m' := .dic (putD kvs kk d)) (o := .dK (putK xs kk v)) (dicKs_some ed) hw ((hf a).mpr rfl) ⟨a, _, rfl, upd_same, Nat.le_trans (length_putK xs kk v) xl, (h3.mono g2.keep).put dk (d1.mono g2.keep), hf⟩
            exact ⟨a, _, rfl, hdp, k σ G2 _ F1 r3 ((s1.trans g2.step).trans s3) fun _ _ => rfl⟩
          · cases e
end
section
variable {S : Type} {X : Cx} {R : StI S} {a b e : Expr} {j : Nat} {p pos : Pos} {pn : List Nat}
def xIxL (j : Nat) (f : XF S D) : XF S D := fun ds => (lstAt ds j).bind fun _ => (f ds).bind fun q => (lstAt q.2 j).bind fun xs => match q.1 with
  | .int i => (atI xs i).map fun d => (d, q.2)
  | _ => none
end
section
variable {S : Type} {X : Cx} {tg a b c : Expr} {g1 : DS S → Option (List D)} {p pos : Pos}
end
def putF (ob : Addr → Obj) : Hp → List Addr → List (Key × V) → Hp
  | H, a :: l, q :: m => putF ob (upd H a (.frz (ob a) (.tup [kV q.1, q.2]))) l m
  | H, _, _ => H
section
variable {ob : Addr → Obj}
end
section
variable {X : Cx} {e : Expr} {te : TE} {p ap cp pos : Pos}
end
section
variable {S : Type} {X : Cx} {R : StI S} {e : Expr} {j : Nat} {p ap cp pos : Pos}
def encKV (q : Key × D) : D := .tuple [kD q.1, q.2]
def oDItems (j : Nat) : XF S (MO S) := fun ds => (dicKs ds j).bind fun kvs => if kvs.length ≤ sizeLine then some (.lst (kvs.map encKV), ds) else none
end
structure TopTup (K : PySem.W.Frag) (mg : Str → Option Value) (x : Str) (ks : List Str) : Prop where
  ex : ∃ (a : Addr) (o : Obj) (its : Array Value) (n : Nat), mg x = some (.ref a) ∧ K.lookup a = some o ∧ o.cls = .type "tuple" ∧ o.dict = none ∧ o.data = .seq its n ∧ Vals (ks.map V.str) its.toList
theorem den_strsK {K : PySem.W.Frag} {G : Hp} : ∀ {l : List Str}, (∀ k ∈ l, k.length ≤ sizeLine ∧ PyData.strOk k = true) → DenAll K G (l.map V.str) (l.map PyData.str)
  | [], _ => .nil
  | y :: r, h => .cons (.str y (h y List.mem_cons_self).1 (h y List.mem_cons_self).2) (den_strsK fun z hz => h z (List.mem_cons_of_mem _ hz))
section
variable {S : Type} {X : Cx} {pos : Pos}
theorem ep_globT {x : Str} {ks : List Str} (hg : Gl X x) (T : TopTup X.K X.mg x ks) (ok : ∀ k ∈ ks, k.length ≤ sizeLine ∧ PyData.strOk k = true) (hz : ks.length ≤ 1000) (hd : (x == ("__debug__" : Str)) = false := by decide) : PE X (.Name x pos) (tP X.K (gC (S := S) (.tuple (ks.map .str)))) := by
  obtain ⟨a, o, its, n, hm, h1, h2, h3, h4, h5⟩ := T.ex
  have sz : (1000 : Nat) ≤ sizeLine := by decide
  have l1 : its.size ≤ sizeLine := by
    have e1 : its.toList.length = ks.length := by rw [← h5.length, List.length_map]
    have e2 : its.size = its.toList.length := by simp
    omega
  exact ep_glob hg hm (v := .ref a) rfl (fun G => .tup (.inr ⟨o, its, n, h1, h2, h3, h4, l1, h5⟩) (by rw [List.length_map]; omega) (den_strsK ok)) hd
end
section
variable {S : Type} {X : Cx} {o e : Expr} {apos cpos : Pos}
end
def wKeep (K : PySem.W.Frag) (c : Value) (i : Nat) (ts tr : Addr → Value → Option Addr → TS) (D : Ends) : WX := fun cls d σ H =>
  PySem.W.exmOne K cls c = some true ∧ ∀ a, H a = none → ts a cls d ⟨fun σ1 H1 => H1 a = none → tr a cls d D (σ1.set i none) H1, D.rt, fun σ1 H1 => D.bk (σ1.set i none) H1, fun σ1 H1 => D.ct (σ1.set i none) H1⟩ (σ.set i (some (.ref a))) H
def tTryK (K : PySem.W.Frag) (c : Value) (i : Nat) (tb : WX → TS) (ts tr : Addr → Value → Option Addr → TS) (t0 : TS) : TS := fun D σ H => tb (wKeep K c i ts tr D) { D with nx := t0 D } σ H
section
variable {X : Cx} {x n : Str} {c : Value} {i : Nat} {body suite rest : List Stmt} {b0 : Stmt} {np pos pos' : Pos} {tb : WX → TS} {ts tr : Addr → Value → Option Addr → TS} {t0 : TS}
theorem inv_tr {a : Addr} {q : Addr × Obj} {l : List (Addr × Obj)} {σ : L2.St} {H : Hp} {s : Shared} (ok : X.Ok) (I : Inv (X.suite a (q :: l)) [] σ H s) : Inv (X.tr (q :: l) X.xe) [] σ H s :=
  ⟨ok.toTry _ _, I.os, I.bare, I.base, I.loc, I.cell, I.free, I.freeC, I.pin, I.hok, I.len⟩
theorem inv_untr {q : Addr × Obj} {pins : List (Addr × Obj)} {σ : L2.St} {H : Hp} {s : Shared} (ok : X.Ok) (I : Inv (X.tr (q :: (X.pn ++ pins)) X.xe) [] σ H s) : Inv X pins σ H s :=
  ⟨ok, I.os, I.bare, I.base, I.loc, I.cell, I.free, I.freeC, fun p hp => I.pin p (List.mem_append_left _ (.tail _ hp)), I.hok, I.len⟩
theorem pss_try_keep (hs : X.stack = X.env :: X.outer) (hf : X.env.frame = some X.env.locals) (hN : X.N.Nodup) (hi : X.N[i]? = some n) (hln : X.env.kindOf n = some .local) (hc : Names X x c)
    (hb : ∀ (W : WX) (pn : List (Addr × Obj)) (xe : Value → Shared → Prop), Takes (X.tr pn xe) W → PassesOwn (model X.prog X.w) X.A X.env xe → PSs (X.tr pn xe) body (tb W))
    (hsu : ∀ (a : Addr) (oe : Obj) (cls : Value) (d : Option Addr) (pn : List (Addr × Obj)), Zc cls d oe → (∃ vs, oe.data = .fields vs) → PSs (X.suite a ((a, oe) :: pn)) (b0 :: suite) (ts a cls d))
    (hr : ∀ (a : Addr) (oe : Obj) (cls : Value) (d : Option Addr) (pn : List (Addr × Obj)), Zc cls d oe → (∃ vs, oe.data = .fields vs) → PSs (X.tr ((a, oe) :: pn) X.xe) rest (tr a cls d))
    (h0 : PSs X rest t0) : PSs X (.Try body [.ExceptHandler (some (.Name x np)) (some n) (b0 :: suite) pos'] [] [] pos :: rest) (tTryK X.K c i tb ts tr t0) := by
  refine ⟨fun pins s σ H D I h => wpAny_execs_cons (wpAny_Try_except ?_)⟩
  have ok := I.ok
  have frs1 : X.A.frames = some (X.env :: X.outer) := ok.frames.trans (by rw [hs])
  have lo : Loc X.env.scope n := Or.inl hln
  let QF : Flow → Shared → Prop := fun f s' => match f with
    | .next => wpAny (model X.prog X.w) X.A (execs rest X.env) (SP X pins D) X.xe s'
    | f => SP X pins D f s'
  show wpAny _ _ _ (fun (f : Flow) (s₁ : Shared) => match f with | .next => wpAny (model X.prog X.w) X.A (execs [] X.env) QF X.xe s₁ | f => QF f s₁) _ s
  refine wpAny_mono ((hb (wKeep X.K c i ts tr D) (X.pn ++ pins) (fun e s1 => wpAny (model X.prog X.w) X.A (noteFrame e X.env) (fun _ s2 => wpAny (model X.prog X.w) X.A (setFlight e none) (fun _ s3 =>
    wpAny (model X.prog X.w) X.A (handleBy e X.env [.ExceptHandler (some (.Name x np)) (some n) (b0 :: suite) pos']) QF X.xe s3) X.xe s2) X.xe s1) (fun u s' xx => ?_) PassesOwn.looking).run [] s σ H { D with nx := t0 D } (I.toTry _) h) (fun f s1 hp => ?_) (fun _ _ z => z)
  · obtain ⟨a, B, sI, pins', σ', H', cls, d, rfl, J0, nb, up, sky, na, os, ag, hb1, hyes⟩ := xx
    have J : Inv X pins σ' H' sI := J0.ofTry ok
    have sky1 : Sky B (X.env :: X.outer) a (Zc cls d) X.env.locals s'.heap := hs ▸ sky
    show wpAny (model X.prog X.w) X.A (noteFrame (.ref a) X.env) _ _ _
    refine Sky.land Zc.steady frs1 hf sky1 fun h3 fl up3 => ?_
    have J3 : Inv X pins σ' H' { s' with heap := h3 } := J.landed nb fl.1 (up.trans up3) os ag
    obtain ⟨oe3, vs3, e3, z3, d3⟩ := fl.there
    have out : a ∉ frs (X.env :: X.outer) := fun hm => by
      obtain ⟨_, o', e', hnf⟩ := fl.2.2.1.mem hm
      rw [e3] at e'
      cases e'
      exact hnf _ d3
    have nL : a ≠ X.env.locals := fun z => out (List.mem_filterMap.mpr ⟨X.env, .head _, hf.trans (congrArg some z.symm)⟩)
    have nF : a ∉ X.fs := fun hm => by
      obtain ⟨e, he, q⟩ := List.mem_filterMap.mp hm
      exact out (List.mem_filterMap.mpr ⟨e, .tail _ he, q⟩)
    have S3 := J3.suite e3 d3 na nL nF
    refine wpAny_handleBy_cons (codeAny_handlers_test ?_) nofun
    have LT : PySem.W.Looks (model X.prog X.w) h3 (typeOf (.ref a)) cls := fun A Q E s k q => wpAny_typeOf_ref (k _ _ e3) (by rw [z3.1]; exact q)
    have LM := PySem.W.exm_one (M := model X.prog X.w) (J3.kIn) LT hb1
    have nm : ∀ {Q : Value → Shared → Prop} {E : Value → Shared → Prop}, Q c { s' with heap := h3 } → wpAny (model X.prog X.w) (X.A.mark (some (.ref a))) (eval (.Name x np) X.env) Q E { s' with heap := h3 } := fun {Q E} q => by
      obtain ⟨hg, hd, hm | ⟨hm, hv, hn⟩⟩ := hc
      · exact ld_glob (X := X.suite a ((a, oe3) :: (X.pn ++ pins))) S3 hg hm q hd
      · exact ld_blt (X := X.suite a ((a, oe3) :: (X.pn ++ pins))) S3 hg hm hv q hn hd
    refine nm (LM.here (codeAny_handlers_suite_as (HandSPX.lands_againZ fl fun h4 fl4 up4 => ?_)))
    have J4 : Inv X pins σ' H' { s' with heap := h4 } := J.landed nb fl4.1 ((up.trans up3).trans up4) os ag
    obtain ⟨oe4, vs4, e4, z4, d4⟩ := fl4.there
    have S4 := J4.suite e4 d4 na nL nF
    refine store_ok (X := X.suite a ((a, oe4) :: (X.pn ++ pins))) (v := .ref a) S4 hN hi lo rfl (fun s5 S5 => ?_) (.inr hln)
    refine wpAny_mono ((hsu a oe4 cls d (X.pn ++ pins) z4 ⟨_, d4⟩).run [] s5 _ H' _ S5 (hyes a na)) (fun f s6 hp => ?_) (fun _ _ z => False.elim z)
    have fin : ∀ {σ6 : L2.St} {H6 : Hp} {Q : Shared → Prop}, Inv (X.suite a ((a, oe4) :: (X.pn ++ pins))) [] σ6 H6 s6 → (∀ s7, Inv (X.tr ((a, oe4) :: (X.pn ++ pins)) X.xe) [] (σ6.set i none) H6 s7 → Q s7) →
        wpAny (model X.prog X.w) X.A (do bindName X.env n .none; unbindBehindTheSuite X.env n pos') (fun _ s7 => Q s7) X.xe s6 := fun {σ6 H6 Q} S6 hq => gone_ok (X := X.tr ((a, oe4) :: (X.pn ++ pins)) X.xe) (inv_tr ok S6) hN hi hln hq
    cases f with
    | next =>
      obtain ⟨σ6, H6, S6, q6⟩ := hp
      have h6 : H6 a = none := (S6.pin (a, oe4) (List.mem_append_left _ (.head _))).2.1
      refine fin S6 fun s7 J7 => ?_
      show wpAny (model X.prog X.w) X.A (execs rest X.env) (SP X pins D) X.xe s7
      refine thn ((hr a oe4 cls d (X.pn ++ pins) z4 ⟨_, d4⟩).run [] s7 _ H6 D J7 (q6 h6)) fun f s8 hp => ?_
      cases f with
      | next => obtain ⟨σ8, H8, J8, q8⟩ := hp; exact ⟨σ8, H8, inv_untr ok J8, q8⟩
      | brk => obtain ⟨σ8, H8, J8, q8⟩ := hp; exact ⟨σ8, H8, inv_untr ok J8, q8⟩
      | cont => obtain ⟨σ8, H8, J8, q8⟩ := hp; exact ⟨σ8, H8, inv_untr ok J8, q8⟩
      | ret u => obtain ⟨v8, σ8, H8, J8, r8, q8⟩ := hp; exact ⟨v8, σ8, H8, inv_untr ok J8, r8, q8⟩
    | brk => obtain ⟨σ6, H6, S6, q6⟩ := hp; exact fin S6 fun s7 J7 => ⟨_, _, inv_untr ok J7, q6⟩
    | cont => obtain ⟨σ6, H6, S6, q6⟩ := hp; exact fin S6 fun s7 J7 => ⟨_, _, inv_untr ok J7, q6⟩
    | ret u => obtain ⟨v6, σ6, H6, S6, r6, q6⟩ := hp; exact fin S6 fun s7 J7 => ⟨_, _, _, inv_untr ok J7, r6, q6⟩
  · cases f with
    | next =>
      obtain ⟨σ', H', J', q⟩ := hp
      exact wpAny_execs_nil (h0.run pins s1 σ' H' D (J'.ofTry ok) q)
    | brk => obtain ⟨σ', H', J', q⟩ := hp; exact ⟨σ', H', J'.ofTry ok, q⟩
    | cont => obtain ⟨σ', H', J', q⟩ := hp; exact ⟨σ', H', J'.ofTry ok, q⟩
    | ret u => obtain ⟨v, σ', H', J', r, q⟩ := hp; exact ⟨v, σ', H', J'.ofTry ok, r, q⟩
end
structure Exc where
  nm : Str
  fl : Option (Str × D)
def ExcIs (K : PySem.W.Frag) (G : Hp) (mg : Str → Option Value) (e : Exc) (cls : Value) (d : Option Addr) : Prop := (∃ C, mg e.nm = some (.ref C) ∧ cls = .ref C) ∧ match e.fl with
  | none => d = none
  | some q => ∃ dd v, d = some dd ∧ G dd = some (.xd [(q.1, v)]) ∧ Den K G v q.2
theorem ExcIs.off {K : PySem.W.Frag} {G G' : Hp} {mg : Str → Option Value} {e : Exc} {cls : Value} {d : Option Addr} (h : ExcIs K G mg e cls d) (s : SameX G G') : ExcIs K G' mg e cls d := by
  obtain ⟨h1, h2⟩ := h
  refine ⟨h1, ?_⟩
  cases hf : e.fl with
  | none => rw [hf] at h2; exact h2
  | some q =>
    rw [hf] at h2
    obtain ⟨dd, v, e1, e2, e3⟩ := h2
    exact ⟨dd, v, e1, s _ _ e2 (by intro _ _ y; cases y), e3.off s⟩
inductive OX (S : Type) where
  | out (o : Out S) | ex (e : Exc) (ds : DS S)
abbrev SFX (S : Type) := DS S → Option (OX S)
section
variable {S : Type} {K : PySem.W.Frag} {R : StI S} {pn : List Nat} {mg : Str → Option Value} {W : WX} {Dn : Ends} {σ : L2.St} {H : Hp}
def XEnd (K : PySem.W.Frag) (R : StI S) (pn : List Nat) (mg : Str → Option Value) (W : WX) (σ : L2.St) (G H : Hp) (P : Addr → Prop) (Dn : Ends) : OX S → Prop
  | .out o => SEnd K R pn σ G H P Dn o
  | .ex e ds' => ∀ cls d σ' G' H' F', ExcIs K G' mg e cls d → RS K R ds' σ' G' H' F' → Step G H P G' H' (fun a => ∃ i, F' i a) → (∀ i ∈ pn, σ'[i]? = σ[i]?) → W cls d σ' H'
theorem XEnd.shift {σ1 : L2.St} {G G1 H1 : Hp} {P P1 : Addr → Prop} {o : OX S} (h : XEnd K R pn mg W σ G H P Dn o) (s : Step G H P G1 H1 P1) (p : ∀ i ∈ pn, σ1[i]? = σ[i]?) : XEnd K R pn mg W σ1 G1 H1 P1 Dn o := by
  cases o with
  | out o => exact SEnd.shift (o := o) h s p
  | ex e ds => exact fun cls d σ' G' H' F' x r t q => h cls d σ' G' H' F' x r (s.trans t) fun i hi => (q i hi).trans (p i hi)
def tSX (K : PySem.W.Frag) (R : StI S) (pn : List Nat) (mg : Str → Option Value) (W : WX) (g : SFX S) : TS := fun Dn σ H => ∃ G F ds o, RS K R ds σ G H F ∧ g ds = some o ∧ XEnd K R pn mg W σ G H (fun a => ∃ i, F i a) Dn o
def gLift (g : SF S) : SFX S := fun ds => (g ds).map .out
def gSeqX (g h : SFX S) : SFX S := fun ds => (g ds).bind fun o => match o with
  | .out (.nx ds') => h ds'
  | o => some o
def gNextX : SFX S := fun ds => some (.out (.nx ds))
def gRaise (e : Exc) : SFX S := fun ds => some (.ex e ds)
def gIfX (c : XF S Bool) (g h : SFX S) : SFX S := fun ds => (c ds).bind fun p => if p.1 then g p.2 else h p.2
variable {X : Cx} {st : Stmt} {rest : List Stmt} {g : SF S} {gx hx : SFX S}
theorem sx_lift (h : PS X st (tS X.K R pn g)) : PS X st (tSX X.K R pn X.mg W (gLift g)) := PS.imp h fun D σ H ⟨G, F, ds, o, r, e, k⟩ => by
  unfold gLift at e
  cases eg : g ds with
  | none => rw [eg] at e; cases e
  | some o1 =>
    rw [eg] at e
    cases e
    exact ⟨G, F, ds, o1, r, eg, k⟩
theorem sx_seq (h1 : PS X st (tSX X.K R pn X.mg W gx)) (h2 : PSs X rest (tSX X.K R pn X.mg W hx)) : PSs X (st :: rest) (tSX X.K R pn X.mg W (gSeqX gx hx)) := PSs.imp (pss_cons h1 h2) fun D σ H ⟨G, F, ds, o, r, e, k⟩ => by
  unfold gSeqX at e
  cases eg : gx ds with
  | none => rw [eg] at e; cases e
  | some o1 =>
    rw [eg] at e
    refine ⟨G, F, ds, o1, r, eg, ?_⟩
    cases o1 with
    | ex x ds1 => cases e; exact k
    | out o2 =>
      cases o2 with
      | nx ds1 => exact fun σ' G' H' F' r' s p => ⟨G', F', ds1, o, r', e, k.shift s p⟩
      | bk ds1 => cases e; exact k
      | ct ds1 => cases e; exact k
      | rt m ds1 => cases e; exact k
theorem sx_one (h : PS X st (tSX X.K R pn X.mg W gx)) : PSs X [st] (tSX X.K R pn X.mg W gx) := pss_one h
theorem sx_nil : PSs X [] (tSX X.K R pn X.mg W (gNextX (S := S))) := PSs.imp pss_nil fun D σ H ⟨G, F, ds, o, r, e, k⟩ => by
  cases e
  exact k σ G H F r (.refl r.sub) fun _ _ => rfl
theorem sx_if {c : XF S Bool} {e : Expr} {b1 b2 : List Stmt} {pos : Pos} (hc : PT X e (tXT X.K R c)) (h1 : PSs X b1 (tSX X.K R pn X.mg W gx)) (h2 : PSs X b2 (tSX X.K R pn X.mg W hx)) : PS X (.If e b1 b2 pos) (tSX X.K R pn X.mg W (gIfX c gx hx)) := PS.imp (ps_if hc h1 h2) fun D σ H ⟨G, F, ds, o, r, e, k⟩ => by
  unfold gIfX at e
  cases ef : c ds with
  | none => rw [ef] at e; cases e
  | some p =>
    rw [ef] at e
    simp only [Option.bind_some] at e
    refine ⟨G, F, ds, p.1, p.2, r, ef, fun G' H' F' r' s => ?_⟩
    cases hp : p.1 with
    | true =>
      rw [hp, if_pos rfl] at e
      exact iteT ⟨G', F', p.2, o, r', e, k.shift s fun _ _ => rfl⟩
    | false =>
      rw [hp, if_neg Bool.false_ne_true] at e
      exact iteF ⟨G', F', p.2, o, r', e, k.shift s fun _ _ => rfl⟩
structure ExcT (K : PySem.W.Frag) (mg : Str → Option Value) (x : Str) : Prop where
  ex : ∃ (C : Addr) (bmB : List Value) (B newId initId : String), ExcBaseFacts B newId initId bmB ∧ PySem.W.excIn K C bmB newId = true ∧ mg x = some (.ref C) ∧ PySem.W.keepIn K (.ref C) = true ∧ PySem.W.subIn K (.ref C) (.type "BaseException") = some true ∧ PySem.W.typeIn K (.ref C) = some (.type "type")
theorem sx_raise {x m : Str} {j : Nat} {p p2 pos pos2 : Pos} (hc : X.calm = true) (tk : Takes X W) (T : ExcT X.K X.mg x) (hg : Gl X x) (hd : (x == ("__debug__" : Str)) = false := by decide) : PS X (.Raise (some (.Call (.Name x p) [.Constant (.str m) j p2] [] pos)) none pos2) (tSX X.K R pn X.mg W (gRaise (S := S) ⟨x, none⟩)) := by
  obtain ⟨C, bmB, B, newId, initId, F, q, gC, kC, s1, s2⟩ := T.ex
  exact PS.imp (ps_raise hc tk (pmk_own F q gC kC (raises_own s1 s2) hg hd)) fun D σ H ⟨G, F, ds, o, r, e, k⟩ => by
    cases e
    exact k (.ref C) none σ G H F ⟨⟨C, gC, rfl⟩, rfl⟩ r (.refl r.sub) fun _ _ => rfl
def runPX (n : Nat) (g : SFX S) : List D → Option (Except Exc (MO S)) := fun as => (g (startD n (as.map .d))).bind fun o => match o with
  | .out o => (outM o).map fun p => .ok p.1
  | .ex e _ => some (.error e)
def okX (o : Option (Except Exc (MO S))) : Option (MO S) := match o with
  | some (.ok m) => some m
  | _ => none
def spPX (K : PySem.W.Frag) (R : StI S) (mg : Str → Option Value) (n : Nat) (F : List D → Option (Except Exc (MO S))) : Sp := fun vs H Q E => vs.length = n ∧ ∃ G as r, Same G H ∧ DenAll K G vs as ∧ F as = some r ∧ match r with
  | .ok m => ∀ v G' H' fr, Step G H (fun _ => False) G' H' fr → OwnAt K R G' H' v m fr → (∀ a, fr a → G' a = none) → Q v H'
  | .error e => ∀ cls d G' H', ExcIs K G' mg e cls d → Step G H (fun _ => False) G' H' (fun _ => False) → E cls d H'
end
section
variable {S : Type} {P : Program} {w : World} {K : PySem.W.Frag} {mg : Str → Option Value} {base : Heap} {x qual : Str} {st : Stmt} {f : Addr} {fd : FuncData} {N ps : List Str} {k : Nat} {R : StI S} {g : SFX S}
def BodyOkX (P : Program) (w : World) (K : PySem.W.Frag) (mg : Str → Option Value) (base : Heap) (N : List Str) (qual : Str) (st : Stmt) (f : Addr) (k : Nat) (R : StI S) (g : SFX S) : Prop :=
  ∀ (cdv : Value) (A : Around) (outer : List Env) (s : Shared) (H : Hp) (E : XK), Room k (A.deeper (envOfC qual (defScope st) s.heap.objs.size f cdv)) → (A.deeper (envOfC qual (defScope st) s.heap.objs.size f cdv)).guards = some [] →
    Takes (cxOf (CX P w) P w K mg base N qual (defScope st) f cdv A outer s H E) (fun cls d _ H => E cls d H) →
    PSs (cxOf (CX P w) P w K mg base N qual (defScope st) f cdv A outer s H E) (defBody st) (tSX K R [] mg (fun cls d _ H => E cls d H) g)
theorem fn_PX (Fn : Fun K x qual st f fd) (sc : FnScope N ps (defScope st)) (hbody : BodyOkX P w K mg base N qual st f k R g) : FnG P w K mg base (CX P w) (k + 1) f fd ps (spPX K R mg ps.length (runPX N.length g)) := by
  refine ⟨fun vs H Q E h => h.1, fun A outer s H args us vs Q E hr hgd e0 hb r hsp => ?_⟩
  obtain ⟨oc, od, kV, doc, pm, an, cdv, ct, osl, rfl, lk, hcd⟩ := Fn.ex
  have inK : K.In s.heap := e0.mod.kin.keeps fun b o q => (e0.bs b o q).1
  have noLim : s.heap.NoLimit := e0.mod.nolimit.keeps fun b o q => (e0.bs b o q).1
  have kinds : ∀ y ∈ ps.zip us, (defScope st).names.lookup y.1 = some .local ∨ ((defScope st).names.lookup y.1 = some .cell ∧ ((cellsFrom (s.heap.objs.size + 1) (defScope st).names []).lookup y.1).isSome = true) := by
    rintro ⟨n, v⟩ hy
    exact (sc.par n (List.of_mem_zip hy).1).elim .inl fun q => .inr ⟨q, PySem.W.cellsFrom_some _ _ _ (.inl q)⟩
  refine codeAny_call_function hr.depth (inK _ _ lk) rfl sc.co sc.gen rfl (PySem.W.codeRec_of inK hcd) (hb _ _ _ _ (wpAny_newFunctionEnv_cells sc.kind kinds fun env he s1 hin => ?_))
  subst he
  refine ⟨noLim.keeps hin.toInCall.keep, codeAny_func ?_⟩
  have hgd2 : (A.deeper (envOfC qual (defScope st) s.heap.objs.size f cdv)).guards = some [] := by first | exact hgd | (simpa [Around.deeper] using hgd)
  have I0 : Inv (cxOf (CX P w) P w K mg base N qual (defScope st) f cdv A outer s H E) [] (L2.start N vs) H s1 := inv_start sc hr.hd e0 hsp.1 r hin
  have tk : Takes (cxOf (CX P w) P w K mg base N qual (defScope st) f cdv A outer s H E) (fun cls d _ H => E cls d H) := takes_of (X := cxOf (CX P w) P w K mg base N qual (defScope st) f cdv A outer s H E) rfl rfl rfl rfl
  have ht := hbody cdv A outer s H E (hr.deeper _) hgd2 tk
  have ends : ∀ {σ' : L2.St} {H' : Hp} {v : V} {u : Value} {s' : Shared}, Inv (cxOf (CX P w) P w K mg base N qual (defScope st) f cdv A outer s H E) [] σ' H' s' → RelV v u → Q v H' → CE outer P w H s Q u s' := fun J rv q => ⟨_, _, J.os, J.bare, J.base, J.hok, rv, q⟩
  refine wpAny_mono (ht.run [] s1 (L2.start N vs) H ⟨fun _ H' => Q .non H', Q, fun _ _ => False, fun _ _ => False⟩ I0 ?_) (fun fl s' hs => ?_) fun _ _ z => z
  · obtain ⟨hl, G, as, rr, sm, d, e, q⟩ := hsp
    unfold runPX at e
    cases eg : g (startD N.length (as.map .d)) with
    | none => rw [eg] at e; cases e
    | some o =>
      rw [eg] at e
      have r := rs_start (N := N) sm (argOk_data (R := R) (H := H) d)
      refine ⟨G, _, _, o, r, eg, ?_⟩
      have nf : ∀ {G' H' : Hp} {P' : Addr → Prop}, Step G H (fun a => ∃ (i : Nat), False) G' H' P' → Step G H (fun _ => False) G' H' P' := fun s => ⟨fun a _ o e => s.frame a (fun ⟨_, z⟩ => z) o e, s.keep, s.sub, fun b hb => by
        rcases s.new0 b hb with z | z | ⟨_, z⟩
        · exact .inl z
        · exact .inr (.inl z)
        · exact z.elim, fun b hb => (s.newf b hb).elim (fun ⟨_, z⟩ => z.elim) .inr⟩
      cases o with
      | ex x ds' =>
        cases e
        exact fun cls d σ' G' H' F' xi r' s' _ => q cls d G' H' xi ((nf s').weaken fun _ z => z.elim)
      | out o =>
        cases o with
        | nx ds' =>
          cases e
          exact fun σ' G' H' F' r' s' _ => q .non G' H' (fun _ => False) ((nf s').weaken fun _ z => z.elim) ⟨.non, fun _ z => z⟩ fun _ z => z.elim
        | rt m' ds' =>
          cases e
          exact fun v σ' G' H' F' fr r' s' o' h1 h2 _ => q v G' H' fr ((nf s').weaken fun _ z => .inr z) o' h2
        | bk ds' => cases e
        | ct ds' => cases e
  · match fl, hs with
    | .ret u, ⟨v, σ', H', J, rv, q⟩ => exact ends J rv q
    | .next, ⟨σ', H', J, q⟩ => exact ends (v := V.non) (u := Value.none) J rfl q
    | .brk, ⟨_, _, _, q⟩ => exact q.elim
    | .cont, ⟨_, _, _, q⟩ => exact q.elim
theorem fnX_ok {n : Nat} {F : List D → Option (Except Exc (MO S))} (Fn : FnG P w K mg base (CX P w) k f fd ps (spPX K R mg n F)) : FnG P w K mg base CX0 k f fd ps (spP K R n fun as => okX (F as)) := by
  have conv : ∀ vs H Q E, spP K R n (fun as => okX (F as)) vs H Q E → spPX K R mg n F vs H Q fun _ _ _ => False := fun vs H Q E ⟨h1, G, as, m, h2, h3, h4, h5⟩ => by
    have h4 : okX (F as) = some m := h4
    cases e : F as with
    | none => rw [e] at h4; cases h4
    | some r =>
      rw [e] at h4
      cases r with
      | ok m' => cases h4; exact ⟨h1, G, as, _, h2, h3, e, h5⟩
      | error x => cases h4
  refine ⟨fun vs H Q E h => Fn.len vs H Q _ (conv vs H Q E h), fun A outer s H args us vs Q E hr hgd e0 hb r h => ?_⟩
  refine codeAny_mono (Fn.run A outer s H args us vs Q (fun _ _ _ => False) hr hgd e0 hb r (conv vs H Q E h)) fun res s2 hq => ?_
  match res, hq with
  | .error er, hq => obtain ⟨a, B, H', cls, d, _, _, _, _, _, _, _, z⟩ := hq; exact z.elim
  | .ok (.ret u), hq => exact hq
  | .ok .next, hq => exact hq.elim
  | .ok .brk, hq => exact hq.elim
  | .ok .cont, hq => exact hq.elim
end
def R0e : StI Exc := ⟨fun _ _ _ _ _ => False, fun h => h.elim, fun h => h.elim⟩
def R1e (K : PySem.W.Frag) (mg : Str → Option Value) (a : Addr) (cls : Value) (d : Option Addr) : StI Exc := ⟨fun G _ v s fp => v = .ref a ∧ ExcIs K G mg s cls d ∧ ∀ b, ¬ fp b, fun h s _ => ⟨h.1, h.2.1.off s, h.2.2⟩, fun h a ha => absurd ha (h.2.2 a)⟩
section
variable {K : PySem.W.Frag} {mg : Str → Option Value} {a : Addr} {cls : Value} {dx : Option Addr} {σ : L2.St} {G H : Hp} {F : Nat → Addr → Prop} {ds : DS Exc}
theorem rs_up (r : RS K R0e ds σ G H F) : RS K (R1e K mg a cls dx) ds σ G H F := ⟨r.sub, r.len, fun i m e => by
  obtain ⟨v, h1, h2⟩ := r.own i m e
  refine ⟨v, h1, ?_⟩
  cases m with
  | st s => exact False.elim h2
  | d x => exact h2
  | lst xs => exact h2
  | scr ns => exact h2
  | obj x fs => exact h2
  | lk kvs => exact h2
  | dp x => exact h2
  | dic kvs => exact h2, r.emp, r.dj, r.dis⟩
theorem rs_wipe {R : StI Exc} (r : RS K (R1e K mg a cls dx) ds σ G H F) : RS K R (ds.map fun _ => none) σ G H (fun _ _ => False) := ⟨r.sub, by rw [List.length_map]; exact r.len, (fun i m e => by rw [List.getElem?_map] at e; cases h : ds[i]? <;> rw [h] at e <;> cases e), fun _ _ _ z => z, fun _ _ _ z => z.elim, fun _ _ z => z.elim⟩
def dataM : MO Exc → Bool
  | .d _ => true
  | .lst _ => true
  | _ => false
end
theorem Step.pre {G H G1 H1 : Hp} {P P1 P2 : Addr → Prop} (a : Step G H P G1 H1 P1) (h : ∀ b, P b → P2 b) : Step G H P2 G1 H1 P1 := ⟨fun b n => a.frame b fun z => n (h b z), a.keep, a.sub, fun b q => (a.new0 b q).imp id (Or.imp id (h b)), fun b q => (a.newf b q).imp (h b) id⟩
section
variable {X : Cx} {x n y : Str} {c : Value} {i j : Nat} {body rest : List Stmt} {np pos pos' p1 p2 p3 : Pos} {b : SFX Exc} {r : SF Exc} {kn : List Str}
end
structure ClX {S : Type} (P : Program) (w : World) (K : PySem.W.Frag) (R : StI S) (mg : Str → Option Value) (base : Heap) (k : Nat) (x : Str) (n : Nat) (F : List D → Option (Except Exc (MO S))) : Prop where
  ex : ∃ (f : Addr) (fd : FuncData) (ps : List Str), FnG P w K mg base (CX P w) k f fd ps (spPX K R mg n F) ∧ Binds K fd ps [] ∧ PySem.W.keepIn K (.ref f) = true ∧ mg x = some (.ref f)
section
variable {S : Type} {X : Cx} {R : StI S} {W : WX} {k j n : Nat} {f : Addr} {fd : FuncData} {ps : List Str} {sp : Sp} {x : Str} {p pos pos2 : Pos} {e : Expr} {es : List Expr} {t : TA} {pn : List Nat}
theorem pe_callGS (F : FnG X.prog X.w X.K X.mg X.base (CX X.prog X.w) k f fd ps sp) (hr : Room k X.A) (hgd : X.A.guards = some []) (hg : Gl X x) (hm : X.mg x = some (.ref f)) (hk : PySem.W.keepIn X.K (.ref f) = true) (hb : Binds X.K fd ps []) (tk : Takes X W)
    (ha : PA X (e :: es) t) (hd : (x == ("__debug__" : Str)) = false := by decide) (he : starEach (e :: es) X.env = (false, eval e X.env) :: starEach es X.env := by rfl) (hpl : (backTo pos (starEach es X.env)).any (·.1) = false := by rfl) :
    PE X (.Call (.Name x p) (e :: es) [] pos) (fun σ H Q => t σ H fun vs H1 => sp vs H1 Q fun cls d H' => W cls d σ H') := by
  refine ⟨fun pins s σ H Q I h => wpAny_Call_Name_kw (ld_glob I hg hm (PySem.W.callWith_K (h₀ := X.base) I.ok.mod.kin hk (thn (ha.run pos pins s σ H _ I h) ?_) he hpl) hd)⟩
  rintro us s1 ⟨vs, H1, I1, r, q⟩
  refine ⟨I1.kIn, ?_⟩
  have hz : (us ++ ([] : List Value)).length = ps.length := by
    rw [List.append_nil, ← r.length]
    exact F.len _ _ _ _ q
  have hbind := hb s1 us I1.kIn hz
  rw [List.append_nil] at hbind
  refine wpAny_call (codeAny_mono (F.run X.A X.stack s1 H1 ⟨us, []⟩ us vs Q _ hr hgd I1.env0 hbind r q) fun res s2 hq => ?_)
  match res, hq with
  | .error er, hq => exact passAt tk σ pins H1 s1 er s2 I1 hq
  | .ok (.ret u), hq => exact I1.after hq
  | .ok .next, hq => exact hq.elim
  | .ok .brk, hq => exact hq.elim
  | .ok .cont, hq => exact hq.elim
def gDropX (n : Nat) (F : List D → Option (Except Exc (MO S))) (fs : XF S (List D)) : SFX S := fun ds => (fs ds).bind fun q => if q.1.length = n then (F q.1).map (fun r => match r with
  | .ok _ => .out (.nx q.2)
  | .error e => .ex e q.2) else none
theorem sx_drop {F : List D → Option (Except Exc (MO S))} {fs : XF S (List D)} (c : ClX X.prog X.w X.K R X.mg X.base j x n F) (hk : j ≤ k) (hr : Room k X.A) (hgd : X.A.guards = some []) (hg : Gl X x) (tk : Takes X W) (ha : PA X (e :: es) (tXA X.K R fs))
    (hs : swapsWith (.Call (.Name x p) (e :: es) [] pos) none pos2.line X.env = pure false := by rfl) (hd : (x == ("__debug__" : Str)) = false := by decide) (he : starEach (e :: es) X.env = (false, eval e X.env) :: starEach es X.env := by rfl) (hpl : (backTo pos (starEach es X.env)).any (·.1) = false := by rfl) :
    PS X (.Expr (.Call (.Name x p) (e :: es) [] pos) pos2) (tSX X.K R pn X.mg W (gDropX n F fs)) := by
  obtain ⟨f, fd, ps, Fn, hb, hkp, hm⟩ := c.ex
  refine PS.imp (ps_expr (pe_callGS (Fn.up hk) hr hgd hg hm hkp hb tk ha hd he hpl) hs) ?_
  rintro Dn σ H ⟨G, F0, ds, o, r, e, k⟩
  unfold gDropX at e
  cases ef : fs ds with
  | none => rw [ef] at e; cases e
  | some q =>
    rw [ef, Option.bind_some] at e
    by_cases hn : q.1.length = n
    · rw [if_pos hn] at e
      cases eF : F q.1 with
      | none => rw [eF] at e; cases e
      | some rr =>
        rw [eF] at e
        refine ⟨G, F0, ds, q.1, q.2, r, ef, fun vs G1 H1 F1 r1 s1 d1 => ?_⟩
        refine ⟨by rw [d1.length]; exact hn, G1, q.1, rr, r1.sub, d1, eF, ?_⟩
        cases rr with
        | ok m =>
          cases e
          intro v G2 H2 fr s2 o2 n2
          obtain ⟨r2, s3, ap⟩ := r1.callee s2
          exact k σ G2 H2 F1 r2 ((s1.trans s3).weaken fun _ z => .inl z) fun _ _ => rfl
        | error x1 =>
          cases e
          intro cls d G2 H2 xi s2
          obtain ⟨r2, s3, ap⟩ := r1.callee s2
          exact k cls d σ G2 H2 F1 xi r2 ((s1.trans s3).weaken fun _ z => .inl z) fun _ _ => rfl
    · rw [if_neg hn] at e; cases e
end
def XdAt (H : Hp) (d : Option Addr) : Prop := d = none ∨ ∃ dd fs, d = some dd ∧ H dd = some (.xd fs)
theorem ExcIs.xd {K : PySem.W.Frag} {G H : Hp} {mg : Str → Option Value} {e : Exc} {cls : Value} {d : Option Addr} (h : ExcIs K G mg e cls d) (s : Same G H) : XdAt H d := by
  obtain ⟨_, h2⟩ := h
  cases hf : e.fl with
  | none => rw [hf] at h2; exact .inl h2
  | some q =>
    rw [hf] at h2
    obtain ⟨dd, v, e1, e2, _⟩ := h2
    exact .inr ⟨dd, _, e1, s _ _ e2⟩
def Kept (X : Cx) (a : Addr) (oe : Obj) : Prop := (a, oe) ∈ X.pn ∨ X.base.get? a = some oe
theorem Kept.get {X : Cx} {a : Addr} {oe : Obj} (h : Kept X a oe) {pins : List (Addr × Obj)} {σ : L2.St} {H : Hp} {s : Shared} (I : Inv X pins σ H s) : s.heap.get? a = some oe := by
  rcases h with h | h
  · exact (I.pin (a, oe) (List.mem_append_left _ h)).1
  · exact (I.bs a oe h).1
section
variable {X : Cx} {a D : Addr} {oe : Obj} {d : Option Addr}
end
structure IsTab (K : PySem.W.Frag) (mg : Str → Option Value) (cs : List Value) (tab : List (Str × Bool)) : Prop where
  all : ∀ q ∈ tab, ∃ D, mg q.1 = some (.ref D) ∧ ExcC K D ∧ PySem.W.kitAny K (.ref D) cs = some q.2
section
variable {X : Cx} {a : Addr} {oe : Obj} {cls : Value} {dx : Option Addr} {j : Nat} {tab : List (Str × Bool)} {e : Expr} {p p2 pos : Pos}
def xAndV {S : Type} (fa fb : XF S D) : XF S D := xb fa fun x => xb (xlift (truD x)) fun k => if k then fb else xlift (some x)
end
section
variable {P : Program} {w : World} {K : PySem.W.Frag} {mg : Str → Option Value} {base : Heap} {f : Addr} {fd : FuncData} {ps : List Str} {k n : Nat}
def toM2 : MO Exc → Option (MO St2)
  | .d x => some (.d x)
  | .lst xs => some (.lst xs)
  | _ => none
theorem fnE {F : List D → Option (MO Exc)} (Fn : FnG P w K mg base CX0 k f fd ps (spP K R0e n F)) : FnG P w K mg base CX0 k f fd ps (spP K R2i n fun as => (F as).bind toM2) := Fn.imp fun vs H Q E ⟨h1, G, as, m, h2, h3, h4, h5⟩ => by
  have h4 : (F as).bind toM2 = some m := h4
  cases e : F as with
  | none => rw [e] at h4; cases h4
  | some m0 =>
    rw [e, Option.bind_some] at h4
    refine ⟨h1, G, as, m0, h2, h3, e, fun v G' H' fr s o g => h5 v G' H' fr s ?_ g⟩
    cases m0 with
    | d x => cases h4; exact o
    | lst xs => cases h4; exact o
    | st s => cases h4
    | scr ns => cases h4
    | dic kvs => cases h4
    | lk kvs => cases h4
    | dp x => cases h4
    | obj x fs => cases h4
end
section
variable {X : Cx} {j : Nat} {tab : List (Str × Bool)} {e : Expr} {i : Nat}
end
section
variable {P : Program} {w : World} {K : PySem.W.Frag} {mg : Str → Option Value} {base : Heap} {f : Addr} {fd : FuncData} {ps : List Str} {k n : Nat}
def toXE : Except Exc (MO St2) → Option (Except Exc (MO Exc))
  | .ok (.d x) => some (.ok (.d x))
  | .ok (.lst xs) => some (.ok (.lst xs))
  | .ok _ => none
  | .error e => some (.error e)
theorem fnXE {F : List D → Option (Except Exc (MO St2))} (Fn : FnG P w K mg base (CX P w) k f fd ps (spPX K R2i mg n F)) : FnG P w K mg base (CX P w) k f fd ps (spPX K R0e mg n fun as => (F as).bind toXE) := Fn.imp fun vs H Q E ⟨h1, G, as, r, h2, h3, h4, h5⟩ => by
  have h4 : (F as).bind toXE = some r := h4
  cases e : F as with
  | none => rw [e] at h4; cases h4
  | some r0 =>
    rw [e, Option.bind_some] at h4
    refine ⟨h1, G, as, r0, h2, h3, e, ?_⟩
    cases r0 with
    | error x => cases h4; exact h5
    | ok m0 =>
      cases m0 with
      | d x => cases h4; exact h5
      | lst xs => cases h4; exact h5
      | st s => cases h4
      | scr ns => cases h4
      | dic kvs => cases h4
      | lk kvs => cases h4
      | dp x => cases h4
      | obj x fs => cases h4
theorem clXE {x : Str} {F : List D → Option (Except Exc (MO St2))} (c : ClX P w K R2i mg base k x n F) : ClX P w K R0e mg base k x n fun as => (F as).bind toXE := by
  obtain ⟨f, fd, ps, h1, h2⟩ := c.ex
  exact ⟨f, fd, ps, fnXE h1, h2⟩
theorem clX_ok {x : Str} {F : List D → Option (Except Exc (MO St2))} (c : ClX P w K R2i mg base k x n F) : Cl P w K mg base k x (spP K R2i n fun as => okX (F as)) := by
  obtain ⟨f, fd, ps, h1, h2⟩ := c.ex
  exact ⟨f, fd, ps, fnX_ok h1, h2⟩
end
section
variable {K : PySem.W.Frag} {t c : Value} {b : Bool} {cs : List Value}
end
section
variable {X : Cx} {e : Expr} {es : List Expr} {ta : TA} {p1 p2 pos : Pos} {x : Str} {M : Addr} {mc : Value}
theorem pe_meinit {pl : Sem Bool} (hg : Gl X x) (hm : X.mg x = some (.ref M)) (hga : PySem.W.specialIn X.K (.ref M) "__getattribute__" = some (some (.builtin "type.__getattribute__"))) (hrd : PySem.W.readsIn X.K M mc = true)
    (vV : PySem.W.findCls X.K (.ref M) mc "__init__" = some (.val (.builtin "ValueError.__init__"))) (ha : PA X (e :: es) ta) (hdb : (x == ("__debug__" : Str)) = false := by decide)
    (hc : eval (.Call (.Attribute (.Name x p1) "__init__" p2) (e :: es) [] pos) X.env = (do
      let ov ← eval (.Name x p1) X.env
      standAt p2.atName
      let (f, first) ← holding [ov] (getMethod ov "__init__" pl)
      callWith pos f first (backTo pos (starEach (e :: es) X.env)) (backToKw pos (keywordEach [] X.env))) := by rfl)
    (he : starEach (e :: es) X.env = (false, eval e X.env) :: starEach es X.env := by rfl) (hpl : (backTo pos (starEach es X.env)).any (·.1) = false := by rfl) :
    PE X (.Call (.Attribute (.Name x p1) "__init__" p2) (e :: es) [] pos) (tVeI X.K ta) := by
  refine ⟨fun pins s σ H Q I h => ?_⟩
  refine PySem.W.methodCall_KW (ld_glob I hg hm ?_ hdb) hc
  refine PySem.W.method_cls I.kIn hga (PySem.W.cls_value I.kIn hrd vV (by decide +kernel) ?_)
  show wpAny _ _ (callWith pos (Value.builtin "ValueError.__init__") [] (backTo pos (starEach (e :: es) X.env)) []) _ _ _
  refine PyProof.Rows.callWith_method1 (thn (ha.run pos pins _ σ H _ (I.tok _) h) fun us s1 ⟨vs, H1, I1, r1, a, C, ws, ev, hl, T, ea, q⟩ => ?_) he hpl
  subst ev
  cases r1 with
  | @cons _ u0 _ ur ra rw' =>
    obtain rfl : u0 = Value.ref a := ra
    have hlen : ur.length ≤ sizeLine := by
      rw [← Paired.length rw', sizeLine_eq]
      omega
    exact oinit_ok T I1 ea hlen fun s' J => ⟨.non, H1, J, rfl, q⟩
end
def spInit (K : PySem.W.Frag) (f : Str) : Sp := fun vs H Q _ => ∃ (a C : Addr) (v : V), vs = [.ref a, v] ∧ OexC K C ∧ PySem.W.findIn K (.ref C) f = some none ∧ H a = some (exo a C none) ∧
  ∀ dx, H dx = none → dx ≠ a → Q .non (upd (upd H dx (exd dx [(f, v)])) a (exo a C (some dx)))
structure ExcF (P : Program) (w : World) (K : PySem.W.Frag) (mg : Str → Option Value) (base : Heap) (k : Nat) (x f : Str) : Prop where
  ex : ∃ (C fI : Addr) (fd : FuncData) (ps : List Str), OexC K C ∧ mg x = some (.ref C) ∧ PySem.W.findIn K (.ref C) "__init__" = some (some (.ref fI)) ∧ PySem.W.typeIn K (.ref fI) = some (.type "function") ∧
    FnOk P w K mg base CX0 k fI fd ps (spInit K f) ∧ Binds K fd ps [] ∧ PySem.W.findIn K (.ref C) f = some none
structure FldT (K : PySem.W.Frag) (mg : Str → Option Value) (f x : Str) : Prop where
  ex : ∃ C, mg x = some (.ref C) ∧ PySem.W.findIn K (.ref C) "__getattribute__" = some (some (.builtin "BaseException.__getattribute__")) ∧ PySem.W.findIn K (.ref C) "__getattr__" = some none ∧
    PySem.W.subIn K (.ref C) (.type "BaseException") = some true ∧ PySem.W.hasDictIn K C = true ∧ PySem.W.findIn K (.ref C) f = some none
def gRaiseF {S : Type} (x f : Str) (fs : XF S (List D)) : SFX S := fun ds => (fs ds).bind fun q => match q.1 with
  | [y] => some (.ex ⟨x, some (f, y)⟩ q.2)
  | _ => none
section
variable {S : Type} {X : Cx} {R : StI S} {pn : List Nat} {W : WX} {k j : Nat}
theorem sx_raiseF {x f : Str} {a : Expr} {fs : XF S (List D)} {p pos pos2 : Pos} (hc : X.calm = true) (tk : Takes X W) (T : ExcF X.prog X.w X.K X.mg X.base j x f) (hk : j ≤ k) (hr : Room (k + 1) X.A) (ha : PA X [a] (tXA X.K R fs)) (hg : Gl X x)
    (hdb : (x == ("__debug__" : Str)) = false := by decide) (he : starEach (a :: []) X.env = (false, eval a X.env) :: starEach [] X.env := by rfl) (hpl : (backTo pos (starEach [] X.env)).any (·.1) = false := by rfl) :
    PS X (.Raise (some (.Call (.Name x p) [a] [] pos)) none pos2) (tSX X.K R pn X.mg W (gRaiseF x f fs)) := by
  obtain ⟨C, fI, fd, ps, oc, hm, iC, tI, F1, hb, fno⟩ := T.ex
  refine PS.imp (ps_raise hc tk (pmk_oex oc iC tI (F1.mono hk) hr hb .nil pass0 hg hm ha hdb he hpl)) ?_
  rintro Dn σ H ⟨G, F, ds, o, r, e, kk⟩
  unfold gRaiseF at e
  cases ef : fs ds with
  | none => rw [ef] at e; cases e
  | some q =>
    rw [ef, Option.bind_some] at e
    obtain ⟨xs, ds1⟩ := q
    match xs, e with
    | [y], e =>
      cases e
      refine ⟨G, F, ds, [y], ds1, r, ef, fun vs G1 H1 F1' r1 s1 d1 => ?_⟩
      cases d1 with
      | @cons v _ _ _ dv dn =>
        cases dn
        refine ⟨by show 1 ≤ 1000; decide, fun a1 hn => ⟨a1, C, v, rfl, oc, fno, upd_same, fun dx hdx ne => ⟨rfl, dx, [(f, v)], upd_same, by rw [upd_ne ne, upd_same], by rwa [upd_ne ne] at hdx, ?_⟩⟩⟩
        have hd1 : H1 dx = none := by rwa [upd_ne ne] at hdx
        have eh : upd (del (upd (upd (upd H1 a1 (exo a1 C none)) dx (exd dx [(f, v)])) a1 (exo a1 C (some dx))) a1) dx (.xd [(f, v)]) = upd H1 dx (.xd [(f, v)]) := by
          funext b
          by_cases h1 : b = dx
          · rw [h1, upd_same, upd_same]
          · rw [upd_ne h1, upd_ne h1]
            by_cases h2 : b = a1
            · rw [h2, del_same, hn]
            · rw [del_ne h2, upd_ne h2, upd_ne h1, upd_ne h2]
        rw [eh]
        have g0 := (Gr.own (o := .xd [(f, v)]) r1.sub hd1).freeze (o := .xd [(f, v)]) (r1.sub.free hd1) hd1 upd_same
        exact kk (.ref C) (some dx) σ _ _ F1' ⟨⟨C, hm, rfl⟩, dx, v, rfl, upd_same, dv.mono g0.keep⟩ (r1.grow g0) (s1.trans g0.step) fun _ _ => rfl
    | [], e => cases e
    | _ :: _ :: _, e => cases e
end
def xFldE (kn : List Str) (f : Str) (j : Nat) : XF Exc D := fun ds => (stAt ds j).bind fun e => match e.fl with
  | some (g, x) => if g = f ∧ e.nm ∈ kn then some (x, ds) else none
  | none => none
section
variable {X : Cx} {a : Addr} {oe : Obj} {cls : Value} {dx : Option Addr} {j : Nat} {kn : List Str} {f : Str} {e : Expr} {pos : Pos}
theorem ex_fldE (T : ∀ x ∈ kn, FldT X.K X.mg f x) (hz : Zc cls dx oe) (hf : ∃ vs, oe.data = .fields vs) (hp : Kept X a oe) (hv : PE X e (tVar j)) (hb : attributeBase e f X.env (eval e X.env) = eval e X.env := by rfl) :
    PE X (.Attribute e f pos) (tX X.K (R1e X.K X.mg a cls dx) (xFldE kn f j)) := by
  refine ⟨fun pins s σ H Q I ⟨G, F, ds, d, ds', r, eq, k⟩ => ?_⟩
  unfold xFldE at eq
  cases es : stAt ds j with
  | none => rw [es] at eq; cases eq
  | some ex =>
    rw [es, Option.bind_some] at eq
    cases hfl : ex.fl with
    | none => rw [hfl] at eq; cases eq
    | some q =>
      obtain ⟨g, x⟩ := q
      rw [hfl] at eq
      dsimp only at eq
      split at eq
      · rename_i hc
        obtain ⟨rfl, hkn⟩ := hc
        cases eq
        obtain ⟨v, h1, rfl, ⟨⟨C, hC, rfl⟩, h2⟩, _⟩ := r.own j _ (stAt_some es)
        rw [hfl] at h2
        obtain ⟨dd, v0, rfl, hG, dv⟩ := h2
        obtain ⟨C', hC', ga, gg, exC, hdC, noN⟩ := (T _ hkn).ex
        rw [hC] at hC'
        cases hC'
        refine attr_of hb (thn (hv.run pins s σ H (fun x H1 => x = .ref a ∧ H1 = H) I ⟨_, h1, rfl, rfl⟩) fun u s1 hh => ?_)
        obtain ⟨x1, H1, I1, rx, rfl, rfl⟩ := hh
        obtain rfl : u = Value.ref a := rx
        have ha := hp.get I1
        obtain ⟨vs, hd⟩ := hf
        have ea := r.sub _ _ hG
        have hx : ObjOk X.prog X.w H1 s1.heap dd (.xd [(g, v0)]) := I1.hok dd _ ea
        obtain ⟨mA, hns, hr⟩ := hx
        obtain ⟨od, ho, hl⟩ := lookIn_ns hns
        have l : List.lookup g [(g, v0)] = some v0 := by simp [List.lookup]
        obtain ⟨u, hu, ru⟩ := RelO.some_of (v := v0) (o := mA g) (by rw [← l]; exact hr g)
        have J : PySem.W.InstAt s1.heap a oe C (some od) := ⟨ha, hz.1, by unfold PySem.W.notCls; rw [hd] <;> rfl, by rw [hz.2]; exact ho⟩
        exact PySem.HandSPX.exc_get I1.kIn J ga gg exC (PySem.W.findObj_own hdC noN rfl (by rw [hl, hu])) (handed_of ru) ⟨v0, H1, I1.tok _, ru, k v0 G H1 F r (.refl r.sub) dv⟩
      · cases eq
end
section
variable {X : Cx} {a : Addr} {cls : Value} {dx : Option Addr} {j : Nat} {kn : List Str} {f : Str} {e : Expr} {pos p2 : Pos} {i : Nat}
end
def gTryC {S : Type} (kn : List Str) (b : SFX S) (h : SF S) : SF S := fun ds => (b ds).bind fun o => match o with
  | .out o => some o
  | .ex e ds' => if e.nm ∈ kn then h ds' else none
section
variable {S : Type} {X : Cx} {R : StI S} {pn : List Nat} {x : Str} {c : Value} {body suite : List Stmt} {b0 : Stmt} {np pos pos' : Pos} {b : SFX S} {h : SF S} {kn : List Str}
theorem tk_no : Takes X (fun _ _ _ _ => False) := fun u s' x => by
  obtain ⟨a, B, sI, pq, σ', H', cls, d, e, J0, nb, up, sky, na, os, ag, z⟩ := x
  exact False.elim z
theorem ss_tryC (hs : X.stack = X.env :: X.outer) (hf : X.env.frame = some X.env.locals) (hc : Names X x c)
    (hk : ∀ e ∈ kn, ∃ C, X.mg e = some (.ref C) ∧ PySem.W.exmOne X.K (.ref C) c = some true)
    (hb : ∀ (W : WX) (pq : List (Addr × Obj)) (xe : Value → Shared → Prop), Takes (X.tr pq xe) W → PassesOwn (model X.prog X.w) X.A X.env xe → PSs (X.tr pq xe) body (tSX X.K R pn X.mg W b))
    (hsu : ∀ (a : Addr) (oe : Obj) (cls : Value) (d : Option Addr) (pq : List (Addr × Obj)), PSs (X.suite a ((a, oe) :: pq)) (b0 :: suite) (tS X.K R pn h)) :
    PS X (.Try body [.ExceptHandler (some (.Name x np)) none (b0 :: suite) pos'] [] [] pos) (tS X.K R pn (gTryC kn b h)) := by
  refine PS.imp (ps_try_only (tb := fun W => tSX X.K R pn X.mg W b) (ts := fun _ _ _ => tS X.K R pn h) (Wout := fun _ _ _ _ => False) hs hf hc tk_no hb (fun a oe cls d pq _ _ => hsu a oe cls d pq)) ?_
  rintro Dn σ H ⟨G, F, ds, o, rr, e, k⟩
  unfold gTryC at e
  cases eb : b ds with
  | none => rw [eb] at e; cases e
  | some o1 =>
    rw [eb, Option.bind_some] at e
    refine ⟨G, F, ds, o1, rr, eb, ?_⟩
    cases o1 with
    | out o2 => cases e; exact k
    | ex x1 ds1 =>
      dsimp only at e
      by_cases hx : x1.nm ∈ kn
      · rw [if_pos hx] at e
        obtain ⟨C0, hC0, hm0⟩ := hk _ hx
        intro cls d σ' G' H' F' xi r' s p
        obtain ⟨⟨C, hC, rfl⟩, _⟩ := xi
        rw [hC0] at hC
        cases hC
        exact ⟨true, hm0, fun _ a na => ⟨G', F', ds1, o, r', e, k.shift s p⟩, fun z => nomatch z⟩
      · rw [if_neg hx] at e; cases e
end
open Classical in
structure ClE (P : Program) (w : World) (K : PySem.W.Frag) (mg : Str → Option Value) (k : Nat) (x : Str) (F : Exc → List D → Option (MO Exc × Exc)) : Prop where
  ex : ∃ (f : Addr) (fd : FuncData) (ps : List Str), (∀ (base : Heap) (a : Addr) (oe : Obj) (cls : Value) (d : Option Addr), K.In base → base.Ns mainGlobals mg → base.get? a = some oe → Zc cls d oe → (∃ vs, oe.data = .fields vs) →
    FnG P w K mg base CX0 k f fd ps (spS K (R1e K mg a cls d) 1 F)) ∧ Binds K fd ps [] ∧ PySem.W.keepIn K (.ref f) = true ∧ mg x = some (.ref f)
section
variable {X : Cx} {a : Addr} {oe : Obj} {cls : Value} {dx : Option Addr} {j k i : Nat} {x : Str} {e : Expr} {p pos : Pos} {F : Exc → List D → Option (MO Exc × Exc)}
end
abbrev XE (S : Type) := DS S → Option (Except Exc D × DS S)
section
variable {S : Type} {K : PySem.W.Frag} {R : StI S} {mg : Str → Option Value} {W : WX}
def XEE (K : PySem.W.Frag) (R : StI S) (mg : Str → Option Value) (W : WX) (σ : L2.St) (G H : Hp) (P : Addr → Prop) (ds' : DS S) (Q : VK) : Except Exc D → Prop
  | .ok d => ∀ v G' H' F', RS K R ds' σ G' H' F' → Step G H P G' H' (fun a => ∃ i, F' i a) → Den K G' v d → Q v H'
  | .error x => ∀ cls dd G' H' F', ExcIs K G' mg x cls dd → RS K R ds' σ G' H' F' → Step G H P G' H' (fun a => ∃ i, F' i a) → W cls dd σ H'
def tXE (K : PySem.W.Frag) (R : StI S) (mg : Str → Option Value) (W : WX) (f : XE S) : TE := fun σ H Q => ∃ G F ds r ds', RS K R ds σ G H F ∧ f ds = some (r, ds') ∧ XEE K R mg W σ G H (fun a => ∃ i, F i a) ds' Q r
theorem XEE.shift {σ : L2.St} {G H G1 H1 : Hp} {P P1 : Addr → Prop} {ds' : DS S} {Q : VK} {r : Except Exc D} (h : XEE K R mg W σ G H P ds' Q r) (s : Step G H P G1 H1 P1) : XEE K R mg W σ G1 H1 P1 ds' Q r := by
  cases r with
  | ok d => exact fun v G' H' F' r t dn => h v G' H' F' r (s.trans t) dn
  | error x => exact fun cls dd G' H' F' xi r t => h cls dd G' H' F' xi r (s.trans t)
def exD : Except Exc (MO S) → Option (Except Exc D)
  | .ok (.d x) => some (.ok x)
  | .ok (.lst xs) => some (.ok (.list xs))
  | .ok _ => none
  | .error e => some (.error e)
def eCall (n : Nat) (F : List D → Option (Except Exc (MO S))) (fs : XF S (List D)) : XE S := fun ds => (fs ds).bind fun q => if q.1.length = n then (F q.1).bind fun r => (exD r).map fun y => (y, q.2) else none
def gAsgE (i : Nat) (f : XE S) : SFX S := fun ds => (f ds).map fun q => match q.1 with
  | .ok d => .out (.nx (q.2.set i (some (.d d))))
  | .error e => .ex e q.2
end
section
variable {S : Type} {X : Cx} {R : StI S} {W : WX} {k j n i : Nat} {x : Str} {p pos pos2 : Pos} {e a b c : Expr} {es : List Expr} {pn : List Nat} {fa fb : XE S} {id : String} {rr : List V → Hp → VK → Prop} {g : List D → Option D}
theorem xe_call {F : List D → Option (Except Exc (MO S))} {fs : XF S (List D)} (c : ClX X.prog X.w X.K R X.mg X.base j x n F) (hk : j ≤ k) (hr : Room k X.A) (hgd : X.A.guards = some []) (hg : Gl X x) (tk : Takes X W) (ha : PA X (e :: es) (tXA X.K R fs))
    (hd : (x == ("__debug__" : Str)) = false := by decide) (he : starEach (e :: es) X.env = (false, eval e X.env) :: starEach es X.env := by rfl) (hpl : (backTo pos (starEach es X.env)).any (·.1) = false := by rfl) :
    PE X (.Call (.Name x p) (e :: es) [] pos) (tXE X.K R X.mg W (eCall n F fs)) := by
  obtain ⟨f, fd, ps, Fn, hb, hkp, hm⟩ := c.ex
  refine PE.imp (pe_callGS (Fn.up hk) hr hgd hg hm hkp hb tk ha hd he hpl) ?_
  rintro σ H Q ⟨G, F0, ds, r, ds', rs, e, kk⟩
  unfold eCall at e
  cases ef : fs ds with
  | none => rw [ef] at e; cases e
  | some q =>
    rw [ef, Option.bind_some] at e
    by_cases hn : q.1.length = n
    · rw [if_pos hn] at e
      cases eF : F q.1 with
      | none => rw [eF] at e; cases e
      | some r0 =>
        rw [eF, Option.bind_some] at e
        cases ed : exD r0 with
        | none => rw [ed] at e; cases e
        | some y =>
        rw [ed] at e
        cases e
        refine ⟨G, F0, ds, q.1, q.2, rs, ef, fun vs G1 H1 F1 r1 s1 d1 => ?_⟩
        refine ⟨by rw [d1.length]; exact hn, G1, q.1, r0, r1.sub, d1, eF, ?_⟩
        cases r0 with
        | ok m =>
          intro v G2 H2 fr s2 o2 n2
          obtain ⟨r2, s3, ap⟩ := r1.callee s2
          cases m with
          | d z =>
            cases ed
            exact kk v G2 H2 F1 r2 ((s1.trans s3).weaken fun _ z => .inl z) o2.1
          | lst xs =>
            cases ed
            obtain ⟨p0, vs2, rfl, hq, z, dd, fq⟩ := o2
            have hG : G2 p0 = none := n2 p0 ((fq p0).mpr rfl)
            have hH : H1 p0 = none := (s2.newf p0 ((fq p0).mpr rfl)).elim False.elim fun z => z
            have gr := (step_gr s2).freeze hG hH hq
            exact kk (.ref p0) (upd G2 p0 (.lst vs2)) H2 F1 (r1.grow gr) (s1.trans gr.step) (.lst upd_same z (dd.mono fun b u e => by rw [upd_ne (ne_of_none e hG)]; exact e))
          | st s => cases ed
          | scr ns => cases ed
          | dic kvs => cases ed
          | lk kvs => cases ed
          | dp z => cases ed
          | obj y fs => cases ed
        | error x1 =>
          cases ed
          intro cls d G2 H2 xi s2
          obtain ⟨r2, s3, ap⟩ := r1.callee s2
          exact kk cls d G2 H2 F1 xi r2 ((s1.trans s3).weaken fun _ z => .inl z)
    · rw [if_neg hn] at e; cases e
end
section
variable {X : Cx} {x n : Str} {c : Value} {i : Nat} {body suite : List Stmt} {b0 : Stmt} {np pos pos' : Pos} {b : SFX Exc} {h : SF Exc} {kn : List Str}
end
abbrev XEL (S : Type) := DS S → Option (Except Exc (List D) × DS S)
section
variable {S : Type} {K : PySem.W.Frag} {R : StI S} {mg : Str → Option Value} {W : WX}
end
section
variable {S : Type} {X : Cx} {R : StI S} {W : WX} {k j n i : Nat} {x : Str} {p pos pos2 : Pos} {e : Expr} {es : List Expr} {pn : List Nat} {fa : XE S} {fl : XEL S}
theorem sx_setE {pos' : Pos} (hp : i ∉ pn) (hN : X.N.Nodup) (hi : X.N[i]? = some x) (hx : Loc X.env.scope x) (he : PE X e (tXE X.K R X.mg W fa)) (hs : swapsWith e (some (.Name x pos')) pos.line X.env = pure false := by rfl) (hf : X.fn x = true ∨ X.env.scope.names.lookup x = some .local := by first | exact .inl rfl | exact .inr rfl | assumption) :
    PS X (.Assign [.Name x pos'] e pos) (tSX X.K R pn X.mg W (gAsgE i fa)) := PS.imp (ps_set hN hi hx he hs hf) fun Dn σ H ⟨G, F, ds, o, rs, e, kk⟩ => by
  unfold gAsgE at e
  cases ef : fa ds with
  | none => rw [ef] at e; cases e
  | some q =>
    rw [ef] at e
    obtain ⟨r0, ds1⟩ := q
    refine ⟨G, F, ds, r0, ds1, rs, ef, ?_⟩
    cases r0 with
    | ok d =>
      cases e
      intro v G' H' F' r' s' dn
      obtain ⟨F2, r2, u2⟩ := r'.setd i dn
      exact kk _ G' H' F2 r2 (s'.weaken u2) fun j hj => by rw [List.getElem?_set_ne fun z => hp (by rw [z]; exact hj)]
    | error x1 =>
      cases e
      exact fun cls dd G' H' F' xi r' s' => kk cls dd σ G' H' F' xi r' s' fun _ _ => rfl
end
section
variable {S : Type} {K : PySem.W.Frag} {R : StI S} {mg : Str → Option Value} {W : WX} {pn : List Nat} {Dn : Ends} {σ : L2.St} {H : Hp} {g : SFX S}
def tXIE (K : PySem.W.Frag) (R : StI S) (mg : Str → Option Value) (W : WX) (f : XEL S) : TI := fun σ H Q => ∃ G F ds r ds', RS K R ds σ G H F ∧ f ds = some (r, ds') ∧ match r with
  | .ok xs => ∀ J G' H' F', RS K R ds' σ G' H' F' → Step G H (fun a => ∃ i, F i a) G' H' (fun a => ∃ i, F' i a) → ItD false K J xs G' → Q J H'
  | .error x => ∀ cls dd G' H' F', ExcIs K G' mg x cls dd → RS K R ds' σ G' H' F' → Step G H (fun a => ∃ i, F i a) G' H' (fun a => ∃ i, F' i a) → W cls dd σ H'
def forRunX (t : D → Option (List (Nat × D))) (body : SFX S) : List D → SFX S
  | [], ds => some (.out (.nx ds))
  | x :: xs, ds => (t x).bind fun as => (body (setD ds as)).bind fun o => match o with
    | .out (.nx ds') => forRunX t body xs ds'
    | .out (.ct ds') => forRunX t body xs ds'
    | .out (.bk ds') => some (.out (.nx ds'))
    | .out (.rt m ds') => some (.out (.rt m ds'))
    | .ex e ds' => some (.ex e ds')
def gForX (src : XEL S) (t : D → Option (List (Nat × D))) (body : SFX S) : SFX S := fun ds => (src ds).bind fun p => match p.1 with
  | .ok xs => forRunX t body xs p.2
  | .error e => some (.ex e p.2)
def eL (f : XF S (List D)) : XEL S := fun ds => (f ds).map fun q => (.ok q.1, q.2)
theorem s_forX {src : XEL S} {t : D → Option (List (Nat × D))} {tg : TG} (ht : TGD false K tg t) (hp : ∀ d as, t d = some as → ∀ p ∈ as, p.1 ∉ pn) (w : tSX K R pn mg W (gForX src t g) Dn σ H) : tFor (tXIE K R mg W src) tg (tSX K R pn mg W g) Dn σ H := by
  obtain ⟨G, F, ds, o, r, e, k⟩ := w
  unfold gForX at e
  cases ef : src ds with
  | none => rw [ef] at e; cases e
  | some p =>
    rw [ef] at e
    simp only [Option.bind_some] at e
    obtain ⟨r0, ds1⟩ := p
    refine ⟨G, F, ds, r0, ds1, r, ef, ?_⟩
    cases r0 with
    | error x1 =>
      cases e
      exact fun cls dd G' H' F' xi r' s' => k cls dd σ G' H' F' xi r' s' fun _ _ => rfl
    | ok xs =>
    intro J G1 H1 F1 r1 s1 it
    refine ⟨fun i m σc Hc => m = xs.length - i ∧ i ≤ xs.length ∧ ∃ Gc Fc dsc, RS K R dsc σc Gc Hc Fc ∧ Step G H (fun a => ∃ j, F j a) Gc Hc (fun a => ∃ j, Fc j a) ∧ Same G1 Gc ∧ (∀ j ∈ pn, σc[j]? = σ[j]?) ∧ forRunX t g (xs.drop i) dsc = some o,
      ⟨xs.length, rfl, Nat.zero_le _, G1, F1, ds1, r1, s1, Same.refl _, fun _ _ => rfl, by simpa using e⟩, ?_⟩
    rintro i m σc Hc ⟨rfl, hi, Gc, Fc, dsc, rc, sc, gc, pc, ec⟩
    by_cases hlt : i < xs.length
    · refine .inr ⟨it.go i Hc (gc.trans rc.sub) hlt, fun σ' H' => ∃ m', m' < xs.length - i ∧ (m' = xs.length - (i + 1) ∧ i + 1 ≤ xs.length ∧ ∃ Gc Fc dsc, RS K R dsc σ' Gc H' Fc ∧ Step G H (fun a => ∃ j, F j a) Gc H' (fun a => ∃ j, Fc j a) ∧ Same G1 Gc ∧ (∀ j ∈ pn, σ'[j]? = σ[j]?) ∧ forRunX t g (xs.drop (i + 1)) dsc = some o), fun σ' H' z => z, fun x H' y => ?_⟩
      obtain ⟨d, hd, grow⟩ := it.yld i Hc x H' (gc.trans rc.sub) hlt y
      obtain ⟨Ga, ga, dx⟩ := grow Gc gc rc.sub
      have ra := rc.grow ga
      have hdrop : xs.drop i = d :: xs.drop (i + 1) := by
        rw [List.drop_eq_getElem_cons hlt]
        rw [List.getElem?_eq_getElem hlt] at hd
        cases hd
        rfl
      rw [hdrop] at ec
      unfold forRunX at ec
      cases et : t d with
      | none => rw [et] at ec; cases ec
      | some as =>
        rw [et] at ec
        simp only [Option.bind_some] at ec
        cases eb : g (setD dsc as) with
        | none => rw [eb] at ec; cases ec
        | some o1 =>
          rw [eb] at ec
          simp only [Option.bind_some] at ec
          refine ht x d as σc Ga H' _ ga.sub dx et fun ws aw => ?_
          obtain ⟨F2, r2, u2⟩ := ra.setAll aw
          have sa : Step G H (fun a => ∃ j, F j a) Ga H' (fun a => ∃ j, F2 j a) := (sc.trans ga.step).weaken u2
          have pa : ∀ j ∈ pn, (setAll σc ws)[j]? = σ[j]? := fun j hj => by
            rw [setAll_out (own := (as.map (·.1))) (fun z => ?_) (asgV_slots aw fun q hq => List.mem_map_of_mem hq)]
            · exact pc j hj
            · obtain ⟨q, hq, rfl⟩ := List.mem_map.mp z
              exact hp d as et q hq hj
          refine ⟨Ga, F2, setD dsc as, o1, r2, eb, ?_⟩
          have again : ∀ ds', forRunX t g (xs.drop (i + 1)) ds' = some o → After K R pn (setAll σc ws) Ga H' (fun a => ∃ j, F2 j a) ds' (fun σ' H' => ∃ m', m' < xs.length - i ∧ (m' = xs.length - (i + 1) ∧ i + 1 ≤ xs.length ∧ ∃ Gc Fc dsc, RS K R dsc σ' Gc H' Fc ∧ Step G H (fun a => ∃ j, F j a) Gc H' (fun a => ∃ j, Fc j a) ∧ Same G1 Gc ∧ (∀ j ∈ pn, σ'[j]? = σ[j]?) ∧ forRunX t g (xs.drop (i + 1)) dsc = some o)) :=
            fun ds' e' σ' G' H2 F' r' s' p' => ⟨xs.length - (i + 1), by omega, rfl, hlt, G', F', ds', r', sa.trans s', gc.trans (ga.keep.trans s'.keep), fun j hj => (p' j hj).trans (pa j hj), e'⟩
          cases o1 with
          | ex x1 ds' => cases ec; exact XEnd.shift (Dn := Dn) (o := .ex x1 ds') k sa pa
          | out o2 =>
            cases o2 with
            | nx ds' => exact again ds' ec
            | ct ds' => exact again ds' ec
            | bk ds' => cases ec; exact After.shift k sa pa
            | rt m ds' => cases ec; exact SEnd.shift (Dn := Dn) (o := .rt m ds') k sa pa
    · have e' : i = xs.length := by omega
      subst e'
      rw [List.drop_length] at ec
      cases ec
      exact .inl ⟨it.stop _ Hc (gc.trans rc.sub) (Nat.le_refl _) (Nat.le_refl _), k σc Gc Hc Fc rc sc pc⟩
end
section
variable {S : Type} {X : Cx} {R : StI S} {W : WX} {pn : List Nat} {tg iter : Expr} {body : List Stmt} {pos : Pos} {fa : XE S} {g : SFX S}
theorem xi_L {f : XF S (List D)} (h : PI X tg iter (tXI false X.K R f)) : PI X tg iter (tXIE X.K R X.mg W (eL f)) := PI.imp h fun σ H J ⟨G, F, ds, r, ds', rs, e, k⟩ => by
  unfold eL at e
  cases ef : f ds with
  | none => rw [ef] at e; cases e
  | some q =>
    rw [ef] at e
    cases e
    exact ⟨G, F, ds, q.1, q.2, rs, ef, k⟩
theorem sx_for {src : XEL S} {t : D → Option (List (Nat × D))} {gt : TG} (po : PassesOwn (model X.prog X.w) X.A X.env X.xe) (ht : TGD false X.K gt t) (hp : ∀ d as, t d = some as → ∀ p ∈ as, p.1 ∉ pn) (hc : X.calm = true) (hi : PI X tg iter (tXIE X.K R X.mg W src)) (hg : PG X tg gt) (hb : PSs X body (tSX X.K R pn X.mg W g))
    (hs : ∀ x, foldedSetIterable iter X.env x = pure x := by intro _; rfl) : PS X (.For tg iter body [] pos) (tSX X.K R pn X.mg W (gForX src t g)) := PS.imp (ps_for po hc hi hg hb hs) fun _ _ _ => s_forX ht hp
end
abbrev XEM (S : Type) := DS S → Option (Except Exc (MO S) × DS S)
section
variable {S : Type} {K : PySem.W.Frag} {R : StI S} {mg : Str → Option Value} {W : WX}
end
section
variable {S : Type} {X : Cx} {R : StI S} {W : WX} {k j n i : Nat} {x : Str} {p pos : Pos} {e : Expr} {es : List Expr} {pn : List Nat} {fa : XEM S}
end
section
variable {K : PySem.W.Frag} {G H : Hp}
end
section
variable {K : PySem.W.Frag} {ds : DS2} {σ : L2.St} {G H : Hp} {F : Nat → Addr → Prop} {j : Nat} {xss : List (List (Option Int))}
open Classical in
variable {X : Cx} {c : Expr}
end
section
variable {S : Type} {X : Cx} {K : PySem.W.Frag} {R : StI S} {j k n : Nat} {x : Str} {p pos : Pos} {e : Expr} {es : List Expr}
variable {src : DS S → Option (List D)} {own : List Nat} {t : D → Option (List (Nat × D))} {g : DS S → Option (List D)} {tg : TG}
end
section
variable {X : Cx} {elt tg iter e : Expr} {scope : Scope} {own : List (Str × Nat)} {pos : Pos} {t : D → Option (List (Nat × D))} {gt : TG}
end
section
variable {X : Cx} {pn : List Nat} {tg iter o : Expr} {i j : Nat} {pos bpos apos cpos cp : Pos}
end
section
variable {prog : Program} {w : World} {A : Around} {E : Value → Shared → Prop} {R : Result → Shared → Prop}
end
section
variable {X : Cx} {K : PySem.W.Frag}
end
def fldL (f : Str) : List (D × D) → Option D
  | [] => none
  | (.str g, d) :: r => if g = f then some d else fldL f r
  | _ :: r => fldL f r
section
variable {K : PySem.W.Frag} {G : Hp} {f : Str}
theorem fs_some : ∀ {fs : List (Str × V)} {es : List (D × D)} {d : D}, DenFs K G fs es → fldL f es = some d → ∃ v, fs.lookup f = some v ∧ Den K G v d
  | _, _, _, .nil, e => by cases e
  | _, _, d, .cons (f := g) (v := v) (r := r) h t, e => by
    unfold fldL at e
    by_cases z : g = f
    · rw [if_pos z] at e
      cases e
      subst z
      exact ⟨v, by simp [List.lookup], h⟩
    · rw [if_neg z] at e
      obtain ⟨u, h1, h2⟩ := fs_some t e
      have hb : (f == g) = false := beq_eq_false_iff_ne.mpr (Ne.symm z)
      exact ⟨u, by simp only [List.lookup, hb]; exact h1, h2⟩
theorem fs_none : ∀ {fs : List (Str × V)} {es : List (D × D)}, DenFs K G fs es → fldL f es = none → fs.lookup f = none
  | _, _, .nil, e => rfl
  | _, _, .cons (f := g) (v := v) (r := r) h t, e => by
    unfold fldL at e
    by_cases z : g = f
    · rw [if_pos z] at e; cases e
    · rw [if_neg z] at e
      have hb : (f == g) = false := beq_eq_false_iff_ne.mpr (Ne.symm z)
      simp only [List.lookup, hb]
      exact fs_none t e
end
def fldD (x f : Str) : D → Option D
  | .dict ((.none, .str y) :: es) => if y = x then fldL f es else none
  | _ => none
def meOk (x m : Str) : D → Bool
  | .dict ((.none, .str y) :: es) => decide (y = x) && (fldL m es).isNone
  | _ => false
theorem den_obj {K : PySem.W.Frag} {G : Hp} {v : V} {x : Str} {es : List (D × D)} (h : Den K G v (.dict ((.none, .str x) :: es))) : ∃ a C dx fs, v = .ref a ∧ G a = some (.ins C dx fs) ∧ PySem.W.nsIn K mainGlobals x = some (some (.ref C)) ∧ DenFs K G fs es := by
  cases h with
  | obj e n r => exact ⟨_, _, _, _, rfl, e, n, r⟩
structure ClsX (K : PySem.W.Frag) (x : Str) (C : Addr) : Prop where
  ns : PySem.W.nsIn K mainGlobals x = some (some (.ref C))
  cl : Cls K C
section
variable {S : Type} {X : Cx} {e o : Expr} {es : List Expr} {x f m : Str} {C : Addr} {pos apos : Pos} {g go : DS S → Option D} {gs : DS S → Option (List D)}
def gFld (x f : Str) (g : DS S → Option D) : DS S → Option D := fun ds => (g ds).bind (fldD x f)
theorem p_fld {K : PySem.W.Frag} (cx : ClsX K x C) (na : NoAttr K C f) {σ : L2.St} {H : Hp} {Q : VK} (h : tP K (gFld x f g) σ H Q) : tFld K (tP K g) f σ H Q := by
  obtain ⟨G, ds, d, s, w, e, k⟩ := h
  unfold gFld at e
  cases eg : g ds with
  | none => rw [eg] at e; cases e
  | some d0 =>
    rw [eg, Option.bind_some] at e
    refine ⟨G, ds, d0, s, w, eg, fun v G1 H1 g1 d1 => ?_⟩
    unfold fldD at e
    split at e
    · rename_i y es'
      split at e
      · rename_i hy
        subst hy
        obtain ⟨a, C', dx, fs, rfl, ha, hn, hf⟩ := den_obj d1
        have : C' = C := by rw [cx.ns] at hn; cases hn; rfl
        subst this
        obtain ⟨u, hu, du⟩ := fs_some hf e
        exact ⟨a, C', dx, fs, u, rfl, g1.sub _ _ ha, cx.cl, na, hu, k u G1 H1 g1 du⟩
      · cases e
    · cases e
theorem ep_fld (cx : ClsX X.K x C) (na : NoAttr X.K C f) (he : PE X e (tP X.K g)) (hb : attributeBase e f X.env (eval e X.env) = eval e X.env := by rfl) : PE X (.Attribute e f pos) (tP X.K (gFld x f g)) :=
  PE.imp (pe_fld he hb) fun _ _ _ h => p_fld cx na h
section
variable {CT : CXT} {k : Nat} {fa : Addr} {fd : FuncData} {ps : List Str} {sp : Sp} {E : XK} {ta : TE} {t : TA}
theorem pe_methG {pl : Sem Bool} (he : PE X o ta) (c : Cls X.K C) (hm : Meth X.K C m fa) (F : FnG X.prog X.w X.K X.mg X.base CT k fa fd ps sp) (hr : Room k X.A) (hgd : X.A.guards = some []) (hb : Binds X.K fd ps []) (hx : Passes CT X E) (ha : PA X (e :: es) t)
    (hst : starEach (e :: es) X.env = (false, eval e X.env) :: starEach es X.env := by rfl) (hpl : (backTo pos (starEach es X.env)).any (·.1) = false := by rfl)
    (ht : eval (.Call (.Attribute o m apos) (e :: es) [] pos) X.env = (do
      let ov ← eval o X.env
      standAt apos.atName
      let (f, first) ← holding [ov] (getMethod ov m pl)
      callWith pos f first (backTo pos (starEach (e :: es) X.env)) (backToKw pos (keywordEach [] X.env))) := by rfl) :
    PE X (.Call (.Attribute o m apos) (e :: es) [] pos) (tMeth C m sp [] E ta t) := by
  refine ⟨fun pins s σ H Q I h => ?_⟩
  refine PySem.W.methodCall_KW (pl := pl) (thn (he.run pins s σ H _ I h) fun u s1 ⟨x, H1, I1, rx, a, dx, fs, ex, ea, l, q⟩ => ?_) ht
  subst ex
  obtain rfl : u = Value.ref a := rx
  refine getmeth_ok I1 ea c hm l ?_
  refine PySem.W.callWith_K (first := [.ref a]) (h₀ := X.base) I1.ok.mod.kin hm.kp (thn (ha.run pos pins s1 σ H1 _ I1 q) fun us s2 ⟨vs, H2, I2, r, q2⟩ => ⟨I2.kIn, ?_⟩) hst hpl
  refine runG (us := .ref a :: us) (vs := .ref a :: vs) F hr hgd hb hx I2 (.cons rfl r) ?_
  have q3 : sp (V.ref a :: (vs ++ [])) H2 Q E := q2
  rw [List.append_nil] at q3
  exact q3
theorem pe_methG0 {pl : Sem Bool} (he : PE X o ta) (c : Cls X.K C) (hm : Meth X.K C m fa) (F : FnG X.prog X.w X.K X.mg X.base CT k fa fd ps sp) (hr : Room k X.A) (hgd : X.A.guards = some []) (hb : Binds X.K fd ps []) (hx : Passes CT X E)
    (ht : eval (.Call (.Attribute o m apos) [] [] pos) X.env = (do
      let ov ← eval o X.env
      standAt apos.atName
      let (f, first) ← holding [ov] (getMethod ov m pl)
      callWith pos f first (backTo pos (starEach [] X.env)) (backToKw pos (keywordEach [] X.env))) := by rfl) :
    PE X (.Call (.Attribute o m apos) [] [] pos) (tMeth C m sp [] E ta tNil) := by
  refine ⟨fun pins s σ H Q I h => ?_⟩
  refine PySem.W.methodCall_KW (pl := pl) (thn (he.run pins s σ H _ I h) fun u s1 ⟨x, H1, I1, rx, a, dx, fs, ex, ea, l, q⟩ => ?_) ht
  subst ex
  obtain rfl : u = Value.ref a := rx
  refine getmeth_ok I1 ea c hm l ?_
  exact PySem.W.callWith_K0 (first := [.ref a]) I1.kIn hm.kp (runG (us := [.ref a]) (vs := [.ref a]) F hr hgd hb hx I1 (.cons rfl .nil) q)
end
structure ClM (P : Program) (w : World) (K : PySem.W.Frag) (mg : Str → Option Value) (base : Heap) (k : Nat) (C : Addr) (m : Str) (sp : Sp) : Prop where
  ex : ∃ f fd ps, FnG P w K mg base CX0 k f fd ps sp ∧ Binds K fd ps [] ∧ Meth K C m f
variable {R : StI S} {j k n : Nat} {F : List D → Option (MO S)}
def gMeth (n : Nat) (x m : Str) (F : List D → Option (MO S)) (go : DS S → Option D) (gs : DS S → Option (List D)) : DS S → Option D := fun ds => (go ds).bind fun d => (gs ds).bind fun as => if meOk x m d = true ∧ as.length + 1 = n then (F (d :: as)).bind toD else none
theorem me_den {K : PySem.W.Frag} {G H : Hp} {v : V} {d : D} (cx : ClsX K x C) (h : meOk x m d = true) (s : Same G H) (dv : Den K G v d) : ∃ a dx fs, v = .ref a ∧ H a = some (.ins C dx fs) ∧ fs.lookup m = none := by
  unfold meOk at h
  split at h
  · rename_i y es'
    rw [Bool.and_eq_true] at h
    have hy := of_decide_eq_true h.1
    subst hy
    obtain ⟨a, C', dx, fs, rfl, ha, hn, hf⟩ := den_obj dv
    have : C' = C := by rw [cx.ns] at hn; cases hn; rfl
    subst this
    exact ⟨a, dx, fs, rfl, s _ _ ha, fs_none hf (Option.isNone_iff_eq_none.mp h.2)⟩
  · cases h
theorem p_meth {K : PySem.W.Frag} (cx : ClsX K x C) {σ : L2.St} {H : Hp} {Q : VK} (h : tP K (gMeth n x m F go gs) σ H Q) : tMeth C m (spP K R n F) [] E0 (tP K go) (tPA K gs) σ H Q := by
  obtain ⟨G, ds, d, s, w, e, k⟩ := h
  unfold gMeth at e
  cases eg : go ds with
  | none => rw [eg] at e; cases e
  | some d0 =>
    rw [eg, Option.bind_some] at e
    cases ea : gs ds with
    | none => rw [ea] at e; cases e
    | some as =>
      rw [ea, Option.bind_some] at e
      split at e
      · rename_i hm
        cases ef : F (d0 :: as) with
        | none => rw [ef] at e; cases e
        | some m0 =>
          rw [ef] at e
          refine ⟨G, ds, d0, s, w, eg, fun v G1 H1 g1 d1 => ?_⟩
          obtain ⟨a, dx, fs, rfl, ha, hf⟩ := me_den cx hm.1 g1.sub d1
          refine ⟨a, dx, fs, rfl, ha, hf, G1, ds, as, g1.sub, w.mono g1.keep, ea, fun vs G2 H2 g2 d2 => ?_⟩
          show spP K R n F (V.ref a :: (vs ++ [])) H2 Q E0
          rw [List.append_nil]
          refine ⟨by rw [List.length_cons, d2.length]; exact hm.2, G2, d0 :: as, m0, g2.sub, .cons (d1.mono g2.keep) d2, ef, fun u G3 H3 fr s3 o n3 => ?_⟩
          have gg := (g1.trans g2).trans (step_gr s3)
          cases m0 with
          | d y => cases e; exact k u G3 H3 gg o.1
          | lst xs =>
            cases e
            obtain ⟨q, vs2, rfl, hq, z, dd, fq⟩ := o
            have hG : G3 q = none := n3 q ((fq q).mpr rfl)
            have hH : H2 q = none := (s3.newf q ((fq q).mpr rfl)).elim False.elim fun z => z
            exact k _ (upd G3 q (.lst vs2)) H3 ((g1.trans g2).trans ((step_gr s3).freeze hG hH hq)) (.lst upd_same z (dd.mono fun b u e => by rw [upd_ne (ne_of_none e hG)]; exact e))
          | st s => cases e
          | scr ns => cases e
          | dic kvs =>
            cases e
            obtain ⟨q, vs2, rfl, hq, z, dd, fq⟩ := o
            have hG : G3 q = none := n3 q ((fq q).mpr rfl)
            have hH : H2 q = none := (s3.newf q ((fq q).mpr rfl)).elim False.elim fun z => z
            exact k _ (upd G3 q (.dK vs2)) H3 ((g1.trans g2).trans ((step_gr s3).freeze hG hH hq)) (.dct upd_same z (kvs_den (dd.mono fun b u e => by rw [upd_ne (ne_of_none e hG)]; exact e)))
          | lk kvs => cases e
          | dp x => cases e
          | obj y fs => cases e
      · cases e
theorem cp_meth0 (cm : ClM X.prog X.w X.K X.mg X.base j C m (spP X.K R n F)) (cx : ClsX X.K x C) (hk : j ≤ k) (hr : Room k X.A) (hgd : X.A.guards = some []) (ho : PE X o (tP X.K go)) {pl : Sem Bool}
    (ht : eval (.Call (.Attribute o m apos) [] [] pos) X.env = (do
      let ov ← eval o X.env
      standAt apos.atName
      let (f, first) ← holding [ov] (getMethod ov m pl)
      callWith pos f first (backTo pos (starEach [] X.env)) (backToKw pos (keywordEach [] X.env))) := by rfl) :
    PE X (.Call (.Attribute o m apos) [] [] pos) (tP X.K (gMeth n x m F go gNil)) := by
  obtain ⟨f, fd, ps, Fn, hb, hm⟩ := cm.ex
  exact PE.imp (pe_methG0 ho cx.cl hm (Fn.up hk) hr hgd hb pass0 ht) fun σ H Q h => by
    have q := p_meth (R := R) cx h
    obtain ⟨G, ds, d, s, w, e, k⟩ := q
    refine ⟨G, ds, d, s, w, e, fun v G1 H1 g1 d1 => ?_⟩
    obtain ⟨a, dx, fs, e1, e2, e3, G2, ds2, as, s2, w2, ea, k2⟩ := k v G1 H1 g1 d1
    cases ea
    exact ⟨a, dx, fs, e1, e2, e3, k2 [] G2 H1 (.refl s2) .nil⟩
def oMeth (n : Nat) (x m : Str) (F : List D → Option (MO S)) (go : DS S → Option D) (gs : DS S → Option (List D)) : XF S (MO S) := fun ds => (go ds).bind fun d => (gs ds).bind fun as => if meOk x m d = true ∧ as.length + 1 = n then (F (d :: as)).bind fun r => match r with
  | .d y => if noList y = true then some (.d y, ds) else none
  | .lst ys => if noListAll ys = true then some (.lst ys, ds) else none
  | _ => none else none
end
abbrev Fls := List (Str × FV)
section
variable {S : Type}
def objAt (ds : DS S) (i : Nat) (x : Str) : Option Fls := match ds[i]? with
  | some (some (.obj y fs)) => if y = x then some fs else none
  | _ => none
theorem objAt_some {ds : DS S} {i : Nat} {x : Str} {fs : Fls} (h : objAt ds i x = some fs) : ds[i]? = some (some (.obj x fs)) := by
  unfold objAt at h
  split at h
  · split at h
    · rename_i hy
      cases h
      subst hy
      assumption
    · cases h
  · cases h
def spB (K : PySem.W.Frag) (R : StI S) (x : Str) (n : Nat) (F : Fls → List D → Option (MO S × Fls)) : Sp := fun vs H Q _ => vs.length = n ∧ ∃ G fp v0 vr fs as m fs', vs = v0 :: vr ∧ Same G H ∧ OwnAt (S := S) K R G H v0 (.obj x fs) fp ∧ (∀ a, fp a → G a = none) ∧ DenAll K G vr as ∧ F fs as = some (m, fs') ∧
  ∀ v G' H' fp' fr, Step G H fp G' H' (fun a => fp' a ∨ fr a) → OwnAt (S := S) K R G' H' v0 (.obj x fs') fp' → OwnAt K R G' H' v m fr → (∀ a, fr a → ¬ fp' a) → (∀ a, fp' a ∨ fr a → G' a = none) → Q v H'
def runB (x : Str) (n : Nat) (g : SF S) : Fls → List D → Option (MO S × Fls) := fun fs as => (g (startD n (.obj x fs :: as.map .d))).bind fun o => (outM o).bind fun p => (objAt p.2 0 x).map fun fs' => (p.1, fs')
section
variable {K : PySem.W.Frag} {R : StI S} {P : Program} {w : World} {mg : Str → Option Value} {base : Heap} {x qual c : Str} {st : Stmt} {f : Addr} {fd : FuncData} {N ps : List Str} {k : Nat} {g : SF S}
theorem fn_B (Fn : Fun K x qual st f fd) (sc : FnScope N ps (defScope st)) (hbody : BodyOk P w K mg base N qual st f k R [0] g) : FnG P w K mg base CX0 (k + 1) f fd ps (spB K R c ps.length (runB c N.length g)) := by
  refine fnG_of Fn sc (fun vs H Q E h => h.1) fun cdv A outer s H vs Q E hr hgd h => ⟨_, hbody cdv A outer s H E hr hgd, ?_⟩
  obtain ⟨hl, G, fp, v0, vr, t, as, m, t', rfl, sm, rel, nn, d, e, q⟩ := h
  unfold runB at e
  cases eg : g (startD N.length (.obj c t :: as.map .d)) with
  | none => rw [eg] at e; cases e
  | some o =>
    rw [eg] at e
    simp only [Option.bind_some] at e
    have r := rs_start (N := N) sm (argOk_first (R := R) (H := H) (v0 := v0) (m0 := .obj c t) (fp := fp) rel nn d)
    refine ⟨G, _, _, o, r, eg, ?_⟩
    have nf : ∀ {G' H' : Hp} {P' : Addr → Prop}, Step G H (fun a => ∃ (i : Nat), i = 0 ∧ fp a) G' H' P' → Step G H fp G' H' P' := fun s => ⟨fun a ha o e => s.frame a (fun ⟨_, _, z⟩ => ha z) o e, s.keep, s.sub, fun b hb => by
      rcases s.new0 b hb with z | z | ⟨_, _, z⟩
      · exact .inl z
      · exact .inr (.inl z)
      · exact .inr (.inr z), fun b hb => (s.newf b hb).elim (fun ⟨_, _, z⟩ => .inl z) .inr⟩
    have st0 : (L2.start N (v0 :: vr))[0]? = some (some v0) := rfl
    have fin : ∀ (m' : MO S) (ds' : DS S), (outM o) = some (m', ds') → (objAt ds' 0 c).map (fun s' => (m', s')) = some (m, t') ∧ True := fun m' ds' h => by
      rw [h] at e
      exact ⟨e, trivial⟩
    cases o with
    | nx ds' =>
      intro σ' G' H' F' r' s' p'
      obtain ⟨e1, _⟩ := fin _ _ rfl
      cases es : objAt ds' 0 c with
      | none => rw [es] at e1; cases e1
      | some t2 =>
        rw [es] at e1
        cases e1
        obtain ⟨v1, hv1, o1⟩ := r'.own 0 _ (objAt_some es)
        have hp := p' 0 (List.mem_singleton.mpr rfl)
        rw [hv1, st0] at hp
        cases hp
        exact q .non G' H' (F' 0) (fun _ => False) ((nf s').weaken fun b z => z.elim (fun z => ⟨0, z⟩) False.elim) o1 ⟨.non, fun _ z => z⟩ (fun _ z => z.elim) fun b z => z.elim (fun z => r'.dis 0 b z) False.elim
    | rt m' ds' =>
      intro v σ' G' H' F' fr r' s' o' h1 h2 p'
      obtain ⟨e1, _⟩ := fin _ _ rfl
      cases es : objAt ds' 0 c with
      | none => rw [es] at e1; cases e1
      | some t2 =>
        rw [es] at e1
        cases e1
        obtain ⟨v1, hv1, o1⟩ := r'.own 0 _ (objAt_some es)
        have hp := p' 0 (List.mem_singleton.mpr rfl)
        rw [hv1, st0] at hp
        cases hp
        exact q v G' H' (F' 0) fr ((nf s').weaken fun b z => z.elim (fun z => .inl ⟨0, z⟩) .inr) o1 o' (fun b z y => h1 b z ⟨0, y⟩) fun b z => z.elim (fun z => r'.dis 0 b z) (h2 b)
    | bk ds' => cases e
    | ct ds' => cases e
end
theorem RS.calleeM {K : PySem.W.Frag} {R : StI S} {ds1 : DS S} {σ : L2.St} {G H G1 H1 G2 H2 : Hp} {F1 : Nat → Addr → Prop} {P : Addr → Prop} {i : Nat} {m0 m1 : MO S} {v0 : V} {fp fr : Addr → Prop} (r1 : RS K R ds1 σ G1 H1 F1) (e1 : ds1[i]? = some (some m0)) (hv0 : σ[i]? = some (some v0)) (s1 : Step G H P G1 H1 (fun a => ∃ j, F1 j a))
    (s2 : Step G1 H1 (F1 i) G2 H2 (fun a => fp a ∨ fr a)) (rel : OwnAt K R G2 H2 v0 m1 fp) (h1 : ∀ a, fr a → ¬ fp a) (h2 : ∀ a, fp a ∨ fr a → G2 a = none) :
    RS K R (ds1.set i (some m1)) σ G2 H2 (setF F1 i fp) ∧ Step G H P G2 H2 (fun a => (∃ j, setF F1 i fp j a) ∨ fr a) ∧ (∀ a, fr a → ¬ ∃ j, setF F1 i fp j a) := by
  have hi : i < ds1.length := (List.getElem?_eq_some_iff.mp e1).1
  have apart : ∀ a, fp a ∨ fr a → ∀ j, j ≠ i → ¬ F1 j a := fun a ha j hj hf => (s2.newf a ha).elim (fun z => hj (r1.dj j i a hf z)) (r1.trk j a hf)
  have r2 : RS K R (ds1.set i (some m1)) σ G2 H2 (setF F1 i fp) := by
    refine ⟨s2.sub, by rw [List.length_set]; exact r1.len, fun j m' q' => ?_, fun j q' a ha => ?_, fun j l a ha hb => ?_, fun j a ha => ?_⟩
    · by_cases hj : i = j
      · subst hj
        rw [List.getElem?_set_self hi] at q'
        cases q'
        exact ⟨v0, hv0, OwnAt.iff rel fun a => by unfold setF; rw [if_pos rfl]⟩
      · rw [List.getElem?_set_ne hj] at q'
        obtain ⟨u, h3, h4⟩ := r1.own j m' q'
        refine ⟨u, h3, (h4.mono s2.keep fun a ha => ?_).iff fun a => by unfold setF; rw [if_neg (Ne.symm hj)]⟩
        cases z : H1 a with
        | none => exact absurd z (r1.trk j a ha)
        | some o => exact s2.frame a (fun y => hj (r1.dj i j a y ha)) o z
    · unfold setF at ha
      by_cases hj : j = i
      · subst hj
        exact q' _ (List.getElem?_set_self hi)
      · rw [if_neg hj] at ha
        refine r1.emp j (fun m' z => q' m' ?_) a ha
        rw [List.getElem?_set_ne (Ne.symm hj)]
        exact z
    · unfold setF at ha hb
      by_cases hj : j = i
      · rw [if_pos hj] at ha
        by_cases hl : l = i
        · rw [hj, hl]
        · rw [if_neg hl] at hb
          exact absurd hb (apart a (.inl ha) l hl)
      · rw [if_neg hj] at ha
        by_cases hl : l = i
        · rw [if_pos hl] at hb
          exact absurd ha (apart a (.inl hb) j hj)
        · rw [if_neg hl] at hb
          exact r1.dj j l a ha hb
    · unfold setF at ha
      by_cases hj : j = i
      · rw [if_pos hj] at ha; exact h2 a (.inl ha)
      · rw [if_neg hj] at ha
        cases z : G2 a with
        | none => rfl
        | some o =>
          rcases s2.new0 a (by rw [z]; simp) with y | y | y
          · exact absurd (r1.dis j a ha) y
          · exact absurd y (r1.trk j a ha)
          · exact absurd (r1.dj j i a ha y) hj
  refine ⟨r2, s1.trans ⟨fun a ha o e => s2.frame a (fun z => ha ⟨i, z⟩) o e, s2.keep, s2.sub, fun b hb => ?_, fun b hb => ?_⟩, fun a ha ⟨j, z⟩ => ?_⟩
  · rcases s2.new0 b hb with y | y | y
    · exact .inl y
    · exact .inr (.inl y)
    · exact .inr (.inr ⟨i, y⟩)
  · rcases hb with hb | hb
    · rcases setF_un b hb with z | z
      · exact .inl z
      · exact (s2.newf b (.inl z)).elim (fun z => .inl ⟨i, z⟩) .inr
    · exact (s2.newf b (.inr hb)).elim (fun z => .inl ⟨i, z⟩) .inr
  · unfold setF at z
    by_cases hj : j = i
    · rw [if_pos hj] at z; exact h1 a ha z
    · rw [if_neg hj] at z; exact apart a (.inr ha) j hj z
variable {X : Cx} {R : StI S} {e o : Expr} {es : List Expr} {x f m : Str} {C : Addr} {pos apos cpos : Pos} {i j k n : Nat}
theorem fs_noname {K : PySem.W.Frag} {G H : Hp} {nm : Str} : ∀ {vs : List (Str × V)} {fs : Fls} {fp : Addr → Prop}, FsAt K G H vs fs fp → fldL nm (fsD fs) = none → vs.lookup nm = none
  | _, _, _, .nil _, _ => rfl
  | _, _, _, .cons (f := g) (m := mm) (s := s) h r _ _, e => by
    have e' : (if g = nm then some (fvD mm) else fldL nm (fsD s)) = none := e
    by_cases z : g = nm
    · rw [if_pos z] at e'; cases e'
    · rw [if_neg z] at e'
      have hb : (nm == g) = false := beq_eq_false_iff_ne.mpr (Ne.symm z)
      simp only [List.lookup, hb]
      exact fs_noname r e'
def oCallB (n i : Nat) (x m : Str) (F : Fls → List D → Option (MO S × Fls)) (fa : XF S (List D)) : XF S (MO S) := fun ds0 => (objAt ds0 i x).bind fun fs0 => if (fldL m (fsD fs0)).isNone = true then xb fa (fun as => fun ds => (objAt ds i x).bind fun fs => if as.length + 1 = n then (F fs as).map fun q => (q.1, ds.set i (some (.obj x q.2))) else none) ds0 else none
theorem o_callB {K : PySem.W.Frag} (cx : ClsX K x C) {F : Fls → List D → Option (MO S × Fls)} {fa : XF S (List D)} {σ : L2.St} {H : Hp} {Q : VK} (h : tO K R (oCallB n i x m F fa) σ H Q) : tMeth C m (spB K R x n F) [] E0 (tVar i) (tXA K R fa) σ H Q := by
  obtain ⟨G, F0, ds, m0, ds', rs, e, k⟩ := h
  unfold oCallB at e
  cases e0 : objAt ds i x with
  | none => rw [e0] at e; cases e
  | some t0 =>
  rw [e0, Option.bind_some] at e
  split at e
  · rename_i hnm
    obtain ⟨as, ds1, ea, e⟩ := xb_some e
    cases e1 : objAt ds1 i x with
    | none => rw [e1] at e; cases e
    | some t =>
    rw [e1, Option.bind_some] at e
    by_cases hn : as.length + 1 = n
    · rw [if_pos hn] at e
      cases ef : F t as with
      | none => rw [ef] at e; cases e
      | some q =>
        rw [ef] at e
        cases e
        obtain ⟨v0, hv0, p, C', dx, vs0, f1, rfl, hc, hp, hf, _, _⟩ := rs.own i _ (objAt_some e0)
        have : C' = C := by rw [cx.ns] at hc; cases hc; rfl
        subst this
        refine ⟨_, hv0, p, dx, vs0, rfl, hp, fs_noname hf (Option.isNone_iff_eq_none.mp hnm), G, F0, ds, as, ds1, rs, ea, fun vs G1 H1 F1 r1 s1 d1 => ?_⟩
        show spB K R x n F (V.ref p :: (vs ++ [])) H1 Q E0
        rw [List.append_nil]
        obtain ⟨v1, hv1, o1⟩ := r1.own i _ (objAt_some e1)
        rw [hv0] at hv1
        cases hv1
        refine ⟨by rw [List.length_cons, d1.length]; exact hn, G1, F1 i, _, vs, t, as, q.1, q.2, rfl, r1.sub, o1, r1.dis i, d1, ef, fun v G2 H2 fp fr s2 rel o h1 h2 => ?_⟩
        obtain ⟨r2, s3, ap⟩ := r1.calleeM (objAt_some e1) hv0 s1 s2 rel h1 h2
        exact k v G2 H2 _ fr r2 s3 o ap fun a ha => h2 a (.inr ha)
    · rw [if_neg hn] at e; cases e
  · cases e
theorem co_callB {F : Fls → List D → Option (MO S × Fls)} {fa : XF S (List D)} (cm : ClM X.prog X.w X.K X.mg X.base j C m (spB X.K R x n F)) (cx : ClsX X.K x C) (hk : j ≤ k) (hr : Room k X.A) (hgd : X.A.guards = some []) (ho : PE X o (tVar i)) (ha : PA X (e :: es) (tXA X.K R fa)) {pl : Sem Bool}
    (hst : starEach (e :: es) X.env = (false, eval e X.env) :: starEach es X.env := by rfl) (hpl : (backTo pos (starEach es X.env)).any (·.1) = false := by rfl)
    (ht : eval (.Call (.Attribute o m apos) (e :: es) [] pos) X.env = (do
      let ov ← eval o X.env
      standAt apos.atName
      let (f, first) ← holding [ov] (getMethod ov m pl)
      callWith pos f first (backTo pos (starEach (e :: es) X.env)) (backToKw pos (keywordEach [] X.env))) := by rfl) :
    PE X (.Call (.Attribute o m apos) (e :: es) [] pos) (tO X.K R (oCallB n i x m F fa)) := by
  obtain ⟨f, fd, ps, Fn, hb, hm⟩ := cm.ex
  exact PE.imp (pe_methG ho cx.cl hm (Fn.up hk) hr hgd hb pass0 ha hst hpl ht) fun _ _ _ h => o_callB cx h
theorem co_callB0 {F : Fls → List D → Option (MO S × Fls)} (cm : ClM X.prog X.w X.K X.mg X.base j C m (spB X.K R x n F)) (cx : ClsX X.K x C) (hk : j ≤ k) (hr : Room k X.A) (hgd : X.A.guards = some []) (ho : PE X o (tVar i)) {pl : Sem Bool}
    (ht : eval (.Call (.Attribute o m apos) [] [] pos) X.env = (do
      let ov ← eval o X.env
      standAt apos.atName
      let (f, first) ← holding [ov] (getMethod ov m pl)
      callWith pos f first (backTo pos (starEach [] X.env)) (backToKw pos (keywordEach [] X.env))) := by rfl) :
    PE X (.Call (.Attribute o m apos) [] [] pos) (tO X.K R (oCallB n i x m F xNil)) := by
  obtain ⟨f, fd, ps, Fn, hb, hm⟩ := cm.ex
  exact PE.imp (pe_methG0 ho cx.cl hm (Fn.up hk) hr hgd hb pass0 ht) fun σ H Q h => by
    obtain ⟨v, hv, a, dx, fs, e1, e2, e3, G, F0, ds, as, ds', rs, ea, k2⟩ := o_callB (R := R) cx h
    cases ea
    exact ⟨v, hv, a, dx, fs, e1, e2, e3, k2 [] G H F0 rs (.refl rs.sub) .nil⟩
def putFV (f : Str) (v : FV) : Fls → Fls
  | [] => [(f, v)]
  | (g, w) :: r => if g = f then (g, v) :: r else (g, w) :: putFV f v r
theorem FsAt.iff {K : PySem.W.Frag} {G H : Hp} {vs : List (Str × V)} {fs : Fls} {fp fq : Addr → Prop} (h : FsAt K G H vs fs fp) (e : ∀ a, fq a ↔ fp a) : FsAt K G H vs fs fq := by
  have : fq = fp := funext fun a => propext (e a)
  rw [this]
  exact h
theorem FsAt.put {K : PySem.W.Frag} {G H : Hp} {f : Str} {y : V} {m : FV} {f1 : Addr → Prop} : ∀ {vs : List (Str × V)} {fs : Fls} {fp : Addr → Prop}, FsAt K G H vs fs fp → FVAt K G H y m f1 → (∀ a, f1 a → ¬ fp a) → ∃ fq, FsAt K G H (L2.putF f y vs) (putFV f m fs) fq ∧ ∀ a, fq a → fp a ∨ f1 a
  | _, _, fp, .nil n, h, dj => ⟨f1, .cons h (.nil (fp := fun _ => False) fun _ z => z) (fun _ _ z => z) fun a => ⟨.inl, fun z => z.elim id False.elim⟩, fun a ha => .inr ha⟩
  | _, _, fp, .cons (f := g) (v := v) (m := mm) (r := r) (s := s) (f1 := g1) (f2 := g2) h1 r1 d1 e1, h, dj => by
    have ev : L2.putF f y ((g, v) :: r) = if g = f then (g, y) :: r else (g, v) :: L2.putF f y r := rfl
    have ef : putFV f m ((g, mm) :: s) = if g = f then (g, m) :: s else (g, mm) :: putFV f m s := rfl
    by_cases z : g = f
    · rw [ev, ef, if_pos z, if_pos z]
      exact ⟨fun a => f1 a ∨ g2 a, .cons h r1 (fun a ha hb => dj a ha ((e1 a).mpr (.inr hb))) fun a => Iff.rfl, fun a ha => ha.elim .inr fun q => .inl ((e1 a).mpr (.inr q))⟩
    · rw [ev, ef, if_neg z, if_neg z]
      obtain ⟨fq, h2, h3⟩ := FsAt.put r1 h fun a ha hb => dj a ha ((e1 a).mpr (.inr hb))
      exact ⟨fun a => g1 a ∨ fq a, .cons h1 h2 (fun a ha hb => (h3 a hb).elim (d1 a ha) fun q => dj a q ((e1 a).mpr (.inl ha))) fun a => Iff.rfl, fun a ha => ha.elim (fun q => .inl ((e1 a).mpr (.inl q))) fun q => (h3 a q).imp (fun q => (e1 a).mpr (.inr q)) id⟩
theorem FsAt.len {K : PySem.W.Frag} {G H : Hp} : ∀ {vs : List (Str × V)} {fs : Fls} {fp : Addr → Prop}, FsAt K G H vs fs fp → vs.length = fs.length
  | _, _, _, .nil _ => rfl
  | _, _, _, .cons _ r _ _ => congrArg (· + 1) (FsAt.len r)
def toFV : MO S → Option FV
  | .d x => some (.d x)
  | .lst xs => some (.l xs)
  | .dic kvs => some (.k kvs)
  | _ => none
theorem toFV_ok {K : PySem.W.Frag} {G H : Hp} {v : V} {m : MO S} {fv : FV} {fp : Addr → Prop} (e : toFV m = some fv) (o : OwnAt K R G H v m fp) : FVAt K G H v fv fp := by
  cases m with
  | d x => cases e; exact o
  | lst xs => cases e; exact o
  | dic kvs => cases e; exact o
  | lk kvs => cases e
  | dp x => cases e
  | st s => cases e
  | scr ns => cases e
  | obj y fs => cases e
def gSetFld (i : Nat) (x f : Str) (v : XF S (MO S)) : SF S := fun ds => (v ds).bind fun p => (objAt p.2 i x).bind fun fs => (toFV p.1).bind fun fv => if fs.length < 1000 then some (.nx (p.2.set i (some (.obj x (putFV f fv fs))))) else none
end
section
variable {S : Type}
theorem RS.putMO {K : PySem.W.Frag} {R : StI S} {ds : DS S} {σ : L2.St} {G H : Hp} {F : Nat → Addr → Prop} (r : RS K R ds σ G H F) {i : Nat} {m0 m1 : MO S} {v : V} {q : Addr} {o : HO} {fr fp : Addr → Prop} (e : ds[i]? = some (some m0)) (hv : σ[i]? = some (some v)) (hq : F i q) (rel : OwnAt K R G (upd H q o) v m1 fp)
    (hfp : ∀ a, fp a → F i a ∨ fr a) (d : ∀ a, fr a → ¬ ∃ j, F j a) (n : ∀ a, fr a → G a = none) :
    RS K R (ds.set i (some m1)) σ G (upd H q o) (setF F i fp) ∧ Step G H (fun a => (∃ j, F j a) ∨ fr a) G (upd H q o) (fun a => ∃ j, setF F i fp j a) := by
  have hi : i < ds.length := (List.getElem?_eq_some_iff.mp e).1
  have hg : G q = none := r.dis i q hq
  have sub : Same G (upd H q o) := fun b u z => by rw [upd_ne (ne_of_none z hg)]; exact r.sub b u z
  refine ⟨⟨sub, by rw [List.length_set]; exact r.len, fun j m z => ?_, fun j z a ha => ?_, fun j l a ha hb => ?_, fun j a ha => ?_⟩, ⟨fun a ha u z => ?_, Same.refl _, sub, fun b hb => .inl hb, fun b hb => ?_⟩⟩
  · by_cases hj : i = j
    · subst hj
      rw [List.getElem?_set_self hi] at z
      cases z
      exact ⟨v, hv, OwnAt.iff rel fun a => by unfold setF; rw [if_pos rfl]⟩
    · rw [List.getElem?_set_ne hj] at z
      obtain ⟨u, h1, h2⟩ := r.own j m z
      exact ⟨u, h1, (h2.mono (Same.refl _) fun a ha => upd_ne fun y => hj (r.dj i j a (by rw [y]; exact hq) ha)).iff fun a => by unfold setF; rw [if_neg (Ne.symm hj)]⟩
  · unfold setF at ha
    by_cases hj : j = i
    · subst hj
      exact z _ (List.getElem?_set_self hi)
    · rw [if_neg hj] at ha
      refine r.emp j (fun m y => z m ?_) a ha
      rw [List.getElem?_set_ne (Ne.symm hj)]
      exact y
  · unfold setF at ha hb
    by_cases hj : j = i
    · by_cases hl : l = i
      · rw [hj, hl]
      · rw [if_pos hj] at ha
        rw [if_neg hl] at hb
        exact ((hfp a ha).elim (fun z => hl (r.dj l i a hb z)) fun z => d a z ⟨l, hb⟩).elim
    · by_cases hl : l = i
      · rw [if_neg hj] at ha
        rw [if_pos hl] at hb
        exact ((hfp a hb).elim (fun z => hj (r.dj j i a ha z)) fun z => d a z ⟨j, ha⟩).elim
      · rw [if_neg hj] at ha
        rw [if_neg hl] at hb
        exact r.dj j l a ha hb
  · unfold setF at ha
    by_cases hj : j = i
    · rw [if_pos hj] at ha
      exact (hfp a ha).elim (r.dis i a) (n a)
    · rw [if_neg hj] at ha
      exact r.dis j a ha
  · rw [upd_ne fun y => ha (.inl ⟨i, by rw [y]; exact hq⟩)]; exact z
  · obtain ⟨j, hb⟩ := hb
    unfold setF at hb
    by_cases hj : j = i
    · rw [if_pos hj] at hb
      exact (hfp b hb).elim (fun z => .inl (.inl ⟨i, z⟩)) fun z => .inl (.inr z)
    · rw [if_neg hj] at hb
      exact .inl (.inl ⟨j, hb⟩)
variable {X : Cx} {R : StI S} {pn : List Nat} {e o : Expr} {es : List Expr} {x f m : Str} {C : Addr} {pos pos' apos cpos : Pos} {i j k n : Nat}
theorem ss_setFld {v : XF S (MO S)} (cx : ClsX X.K x C) (na : NoAttr X.K C f) (ho : PE X o (tVar i)) (hv : PE X e (tO X.K R v)) (hs : swapsWith e (some (.Attribute o f pos')) pos.line X.env = pure false) :
    PS X (.Assign [.Attribute o f pos'] e pos) (tS X.K R pn (gSetFld i x f v)) := psi (ps_fld ho hv hs) fun Dn σ H ⟨G, F, ds, oo, r, e, k⟩ => by
  unfold gSetFld at e
  cases ev : v ds with
  | none => rw [ev] at e; cases e
  | some p =>
    rw [ev, Option.bind_some] at e
    obtain ⟨m0, ds1⟩ := p
    dsimp only at e
    cases eo : objAt ds1 i x with
    | none => rw [eo] at e; cases e
    | some fs =>
      rw [eo, Option.bind_some] at e
      cases et : toFV m0 with
      | none => rw [et] at e; cases e
      | some fv =>
        rw [et, Option.bind_some] at e
        split at e
        · rename_i hlen
          cases e
          refine ⟨G, F, ds, m0, ds1, r, ev, fun y G1 H1 F1 fr r1 s1 o1 d1 nn => ?_⟩
          obtain ⟨v0, hv0, p, C', dx, vs, f1, rfl, hc, hp, hf, np, hfp⟩ := r1.own i _ (objAt_some eo)
          have : C' = C := by rw [cx.ns] at hc; cases hc; rfl
          subst this
          obtain ⟨fq, hq, hq2⟩ := hf.put (f := f) (toFV_ok et o1) fun a ha hb => d1 a ha ⟨i, (hfp a).mpr (.inr hb)⟩
          have npq : ¬ fq p := fun z => (hq2 p z).elim np fun z => d1 p z ⟨i, (hfp p).mpr (.inl rfl)⟩
          refine ⟨_, hv0, p, C', dx, vs, rfl, hp, cx.cl, na, by rw [hf.len]; exact hlen, ?_⟩
          obtain ⟨r2, s2⟩ := r1.putMO (m1 := .obj x (putFV f fv fs)) (fp := fun a => a = p ∨ fq a) (o := .ins C' dx (L2.putF f y vs)) (objAt_some eo) hv0 ((hfp p).mpr (.inl rfl)) ⟨p, C', dx, _, fq, rfl, hc, upd_same, hq.mono (Same.refl _) (fun a ha => upd_ne fun z => npq (z ▸ ha)), npq, fun a => Iff.rfl⟩
            (fun a ha => ha.elim (fun z => .inl ((hfp a).mpr (.inl z))) fun z => (hq2 a z).imp (fun z => (hfp a).mpr (.inr z)) id) d1 nn
          exact k σ G1 _ _ r2 (s1.trans s2) fun _ _ => rfl
        · cases e
def fvL : FV → Option (List D)
  | .l xs => some xs
  | _ => none
def lstF (f : Str) : Fls → Option (List D)
  | [] => none
  | (g, w) :: r => if g = f then fvL w else lstF f r
theorem FsAt.getl {K : PySem.W.Frag} {G H : Hp} {f : Str} : ∀ {vs : List (Str × V)} {fs : Fls} {fp : Addr → Prop} {xs : List D}, FsAt K G H vs fs fp → lstF f fs = some xs → ∃ q ws, vs.lookup f = some (.ref q) ∧ H q = some (.lst ws) ∧ ws.length ≤ sizeLine ∧ DenAll K G ws xs ∧ fp q ∧
    ∀ H' us ys, (∀ a, fp a → a ≠ q → H' a = H a) → H' q = some (.lst us) → us.length ≤ sizeLine → DenAll K G us ys → FsAt K G H' vs (putFV f (.l ys) fs) fp
  | _, _, _, _, .nil _, e => by cases e
  | _, _, fp, xs, .cons (f := g) (v := v) (m := mm) (r := r) (s := s) (f1 := g1) (f2 := g2) h1 r1 d1 e1, e => by
    have e' : (if g = f then fvL mm else lstF f s) = some xs := e
    by_cases z : g = f
    · rw [if_pos z] at e'
      cases mm with
      | d y => cases e'
      | k kvs => cases e'
      | l ys0 =>
        cases e'
        obtain ⟨q, ws, rfl, hq, hz, hd, hn⟩ := h1
        subst z
        refine ⟨q, ws, by simp [List.lookup], hq, hz, hd, (e1 q).mpr (.inl ((hn q).mpr rfl)), fun H' us ys hk hq' hz' hd' => ?_⟩
        have ef : putFV g (.l ys) ((g, FV.l xs) :: s) = (g, .l ys) :: s := by show (if g = g then _ else _) = _; rw [if_pos rfl]
        rw [ef]
        refine .cons (m := .l ys) ⟨q, us, rfl, hq', hz', hd', hn⟩ (r1.mono (Same.refl _) fun a ha => hk a ((e1 a).mpr (.inr ha)) fun y => d1 a ((hn a).mpr y) ha) d1 e1
    · rw [if_neg z] at e'
      obtain ⟨q, ws, h2, h3, h4, h5, h6, h7⟩ := FsAt.getl r1 e'
      have hb : (f == g) = false := beq_eq_false_iff_ne.mpr (Ne.symm z)
      refine ⟨q, ws, by simp only [List.lookup, hb]; exact h2, h3, h4, h5, (e1 q).mpr (.inr h6), fun H' us ys hk hq' hz' hd' => ?_⟩
      have ef : putFV f (.l ys) ((g, mm) :: s) = (g, mm) :: putFV f (.l ys) s := by show (if g = f then _ else _) = _; rw [if_neg z]
      rw [ef]
      exact .cons (h1.mono (Same.refl _) fun a ha => hk a ((e1 a).mpr (.inl ha)) fun y => d1 a ha (y ▸ h6)) (h7 H' us ys (fun a ha => hk a ((e1 a).mpr (.inr ha))) hq' hz' hd') d1 e1
def xMtF (i : Nat) (x f : Str) (g : List D → List D → Option (D × List D)) (gs : DS S → Option (List D)) : XF S D := fun ds => (objAt ds i x).bind fun fs => (lstF f fs).bind fun xs => (gs (hideDS ds)).bind fun as => (g xs as).map fun q => (q.1, ds.set i (some (.obj x (putFV f (.l q.2) fs))))
theorem x_mtF {K : PySem.W.Frag} (cx : ClsX K x C) (na : NoAttr K C f) {r : V → List V → Hp → VK → Prop} {g : List D → List D → Option (D × List D)} {gs : DS S → Option (List D)} (hr : MtD K r g) {σ : L2.St} {H : Hp} {Q : VK} (w : tX K R (xMtF i x f g gs) σ H Q) : tBM K "list" r (tFld K (tVar i) f) (tPA K gs) σ H Q := by
  obtain ⟨G, F, ds, d, ds', rs, e, k⟩ := w
  unfold xMtF at e
  cases eo : objAt ds i x with
  | none => rw [eo] at e; cases e
  | some fs =>
    rw [eo, Option.bind_some] at e
    cases el : lstF f fs with
    | none => rw [el] at e; cases e
    | some xs =>
      rw [el, Option.bind_some] at e
      cases ea : gs (hideDS ds) with
      | none => rw [ea] at e; cases e
      | some as =>
        rw [ea, Option.bind_some] at e
        cases eg : g xs as with
        | none => rw [eg] at e; cases e
        | some q =>
          rw [eg] at e
          cases e
          obtain ⟨v0, hv0, p, C', dx, vs, f1, rfl, hc, hp, hf, np, hfp⟩ := rs.own i _ (objAt_some eo)
          have : C' = C := by rw [cx.ns] at hc; cases hc; rfl
          subst this
          obtain ⟨a, ws, hl, ha, hz, hd, hfa, _⟩ := hf.getl el
          refine ⟨_, hv0, p, C', dx, vs, .ref a, rfl, hp, cx.cl, na, hl, ty_own a ws H ha, G, hideDS ds, as, rs.sub, rs.view, ea, fun wv G1 H1 g1 d1 => ?_⟩
          have r1 := rs.grow g1
          have hf1 : FsAt K G1 H1 vs fs f1 := hf.mono g1.keep fun b hb => by
            cases z : H b with
            | none => exact absurd z (hf.trk b hb)
            | some u => exact g1.all b u z
          obtain ⟨a', ws', hl', ha', hz', hd', hfa', upd'⟩ := hf1.getl el
          rw [hl] at hl'
          cases hl'
          have hFa : F i a := (hfp a).mpr (.inr hfa)
          refine hr a ws' xs as wv q.1 q.2 G1 H1 Q r1.sub ha' (r1.dis i a hFa) hz' hd' d1 eg fun u us zu du dv => ?_
          have nap : p ≠ a := fun z => np (z ▸ hfa)
          obtain ⟨r2, s2⟩ := r1.putMO (m1 := .obj x (putFV f (.l q.2) fs)) (fp := F i) (fr := fun _ => False) (o := .lst us) (objAt_some eo) hv0 hFa
            ⟨p, C', dx, vs, f1, rfl, hc, by rw [upd_ne nap]; exact g1.all _ _ hp, upd' _ us q.2 (fun b hb hn => upd_ne hn) upd_same zu du, np, hfp⟩ (fun b hb => .inl hb) (fun _ z => z.elim) fun _ z => z.elim
          exact k u G1 _ _ r2 (g1.step.trans ⟨fun b hb => s2.frame b fun z => z.elim hb False.elim, s2.keep, s2.sub, fun b hb => .inl hb, fun b hb => (s2.newf b hb).elim (fun z => z.elim .inl False.elim) .inr⟩) dv
section
variable {a : Expr} {gs : DS S → Option (List D)}
theorem ex_appF (cx : ClsX X.K x C) (na : NoAttr X.K C f) (ho : PE X o (tVar i)) (ha : PA X (e :: es) (tPA X.K gs)) (hb : attributeBase o f X.env (eval o X.env) = eval o X.env := by rfl) (hbase : attributeBase (.Attribute o f pos) "append" X.env (eval (.Attribute o f pos) X.env) = eval (.Attribute o f pos) X.env := by rfl)
    (hfew : ((backTo cpos (starEach (e :: es) X.env)).all (fun x => !x.1) && (backToKw cpos (keywordEach [] X.env)).all (fun x => x.1.isSome) && decide ((e :: es).length + ([] : List Keyword).length + (if ([] : List Keyword).isEmpty then 0 else 1) < 30)) = true := by rfl)
    (hline : (apos.endLine == cpos.line) = true := by rfl) (hs : starEach (e :: es) X.env = (false, eval e X.env) :: starEach es X.env := by rfl) (hplain : (backTo cpos (starEach es X.env)).any (·.1) = false := by rfl) :
    PE X (.Call (.Attribute (.Attribute o f pos) "append" apos) (e :: es) [] cpos) (tX X.K R (xMtF i x f appD gs)) := PE.imp (pe_bm PySem.F.plainAttrs_list PySem.F.slot_list_append PySem.F.type_list_append mt_append (pe_fld ho hb) ha hbase hfew hline hs hplain) fun _ _ _ h => x_mtF cx na d_app h
end
theorem run_makeG {CT : CXT} {fa : Addr} {fd : FuncData} {ps : List Str} {sp : Sp} {E : XK} {pins : List (Addr × Obj)} {σ : L2.St} {H : Hp} {s : Shared} {Q : VK} {us : List Value} {vs : List V} (M : Mk X.K C fa) (F : FnG X.prog X.w X.K X.mg X.base CT k fa fd ps sp) (hr : Room (k + 1) X.A) (hgd : X.A.guards = some []) (hb : Binds X.K fd ps [])
    (hx : Passes CT X E) (I : Inv X pins σ H s) (r : Vals vs us)
    (h : ∀ x dx, H x = none → H dx = none → dx ≠ x → sp (.ref x :: vs) (upd (upd H dx (.own x)) x (.ins C dx [])) (fun v H2 => v = .non ∧ Q (.ref x) H2) E) :
    wpAny (model X.prog X.w) X.A (call (.ref C) us) (EP X pins σ Q) X.xe s := by
  have hq := h (s.heap.objs.size + 1) s.heap.objs.size (I.hok.fresh (Nat.le_succ _)) (I.hok.fresh (Nat.le_refl _)) (Nat.ne_of_lt (Nat.lt_succ_self _))
  have I2 := Inv.made (C := C) I
  have r2 : Vals (V.ref (s.heap.objs.size + 1) :: vs) (Value.ref (s.heap.objs.size + 1) :: us) := .cons rfl r
  have hl : ((Value.ref (s.heap.objs.size + 1) :: us) ++ ([] : List Value)).length = ps.length := by
    have e := r2.length
    rw [F.len _ _ _ _ hq] at e
    rw [List.append_nil]
    exact e.symm
  have hbind := hb _ (Value.ref (s.heap.objs.size + 1) :: us) I2.kIn hl
  rw [List.append_nil] at hbind
  refine wpAny_call (make_map (f := fa) I.kIn M.makes M.init (beq_iff_eq.mp M.fn) (codeAny_mono (F.run _ X.stack _ _ ⟨Value.ref (s.heap.objs.size + 1) :: us, []⟩ (Value.ref (s.heap.objs.size + 1) :: us) _ _ E (hr.make C us []) (by first | exact hgd | (simpa [Around.under] using hgd))
    (I2.env0.make C us []) hbind r2 hq) fun r s' hq' => ?_))
  cases r with
  | error e => exact hx pins σ _ _ e s' I2 hq'
  | ok fl =>
    cases fl with
    | ret u =>
      obtain ⟨v, H', I3, rv, ev, q3⟩ := I2.after hq'
      subst ev
      exact ⟨rv, ⟨V.ref (s.heap.objs.size + 1), H', I3, rfl, q3⟩⟩
    | next => exact False.elim hq'
    | brk => exact False.elim hq'
    | cont => exact False.elim hq'
theorem pe_makeG {CT : CXT} {fa : Addr} {fd : FuncData} {ps : List Str} {sp : Sp} {E : XK} {t : TA} {p : Pos} (M : Mk X.K C fa) (F : FnG X.prog X.w X.K X.mg X.base CT k fa fd ps sp) (hr : Room (k + 1) X.A) (hgd : X.A.guards = some []) (hg : Gl X x) (hm : X.mg x = some (.ref C)) (hb : Binds X.K fd ps []) (hx : Passes CT X E)
    (ha : PA X (e :: es) t) (hdb : (x == ("__debug__" : Str)) = false := by decide) (he : starEach (e :: es) X.env = (false, eval e X.env) :: starEach es X.env := by rfl) (hpl : (backTo pos (starEach es X.env)).any (·.1) = false := by rfl) :
    PE X (.Call (.Name x p) (e :: es) [] pos) (tMake C sp [] E t) := by
  refine ⟨fun pins s σ H Q I h => ?_⟩
  refine wpAny_Call_Name_kw (ld_glob I hg hm ?_ hdb)
  refine PySem.W.callWith_K (h₀ := X.base) I.ok.mod.kin M.kp (thn (ha.run pos pins s σ H _ I h) fun us s1 ⟨vs, H1, I1, r, q⟩ => ⟨I1.kIn, ?_⟩) he hpl
  refine run_makeG M F hr hgd hb hx I1 r fun y dx n1 n2 n3 => ?_
  have q2 := q y dx n1 n2 n3
  rw [List.append_nil] at q2
  exact q2
structure ClK (P : Program) (w : World) (K : PySem.W.Frag) (mg : Str → Option Value) (base : Heap) (k : Nat) (C : Addr) (x : Str) (sp : Sp) : Prop where
  ex : ∃ f fd ps, FnG P w K mg base CX0 k f fd ps sp ∧ Binds K fd ps [] ∧ Mk K C f ∧ mg x = some (.ref C)
def oMake (x : Str) (n : Nat) (F : Fls → List D → Option (MO S × Fls)) (fa : XF S (List D)) : XF S (MO S) := xb fa fun as => xlift (if as.length + 1 = n then (F [] as).bind fun q => match q.1 with
  | .d .none => some (.obj x q.2)
  | _ => none else none)
theorem o_make {K : PySem.W.Frag} (cx : ClsX K x C) {F : Fls → List D → Option (MO S × Fls)} {fa : XF S (List D)} {σ : L2.St} {H : Hp} {Q : VK} (h : tO K R (oMake x n F fa) σ H Q) : tMake C (spB K R x n F) [] E0 (tXA K R fa) σ H Q := by
  obtain ⟨G, F0, ds, m0, ds', rs, e, k⟩ := h
  obtain ⟨as, ds1, ea, e⟩ := xb_some e
  obtain ⟨eq, e9⟩ := xlift_some e
  subst e9
  split at eq
  · rename_i hn
    cases ef : F [] as with
    | none => rw [ef] at eq; cases eq
    | some q =>
      rw [ef, Option.bind_some] at eq
      obtain ⟨mr, fs'⟩ := q
      dsimp only at eq
      split at eq
      · cases eq
        refine ⟨G, F0, ds, as, _, rs, ea, fun vs G1 H1 F1 r1 s1 d1 => ?_⟩
        intro y dx ny ndx nex
        show spB K R x n F (V.ref y :: (vs ++ [])) _ _ E0
        rw [List.append_nil]
        have back : ∀ b u, H1 b = some u → (upd (upd H1 dx (.own y)) y (.ins C dx [])) b = some u := fun b u z => by rw [upd_ne (ne_of_none z ny), upd_ne (ne_of_none z ndx)]; exact z
        have none1 : ∀ b, (upd (upd H1 dx (.own y)) y (.ins C dx [])) b = none → H1 b = none := fun b z => by
          cases w : H1 b with
          | none => rfl
          | some u => rw [back b u w] at z; cases z
        refine ⟨by rw [List.length_cons, d1.length]; exact hn, G1, fun a => a = y, .ref y, vs, [], as, .d .none, fs', rfl, fun b u z => back b u (r1.sub b u z), ⟨y, C, dx, [], fun _ => False, rfl, cx.ns, upd_same, .nil (fun _ z => z), id, fun a => ⟨.inl, fun z => z.elim id False.elim⟩⟩, fun a ha => by rw [ha]; exact r1.sub.free ny, d1, ef, fun v G3 H3 fp' fr s3 o3 om h1 h2 => ⟨?_, ?_⟩⟩
        · have dn := om.1
          cases dn
          rfl
        · have gr : Gr G1 H1 G3 H3 := ⟨s3.keep, s3.sub, fun a u z => s3.frame a (fun w => by rw [w, ny] at z; cases z) u (back a u z), fun b hb => by
            rcases s3.new0 b hb with z | z | z
            · exact .inl z
            · exact .inr (none1 b z)
            · exact .inr (by rw [z]; exact ny)⟩
          have nw : ∀ b, fp' b → H1 b = none := fun b hb => (s3.newf b (.inl hb)).elim (fun z => by rw [z]; exact ny) (none1 b)
          exact k _ G3 H3 F1 fp' (r1.grow gr) (s1.trans ⟨gr.step (P := fun a => ∃ i, F1 i a).frame, gr.keep, gr.sub, gr.step.new0, fun b hb => hb.elim .inl fun z => .inr (nw b z)⟩) o3 (fun a ha ⟨i, hi⟩ => r1.trk i a hi (nw a ha)) fun a ha => h2 a (.inl ha)
      · cases eq
  · cases eq
theorem co_make {p : Pos} {F : Fls → List D → Option (MO S × Fls)} {fa : XF S (List D)} (ck : ClK X.prog X.w X.K X.mg X.base j C x (spB X.K R x n F)) (cx : ClsX X.K x C) (hk : j + 1 ≤ k) (hr : Room k X.A) (hgd : X.A.guards = some []) (hg : Gl X x) (ha : PA X (e :: es) (tXA X.K R fa))
    (hdb : (x == ("__debug__" : Str)) = false := by decide) (he : starEach (e :: es) X.env = (false, eval e X.env) :: starEach es X.env := by rfl) (hpl : (backTo pos (starEach es X.env)).any (·.1) = false := by rfl) :
    PE X (.Call (.Name x p) (e :: es) [] pos) (tO X.K R (oMake x n F fa)) := by
  obtain ⟨f, fd, ps, Fn, hb, hM, hm⟩ := ck.ex
  exact PE.imp (pe_makeG hM Fn (hr.mono hk) hgd hg hm hb pass0 ha hdb he hpl) fun _ _ _ h => o_make cx h
end
section
variable {S : Type}
section
variable {K : PySem.W.Frag} {R : StI S} {G H : Hp}
theorem OwnAll.iff {vs : List V} {ms : List (MO S)} {fp fq : Addr → Prop} (h : OwnAll K R G H vs ms fp) (e : ∀ a, fq a ↔ fp a) : OwnAll K R G H vs ms fq := by
  have : fq = fp := funext fun a => propext (e a)
  rw [this]
  exact h
end
section
variable {K : PySem.W.Frag} {R : StI S} {P : Program} {w : World} {mg : Str → Option Value} {base : Heap} {x qual : Str} {st : Stmt} {f : Addr} {fd : FuncData} {N ps : List Str} {k : Nat} {g : SF S}
end
variable {X : Cx} {R : StI S} {e o : Expr} {es : List Expr} {x f m : Str} {pos p : Pos} {i j k n : Nat}
def oCallU (n i : Nat) (F : List D → List D → Option (MO S × List D)) (fs : XF S (List D)) : XF S (MO S) := fun ds0 => (lstAt ds0 i).bind fun _ => xb fs (fun as => fun ds => (lstAt ds i).bind fun s => if as.length + 1 = n then (F s as).map fun q => (q.1, ds.set i (some (.lst q.2))) else none) ds0
def oCallM (n i : Nat) (F : List (MO S) → Option (MO S × List (MO S))) (fo : XF S (List (MO S))) : XF S (MO S) := fun ds0 => (lstAt ds0 i).bind fun _ => xb fo (fun mos => fun ds => (lstAt ds i).bind fun s => if mos.length + 1 = n then (F (.lst s :: mos)).bind fun q => match q.2 with
  | .lst ys :: _ => some (q.1, ds.set i (some (.lst ys)))
  | _ => none else none) ds0
end
open RZ
def zipTL : List D → Option (List D)
  | [.tuple xs, .list ys] => some (zipD xs ys)
  | _ => none
section
variable {S : Type} {X : Cx} {e e2 : Expr} {g1 : DS S → Option (List D)} {p pos tpos : Pos} {elts : List Expr} {kk : Nat}
end
def decK : List (D × D) → Option (List (Key × D))
  | [] => some []
  | p :: r => (keyOf1 p.1).bind fun k => (decK r).map fun l => (k, p.2) :: l
theorem keyOf1_kD : ∀ k : Key, keyOf1 (kD k) = some k
  | .inl _ => rfl
  | .inr _ => rfl
theorem decK_enc : ∀ kvs : List (Key × D), decK (encKs kvs) = some kvs
  | [] => rfl
  | (k, d) :: r => by
    show (keyOf1 (kD k)).bind (fun k => (decK (encKs r)).map fun l => (k, d) :: l) = _
    rw [keyOf1_kD, decK_enc r]
    rfl
theorem denKV_dec {K : PySem.W.Frag} {G : Hp} : ∀ {xs : List (Key × V)} {es : List (D × D)} {kvs : List (Key × D)}, DenKV K G xs es → decK es = some kvs → KVsD K G xs kvs
  | _, _, _, .nil, e => by cases e; exact .nil
  | _, _, kvs, .cons (k := k) (d := d) (s := s) a b r, e => by
    have e : (keyOf1 (kD k)).bind (fun k => (decK s).map fun l => (k, d) :: l) = some kvs := e
    rw [keyOf1_kD, Option.bind_some] at e
    obtain ⟨l, e1, e2⟩ := Option.map_eq_some_iff.mp e
    subst e2
    exact .cons a b (denKV_dec r e1)
def ixK (x y : D) : Option D := match x with
  | .dict ((.none, .bool true) :: es) => (decK es).bind fun kvs => (keyOf1 y).bind fun k => lookD kvs k
  | _ => none
section
variable {S : Type} {X : Cx} {R : StI S} {a b c e o i : Expr} {es : List Expr} {f : Str} {pos p p2 apos cpos : Pos} {j k n : Nat}
theorem ep_ixk {ga gi : DS S → Option D} (hu : X.A.units + 1 < cLine) (ho : PE X o (tP X.K ga)) (hi : PE X i (tP X.K gi)) (hs : NoSl i) : PE X (.Subscript o i pos) (tP X.K (gOp ixK ga gi)) :=
  PE.imp (pe_dget hu ho hi hs) fun σ H Q ⟨G, ds, d, s, w, e, k⟩ => by
    unfold gOp at e
    cases ea : ga ds with
    | none => rw [ea] at e; cases e
    | some x =>
      rw [ea] at e
      cases ei : gi ds with
      | none => simp [ei] at e
      | some y =>
        simp only [ei, Option.bind_some] at e
        unfold ixK at e
        split at e
        · rename_i es0
          obtain ⟨kvs, e1, e⟩ := Option.bind_eq_some_iff.mp e
          obtain ⟨kk, e2, e3⟩ := Option.bind_eq_some_iff.mp e
          refine ⟨G, ds, _, s, w, ea, fun v G1 H1 g1 d1 => ?_⟩
          refine ⟨G1, ds, y, g1.sub, w.mono g1.keep, ei, fun u G2 H2 g2 d2 => ?_⟩
          have d1 := d1.mono g2.keep
          cases d1 with
          | dct q z r =>
            obtain ⟨oo, p1, _, p3⟩ := dget_of (.inl (g2.sub _ _ q)) (denKV_dec r e1) d2 e2
            obtain ⟨v, rfl, dv⟩ := p3 d e3
            exact ⟨_, v, rfl, p1, k v G2 H2 (g1.trans g2) dv⟩
        · cases e
def gDGetN (j : Nat) (g : DS S → Option D) : DS S → Option D := fun ds => (gDLook j g ds).map fun o => o.getD .none
def xScLen (j : Nat) : XF S D := fun ds => (scrAt ds j).map fun ns => (.int (ns.length : Nat), ds)
theorem ex_scrLen (hg : Gl X "len") (hm : X.mg "len" = none) (ho : PE X o (tVar j)) (he : starEach [o] X.env = (false, eval o X.env) :: starEach [] X.env := by rfl) (hpl : (backTo pos (starEach [] X.env)).any (·.1) = false := by rfl) :
    PE X (.Call (.Name "len" p) [o] [] pos) (tX X.K R (xScLen j)) :=
  PE.imp (pe_callB call_len hg hm PySem.boot_len (pa_cons ho pa_nil he) (by decide) (by decide) he hpl) fun σ H Q ⟨G, F, ds, d, ds', r, e, k⟩ => by
    unfold xScLen at e
    cases ed : scrAt ds j with
    | none => rw [ed] at e; cases e
    | some ns =>
      rw [ed] at e
      cases e
      obtain ⟨v, hv, ⟨a, rfl, sq⟩, _⟩ := r.own j _ (scrAt_some ed)
      refine ⟨_, hv, _, _, rfl, .inl ⟨_, sql_mono r.sub sq, rfl⟩, ?_⟩
      rw [List.length_map]
      exact k _ G H F r (.refl r.sub) (.int _)
end
section
variable {S : Type} {X : Cx} {R : StI S} {a b c e o i tg : Expr} {es : List Expr} {x f : Str} {C : Addr} {pos pos' p p2 apos cpos q : Pos} {j k n : Nat}
def xScIx (j : Nat) (f : XF S D) : XF S D := fun ds => (scrAt ds j).bind fun _ => (f ds).bind fun q => (scrAt q.2 j).bind fun ns => match q.1 with
  | .int i => (atI ns i).map fun z => (.int z, q.2)
  | _ => none
def stepD : D → Option Int → Option (List D)
  | .list ys, some k => if k = 1 then some ys else if k = -1 then some ys.reverse else none
  | _, _ => none
def oStep (fa : XF S D) (fs : XF S (Option Int)) : XF S (MO S) := xb fa fun x => xb fs fun o => xlift ((stepD x o).map .lst)
def oIf (h : XF S Bool) (fa fb : XF S (MO S)) : XF S (MO S) := xb h fun b => if b then fa else fb
end
section
variable {S : Type} {K : PySem.W.Frag} {R : StI S} {ds : DS S} {σ : L2.St} {G H : Hp} {F : Nat → Addr → Prop}
def xFrz (i : Nat) : XF S D := fun ds => match ds[i]? with
  | some (some (.lst xs)) => some (.list xs, ds.set i (some (.d (.list xs))))
  | some (some (.d x)) => some (x, ds)
  | _ => none
end
def inK (b : Bool) (y x : D) : Option D := match x with
  | .dict ((.none, .bool true) :: es) => (decK es).bind fun kvs => (keyOf1 y).map fun k => .bool (if b then (lookD kvs k).isSome else !(lookD kvs k).isSome)
  | _ => none
section
variable {S : Type} {X : Cx} {R : StI S} {a b c e o i : Expr} {pos p p2 apos cpos : Pos}
theorem p_ink {b : Bool} {ga gi : DS S → Option D} {σ : L2.St} {H : Hp} {Q : VK} (h : tP X.K (gOp (inK b) gi ga) σ H Q) : (fun σ H Q => tP X.K gi σ H fun y H1 => tP X.K ga σ H1 fun x H2 => ∃ a o, x = V.ref a ∧ DGet H2 a y o ∧ Q (.bl (if b then o.isSome else !o.isSome)) H2 : TE) σ H Q := by
  obtain ⟨G, ds, d, s, w, e, k⟩ := h
  unfold gOp at e
  cases ei : gi ds with
  | none => rw [ei] at e; cases e
  | some y =>
    rw [ei] at e
    cases ea : ga ds with
    | none => simp [ea] at e
    | some x =>
      simp only [ea, Option.bind_some] at e
      unfold inK at e
      split at e
      · rename_i es0
        obtain ⟨kvs, e1, e⟩ := Option.bind_eq_some_iff.mp e
        obtain ⟨kk, e2, e3⟩ := Option.map_eq_some_iff.mp e
        subst e3
        refine ⟨G, ds, y, s, w, ei, fun u G1 H1 g1 d1 => ?_⟩
        refine ⟨G1, ds, _, g1.sub, w.mono g1.keep, ea, fun v G2 H2 g2 d2 => ?_⟩
        cases d2 with
        | dct q z r =>
          obtain ⟨oo, p1, p2, _⟩ := dget_of (.inl (g2.sub _ _ q)) (denKV_dec r e1) (d1.mono g2.keep) e2
          refine ⟨_, oo, rfl, p1, ?_⟩
          rw [p2]
          exact k _ G2 H2 (g1.trans g2) (.bl _)
      · cases e
theorem t_bl {g : DS S → Option D} {σ : L2.St} {H : Hp} {Q : Bool → Hp → Prop} (h : tPT X.K (gB g) σ H Q) : tP X.K g σ H fun v H1 => ∃ c, v = .bl c ∧ Q c H1 := by
  obtain ⟨G, ds, c, s, w, e, k⟩ := h
  unfold gB at e
  split at e
  · cases e
    rename_i eg
    refine ⟨G, ds, _, s, w, eg, fun v G1 H1 g1 d1 => ?_⟩
    cases d1
    exact ⟨_, rfl, k G1 H1 g1⟩
  · cases e
theorem tp_ink {ga gi : DS S → Option D} (hu : X.A.units + 1 < cLine) (hi : PE X i (tP X.K gi)) (ho : PE X o (tP X.K ga)) (hm : behindInMarks .In o = false := by rfl) : PT X (.Compare i [.In] [o] pos) (tPT X.K (gB (gOp (inK true) gi ga))) :=
  PT.imp (pt_cmp (pc_din hu hi ho) hm) fun _ _ _ h => p_ink (t_bl h)
end
section
variable {S : Type} {K : PySem.W.Frag} {R : StI S} {pn : List Nat} {Dn : Ends} {σ : L2.St} {H : Hp} {g : SF S}
end
section
variable {S : Type} {X : Cx} {R : StI S} {pn : List Nat} {tg iter e o : Expr} {es : List Expr} {rest : List Stmt} {pos apos cpos : Pos} {g : SF S}
end
section
variable {S : Type} {X : Cx} {R : StI S} {o i e : Expr} {j : Nat} {pos pos2 : Pos} {pn : List Nat}
def gDPutB (j : Nat) (f : XF S D) (g : DS S → Option D) : SF S := fun ds => (f ds).bind fun p => (dicKs p.2 j).bind fun kvs => (g p.2).bind fun x => (keyOf1 x).bind fun k => if kvs.length < sizeLine then some (.nx (p.2.set j (some (.dic (putD kvs k p.1))))) else none
end
section
variable {S : Type} {X : Cx} {R : StI S} {e o i : Expr} {j : Nat} {pos : Pos}
end
structure TopLst (K : PySem.W.Frag) (mg : Str → Option Value) (x : Str) (ks : List Str) : Prop where
  ex : ∃ (a : Addr) (o : Obj) (its : Array Value) (n : Nat), mg x = some (.ref a) ∧ K.lookup a = some o ∧ o.cls = .type "list" ∧ o.dict = none ∧ o.data = .seq its n ∧ Vals (ks.map V.str) its.toList
section
variable {S : Type} {X : Cx} {e : Expr} {pos q : Pos} {x : Str} {ks : List Str}
end
section
variable {S : Type} {X : Cx} {a : Expr} {p p2 q pos : Pos}
end
section
variable {K : PySem.W.Frag} {G G' H H' : Hp}
theorem FVAt.off {v : V} {m : FV} {fp : Addr → Prop} (h : FVAt K G H v m fp) (s : SameX G G') (k : ∀ a, fp a → H' a = H a) : FVAt K G' H' v m fp := by
  cases m with
  | d x => exact ⟨h.1.off s, h.2⟩
  | l xs =>
    obtain ⟨p, vs, e0, e, z, d, q⟩ := h
    exact ⟨p, vs, e0, by rw [k p ((q p).mpr rfl)]; exact e, z, d.off s, q⟩
  | k kvs =>
    obtain ⟨p, xs, e0, e, z, d, q⟩ := h
    exact ⟨p, xs, e0, by rw [k p ((q p).mpr rfl)]; exact e, z, d.off s, q⟩
theorem FsAt.off : ∀ {vs : List (Str × V)} {fs : List (Str × FV)} {fp : Addr → Prop}, FsAt K G H vs fs fp → SameX G G' → (∀ a, fp a → H' a = H a) → FsAt K G' H' vs fs fp
  | _, _, _, .nil n, s, k => .nil n
  | _, _, _, .cons h r d e, s, k => .cons (h.off s fun a ha => k a ((e a).mpr (.inl ha))) (FsAt.off r s fun a ha => k a ((e a).mpr (.inr ha))) d e
end
section
variable {S : Type} {K : PySem.W.Frag} {R : StI S} {G G' H H' : Hp} {v : V} {m : MO S} {fp : Addr → Prop} {ds : DS S} {σ : L2.St} {F : Nat → Addr → Prop} {pn : List Nat} {g : SF S} {Dn : Ends} {j : Nat}
def noLkM : Option (MO S) → Bool
  | some (.lk _) => false
  | _ => true
theorem noL_off {G G' : Hp} (s : SameX G G') : SameX (noL G) (noL G') := fun b o e n => by
  obtain ⟨h, h1, h2, h3⟩ := noL_of e
  exact noL_mk (s b o h n) h1 h2 h3
theorem ovr_off {B G G' : Hp} (s : SameX G G') : SameX (ovr B G) (ovr B G') := fun b o e n => by
  unfold ovr at e ⊢
  cases h : B b with
  | some u => rw [h] at e; exact e
  | none => rw [h] at e; exact s b o e n
theorem OwnAt.off (h : OwnAt K R G H v m fp) (nl : noLkM (some m) = true) (s : SameX G G') (k : ∀ a, fp a → H' a = H a) : OwnAt K R G' H' v m fp := by
  cases m with
  | d x => exact ⟨h.1.off s, h.2⟩
  | lst xs =>
    obtain ⟨p, vs, e0, e, z, d, q⟩ := h
    exact ⟨p, vs, e0, by rw [k p ((q p).mpr rfl)]; exact e, z, d.off s, q⟩
  | st t => exact R.frame h s k
  | scr ns =>
    obtain ⟨⟨a, e, q⟩, n⟩ := h
    refine ⟨⟨a, e, ?_⟩, n⟩
    rcases q with (q | ⟨o, q⟩) | q
    · exact .inl (.inl (s _ _ q fun _ _ y => nomatch y))
    · exact .inl (.inr ⟨o, s _ _ q fun _ _ y => nomatch y⟩)
    · exact .inr q
  | dic kvs =>
    obtain ⟨p, xs, e0, e, z, d, q⟩ := h
    exact ⟨p, xs, e0, by rw [k p ((q p).mpr rfl)]; exact e, z, d.off s, q⟩
  | lk kvs => cases nl
  | dp x =>
    obtain ⟨B, e, q, d⟩ := h
    exact ⟨B, e, fun a o eb => by rw [k a ((e a).mpr (by rw [eb]; exact nofun))]; exact q a o eb, d.off (ovr_off (noL_off s))⟩
  | obj x fs =>
    obtain ⟨p, C, dx, vs, f1, e0, c, e, q, np, n⟩ := h
    exact ⟨p, C, dx, vs, f1, e0, c, by rw [k p ((n p).mpr (.inl rfl))]; exact e, q.off s fun a ha => k a ((n a).mpr (.inr ha)), np, n⟩
def lkAt (ds : DS S) (j : Nat) : Option (List (Key × D)) := match ds[j]? with
  | some (some (.lk kvs)) => some kvs
  | _ => none
def xKeysL (j : Nat) : XF S (List D) := fun ds => (lkAt ds j).map fun kvs => (kvs.map fun p => kD p.1, ds)
theorem KVsD.at : ∀ {xs : List (Key × V)} {kvs : List (Key × D)} {i : Nat} {k : Key} {v : V}, KVsD K G xs kvs → xs[i]? = some (k, v) → (kvs.map fun p => kD p.1)[i]? = some (kD k) ∧ Den K G (kV k) (kD k)
  | _, _, _, _, _, .nil, e => by simp at e
  | _, _, 0, _, _, .cons a b r, e => by cases e; exact ⟨rfl, a⟩
  | _, _, i + 1, _, _, .cons a b r, e => KVsD.at (i := i) r e
def gLock (j : Nat) (g : SF S) : SF S := fun ds => (dicKs ds j).bind fun kvs => (g (ds.set j (some (.lk kvs)))).bind fun o => match o with
  | .nx ds' => (lkAt ds' j).bind fun k2 => if ((ds'.set j none).all noLkM) = true then some (.nx (ds'.set j (some (.dic k2)))) else none
  | _ => none
end
section
variable {S : Type} {X : Cx} {R : StI S} {pn : List Nat} {tg iter o : Expr} {rest : List Stmt} {st : Stmt} {pos : Pos} {g : SF S}
def gForK (j : Nat) (t : D → Option (List (Nat × D))) (body : SF S) : SF S := gLock j (gFor (xKeysL j) t body)
end
def primD : D → Bool
  | .none => true | .bool _ => true | .int _ => true | .str _ => true
  | _ => false
def refD : D → Bool
  | .list _ => true | .tuple _ => true
  | _ => false
mutual
/-- each list within begins with a reference; no dict within -/
def apD : D → Bool
  | .none => true | .bool _ => true | .int _ => true | .str _ => true
  | .list [] => false
  | .list (x :: xs) => refD x && (apD x && apAll xs)
  | .tuple xs => apAll xs
  | .dict _ => false
def apAll : List D → Bool
  | [] => true
  | x :: xs => apD x && apAll xs
end
section
variable {S : Type}
def apS : Option (MO S) → Bool
  | some (.lst []) => true
  | some (.lst (x :: _)) => primD x
  | some (.obj _ _) => false
  | _ => true
def keepI (is : List Nat) (ds : DS S) : DS S := ds.mapIdx fun i m => if is.contains i then m else none
variable {K : PySem.W.Frag} {R : StI S} {G H G' H' B : Hp} {ds : DS S} {σ : L2.St} {F : Nat → Addr → Prop} {is : List Nat}
theorem keepI_get {i : Nat} : (keepI is ds)[i]? = (ds[i]?).map fun m => if is.contains i then m else none := by
  unfold keepI
  rw [List.getElem?_mapIdx]
theorem RS.keepI (r : RS K R ds σ G H F) : RS K R (keepI is ds) σ G H (fun i a => F i a ∧ is.contains i = true) := by
  refine ⟨r.sub, by unfold DL.keepI; rw [List.length_mapIdx]; exact r.len, fun i m em => ?_, fun i n a ha => ?_, fun i i' a h1 h2 => r.dj i i' a h1.1 h2.1, fun i a ha => r.dis i a ha.1⟩
  · rw [keepI_get] at em
    obtain ⟨m0, e0, e1⟩ := Option.map_eq_some_iff.mp em
    by_cases hc : is.contains i = true
    · rw [if_pos hc] at e1
      subst e1
      obtain ⟨u, hu, ou⟩ := r.own i m e0
      exact ⟨u, hu, ou.iff fun a => ⟨fun y => y.1, fun y => ⟨y, hc⟩⟩⟩
    · rw [if_neg hc] at e1
      cases e1
  · refine r.emp i (fun m em => n m ?_) a ha.1
    rw [keepI_get, em]
    show some (if is.contains i = true then some m else none) = _
    rw [if_pos ha.2]
theorem den_ref {v : V} {x : D} (h : Den K G v x) (e : refD x = true) : ∃ a, v = .ref a := by
  cases h with
  | non => cases e
  | bl b => cases e
  | int i => cases e
  | str x _ _ => cases e
  | lst _ _ _ => exact ⟨_, rfl⟩
  | tup _ _ _ => exact ⟨_, rfl⟩
  | emp _ => cases e
  | dct _ _ _ => cases e
  | obj _ _ _ => cases e
mutual
theorem Den.apart (hl : ∀ a w vs, G a = some (.lst (.ref w :: vs)) → G' a = some (.lst (.ref w :: vs))) (h : ∀ a o, G a = some o → (∀ vs, o ≠ .lst vs) → (∀ xs, o ≠ .dK xs) → (∀ C dx fs, o ≠ .ins C dx fs) → G' a = some o) : ∀ {v : V} {d : D}, Den K G v d → apD d = true → Den K G' v d
  | _, _, .non, _ => .non
  | _, _, .bl b, _ => .bl b
  | _, _, .int i, _ => .int i
  | _, _, .str x z o, _ => .str x z o
  | _, .list (x :: xs), .lst q z (.cons d0 r), e => by
    unfold apD at e
    obtain ⟨e1, e⟩ := Bool.and_eq_true_iff.mp e
    obtain ⟨e2, e3⟩ := Bool.and_eq_true_iff.mp e
    obtain ⟨w, rfl⟩ := den_ref d0 e1
    exact .lst (hl _ _ _ q) z (.cons (Den.apart hl h d0 e2) (DenAll.apart hl h r e3))
  | _, .list [], _, e => by unfold apD at e; cases e
  | _, .tuple _, .tup q z r, e => by
    unfold apD at e
    exact .tup (q.keep fun o q2 => h _ _ q2 frz_nl frz_nd frz_ni) z (DenAll.apart hl h r e)
  | _, _, .emp _, e => by unfold apD at e; cases e
  | _, _, .dct _ _ _, e => by unfold apD at e; cases e
  | _, _, .obj _ _ _, e => by unfold apD at e; cases e
theorem DenAll.apart (hl : ∀ a w vs, G a = some (.lst (.ref w :: vs)) → G' a = some (.lst (.ref w :: vs))) (h : ∀ a o, G a = some o → (∀ vs, o ≠ .lst vs) → (∀ xs, o ≠ .dK xs) → (∀ C dx fs, o ≠ .ins C dx fs) → G' a = some o) : ∀ {vs : List V} {ds : List D}, DenAll K G vs ds → apAll ds = true → DenAll K G' vs ds
  | _, _, .nil, _ => .nil
  | _, _, .cons d r, e => by
    unfold apAll at e
    obtain ⟨e1, e2⟩ := Bool.and_eq_true_iff.mp e
    exact .cons (Den.apart hl h d e1) (DenAll.apart hl h r e2)
end
end
section
variable {S : Type} {K : PySem.W.Frag} {R : StI S} {n : Nat}
def xCallA (n : Nat) (is : List Nat) (F : List D → Option (MO S)) (gs : DS S → Option (List D)) : XF S D := fun ds => (gs (keepI is ds)).bind fun as => if as.length = n then (F as).bind fun m => match m with
  | .lst xs => if (apAll xs && (keepI is ds).all apS) = true then some (.list xs, ds) else none
  | _ => none
  else none
end
section
variable {S : Type} {X : Cx} {R : StI S} {e : Expr} {es : List Expr} {x : Str} {n j k : Nat} {p pos : Pos} {is : List Nat}
end
section
variable {K : PySem.W.Frag}
end
section
variable {S : Type} {K : PySem.W.Frag} {R : StI S} {ds : DS S} {σ : L2.St} {G H : Hp} {F : Nat → Addr → Prop}
def xFrzK (i : Nat) : XF S D := fun ds => match ds[i]? with
  | some (some (.dic kvs)) => some (.dict ((.none, .bool true) :: encKs kvs), ds.set i (some (.d (.dict ((.none, .bool true) :: encKs kvs)))))
  | _ => none
end
section
variable {prog : Program} {w : World} {A : Around} {E : Value → Shared → Prop} {s : Shared}
theorem collect_tup {l : Addr} {vs : List Value} {Q : List Value → Shared → Prop} (ht : s.heap.IsTuple l vs.toArray) (hz : vs.length ≤ sizeLine) (q : Q vs { s with heap := (s.heap.push (seqObj "list" #[] 0)).update s.heap.objs.size (Obj.mapSeq (· ++ vs.toArray)) }) :
    wpAny (model prog w) A (collect (.ref l)) Q E s := by
  obtain ⟨ot, gt, kt, nt, dt⟩ := id ht
  have gt' : (s.heap.push (seqObj "list" #[] 0)).get? l = some ot := Heap.get?_push_of_some _ gt
  unfold collect
  refine wpAny_bind (wpAny_runValue (codeAny_builtin entry_proto_collect' (by
    show wpAny _ _ (do again (.builtin "list.__iadd__" ⟨[← newList [], .ref l], []⟩)) _ _ s
    refine wpAny_bind (wpAny_newList (wpAny_pure ⟨Code.quiet_builtin _ (by decide +kernel), codeAny_builtin entry_list_iadd' (by
      show wpAny _ _ (Builtin.List.listExtendWith (.ref s.heap.objs.size) (.ref l) (.ref s.heap.objs.size)) _ _ { s with heap := s.heap.push (seqObj "list" #[] 0) }
      unfold Builtin.List.listExtendWith
      refine wpAny_bind (wpAny_typeOf (T := "tuple") ⟨ot, gt', kt⟩ ?_)
      have two : (Value.type "tuple" == Value.type "tuple") = true := by rfl
      rw [if_pos (by rw [two]; simp)]
      refine wpAny_bind (listItems_at gt' dt (wpAny_bind (listItems_at (xs := #[]) (n := 0) (Heap.get?_push_size _ rfl) rfl ?_)))
      rw [if_neg (by simp)]
      refine wpAny_bind (listUpdate_at (xs := #[]) (n := 0) (Heap.get?_push_size _ rfl) rfl (wpAny_pure ?_) (Nat.zero_le _) (by
        show (#[] ++ vs.toArray).size ≤ sizeLine + 1
        simp only [Array.size_append, List.size_toArray, List.length_nil]
        omega))
      show wpAny (model prog w) A (do let o ← load s.heap.objs.size; match o.data with | .seq xs _ => pure xs.toList | _ => unsupported "internal:collect") Q E { s with heap := (s.heap.push (seqObj "list" #[] 0)).update s.heap.objs.size (Obj.mapSeq (· ++ vs.toArray)) }
      refine wpAny_bind (wpAny_load (get?_update_seq (Heap.get?_push_size _ rfl) _) ?_)
      have e0 : ((#[] : Array Value) ++ vs.toArray).toList = vs := by simp
      show wpAny _ _ (pure ((#[] : Array Value) ++ vs.toArray).toList) Q E _
      rw [e0]
      exact wpAny_pure q)⟩)))))
open PySem.W PySem.Calls in
theorem sorted_tupB {l : Addr} {vs : List Value} {Q : Value → Shared → Prop} (ht : s.heap.IsTuple l vs.toArray) (hz : vs.length ≤ sizeLine)
    (body : ∀ F : Value → Shared → Prop, wpAny (model prog w) A.in1.in1 (Builtin.«list.sort» ⟨[.ref (s.heap.objs.size + 1)], []⟩) (fun f s2 => f = .done (.ret .none) ∧ Q (.ref (s.heap.objs.size + 1)) s2) F { s with heap := copyHeap s.heap vs }) : wpAny (model prog w) A (call (.builtin "sorted") [.ref l]) Q E s := by
  refine call_function_entry_kw kind_sorted plain_sorted entry_sorted (args_sorted1 _) (by
    unfold Builtin.«sorted»
    refine wpAny_bind (m := checkCount "sorted" 1 1 _) (wpAny_pure (wpAny_bind (collect_tup ht hz (wpAny_bind (wpAny_newList (by
      have hs : ((s.heap.push (seqObj "list" #[] 0)).update s.heap.objs.size (Obj.mapSeq (· ++ vs.toArray))).objs.size = s.heap.objs.size + 1 := by rw [Heap.size_update, size_push']
      show wpAny _ _ _ _ _ { s with heap := copyHeap s.heap vs }
      rw [hs]
      refine wpAny_bind (wpAny_holding (wpAny_call_entry_kw slot_list_sort ⟨_, copyHeap_at s.heap vs, rfl⟩ entry_list_sort (by
        show wpAny (model prog w) A.in1.in1 (Builtin.«list.sort» ⟨[.ref (s.heap.objs.size + 1)], []⟩) _ _ _
        exact wpAny_mono (body _) (fun f s2 hf => by
          obtain ⟨rfl, hq⟩ := hf
          exact ⟨_, rfl, wpAny_pure ⟨_, rfl, hq⟩⟩) fun _ _ e => e) (args_list_sort _)))) hz))))))
open PySem.W in
theorem sorted_tupD {β : Type} {bs : List β} {enc : β → PyData} {R : Value → β → Prop} {l : Addr} {vs : List Value} {Q : Value → Shared → Prop} (ht : s.heap.IsTuple l vs.toArray) (e : EachIs R vs bs) (er : EachIs (fun v b => ∃ as, Reads s.heap v (enc b) as) vs bs) (hal : AllAlike (bs.map enc)) (hk : Sortable (bs.map enc)) (hL : bs.length ≤ sizeLine)
    (hu : ∀ b, b ∈ bs → A.units + 2 + (enc b).depth < cLine) (h : ∀ out, out.length = bs.length → EachIs R out (bs.mergeSort (dataLe false enc)) → Q (.ref (s.heap.objs.size + 1)) { s with heap := sortedAll s.heap vs (List.toArray out) }) : wpAny (model prog w) A (call (.builtin "sorted") [.ref l]) Q E s := by
  have e2 : EachIs (fun v b => ∃ as, Reads (sortingHeap (copyHeap s.heap vs) (s.heap.objs.size + 1) vs) v (enc b) as) vs bs := er.mono fun _ _ ⟨as, r⟩ => ⟨as, PyProof.Rows.Reads.keeps (fun _ _ => sorting_copy_old) r⟩
  have zl : vs.length ≤ sizeLine := by rw [e.length]; exact hL
  have S := SortsAt.data (prog := prog) (w := w) (A := A.in1.in1) (s := { s with heap := sortingHeap (copyHeap s.heap vs) (s.heap.objs.size + 1) vs }) (each_map (R := fun v d => ∃ as, Reads (sortingHeap (copyHeap s.heap vs) (s.heap.objs.size + 1) vs) v d as) enc e2) hal hk (bound_map hu)
  exact sorted_tupB ht zl fun F => list_sort_vals (s := { s with heap := copyHeap s.heap vs }) (copyHeap_at s.heap vs) S zl ⟨rfl, h _ (by rw [sortVals_length false rfl]; exact e.length) (sortVals_data false e e2 hal)⟩
end
section
variable {X : Cx} {K : PySem.W.Frag}
def sortedTD : List D → Option (List D)
  | [.tuple xs] => if allAlikeB xs = true ∧ sortableB xs = true ∧ PyData.depthAll xs ≤ 64 then some (sortD xs) else none
  | _ => none
def rSortedAT (K : PySem.W.Frag) : List V → Hp → VK → Prop := fun xs H Q => ∃ a vs ds, xs = [.ref a] ∧ SqT K H a vs ∧ DpAll K H vs ds ∧ PySem.W.AllAlike ds ∧ PySem.W.Sortable ds ∧ vs.length ≤ sizeLine ∧ (∀ d ∈ ds, d.depth ≤ 64) ∧
  ∀ ps : List (V × D), ps.Perm (vs.zip ds) → ps.map (·.2) = sortD ds → ∀ p, H p = none → Q (.ref p) (upd H p (.lst (ps.map (·.1))))
theorem cr_sortedAT (hu : X.A.units + 100 < cLine) : CallR X (.builtin "sorted") (rSortedAT X.K) := fun pins s σ H xs us Q I r h => by
  obtain ⟨a, vs, ds, rfl, hq, hd, hal, hk, hz, hdep, q⟩ := h
  obtain rfl := Vals.ref1 r
  obtain ⟨its, rv, pl, _⟩ := I.tuple hq
  have e1 : PySem.W.EachIs (fun u (p : V × D) => RelV p.1 u) its (vs.zip ds) := each_of hd rv fun _ _ _ _ r => r
  have e2 : PySem.W.EachIs (fun u (p : V × D) => ∃ as, Reads s.heap u p.2 as) its (vs.zip ds) := each_of hd rv fun v d u h r => Dp.reads I d v u h r
  have z2 := zip_snd hd
  have hl : (vs.zip ds).length = vs.length := e1.length.symm.trans rv.length.symm
  refine sorted_tupD (β := V × D) (enc := fun p => p.2) pl e1 e2 (by rw [z2]; exact hal) (by rw [z2]; exact hk) (by rw [hl]; exact hz) (fun b hb => ?_) fun out hlo ho => ?_
  · have := hdep b.2 (by rw [← z2]; exact List.mem_map_of_mem hb)
    omega
  · have hp := List.mergeSort_perm (vs.zip ds) (PySem.W.dataLe false fun p : V × D => p.2)
    have hm : ((vs.zip ds).mergeSort (PySem.W.dataLe false fun p : V × D => p.2)).map (·.2) = sortD ds := by
      have y := PySem.W.sort_maps (r := PySem.W.dataLe false fun p : V × D => p.2) (s := PySem.W.dataLe false fun d : D => d) (fun p : V × D => p.2) (l := vs.zip ds) fun a _ b _ => rfl
      rw [z2] at y
      exact y
    obtain ⟨ep, he⟩ := PyProof.Rows.sortedAll_at s.heap its out.toArray
    have zo : (((vs.zip ds).mergeSort (PySem.W.dataLe false fun p : V × D => p.2)).map (·.1)).length ≤ sizeLine := by rw [List.length_map, hp.length_eq, hl]; exact hz
    refine ⟨.ref _, upd H (s.heap.objs.size + 1) (.lst _), I.laid (t' := s.toks) (fun _ _ => PyProof.Rows.sortedAll_old) (Nat.le_succ _) ⟨zo, out.toArray.toList, ep, ?_, he⟩, rfl, q _ hp hm _ (I.hok.fresh (Nat.le_succ _))⟩
    have hv := vals_each ho
    simpa using hv
theorem d_sortedT : RCF K (rSortedAT K) sortedTD := fun vs ds d G H Q s da e k => by
  match ds, e with
  | [.tuple ds], e =>
    match vs, da with
    | _, .cons (.tup q z r) .nil =>
      simp only [sortedTD] at e
      split at e
      · cases e
        rename_i h
        refine ⟨_, _, ds, rfl, (q.keep fun o e => s _ _ e).sq, (r.mono s).dp (noD_alike h.1), allAlike_of h.1, sortable_of h.2.1, z, depth_all h.2.2, fun ps hp hm p hn => ?_⟩
        have hd : DenAll K G (ps.map (·.1)) (ps.map (·.2)) := denAll_zip fun x hx => den_zip r x (hp.mem_iff.mp hx)
        rw [hm] at hd
        refine k p _ G _ (.own s hn) (s.free hn) hn upd_same ?_ hd
        rw [List.length_map, hp.length_eq, List.length_zip]
        exact Nat.le_trans (Nat.min_le_left _ _) z
      · cases e
theorem sortedTD_eq (xs : List D) : sortedTD [.tuple xs] = sortedD [.list xs] := rfl
end
section
variable {S : Type} {K : PySem.W.Frag} {R : StI S} {ds : DS S} {σ : L2.St} {G H : Hp} {F : Nat → Addr → Prop}
end
section
variable {S : Type} {X : Cx} {R : StI S} {k j n : Nat} {x : Str} {p pos : Pos} {e : Expr} {es : List Expr}
end
section
variable {S : Type} {K : PySem.W.Frag} {R : StI S} {ds : DS S} {σ σ' : L2.St} {G H G' H' : Hp} {F : Nat → Addr → Prop}
end
section
variable {S : Type} {iw ix : Nat} {z : Str}
end
section
variable {S : Type} {X : Cx} {R : StI S} {pn : List Nat} {tg iter o e : Expr} {es : List Expr} {body rest : List Stmt} {pos apos cpos bpos : Pos} {g0 g : SF S} {fs : XF S (List D)}
end
section
variable {K : PySem.W.Frag} {G : Hp}
end
section
variable {S : Type} {X : Cx} {R : StI S} {j : Nat} {o : Expr} {apos pos2 : Pos}
end
section
variable {S : Type} {K : PySem.W.Frag} {R : StI S} {ds : DS S} {σ : L2.St}
end
section
variable {S : Type} {X : Cx} {R : StI S} {n i j k l : Nat} {x : Str} {p pos : Pos} {e e2 : Expr} {es : List Expr}
end
section
variable {prog : Program} {w : World} {A : Around} {E : Value → Shared → Prop} {s : Shared}
end
section
variable {S : Type} {X : Cx} {R : StI S} {e : Expr} {pos p2 : Pos}
end
section
variable {X : Cx}
end
section
variable {K : PySem.W.Frag} {G : Hp}
end
section
variable {X : Cx}
variable {o e : Expr} {es : List Expr} {to : TE} {t : TA} {name : Str} {apos cpos : Pos} {id : String} {r : V → List V → Hp → VK → Prop}
end
section
variable {S : Type} {X : Cx} {R : StI S} {pn : List Nat} {o e i : Expr} {apos cpos pos tpos : Pos}
end
section
variable {X : Cx} {K : PySem.W.Frag}
variable {S : Type} {o : Expr} {apos pos : Pos}
end
section
variable {S : Type} {X : Cx} {a o i : Expr} {pos p apos cpos : Pos}
end
theorem entry_ci : entryFor table "proto.contains_iter" = some Builtin.«proto.contains_iter» := entryFor_of_fast (by kernel_rfl)
theorem plain_ci : plainId "proto.contains_iter" = true := by decide +kernel
theorem noContains : typeLookup (.type "dict_values") "__contains__" = pure none := by
  rw [typeLookup_type, builtinLookup_eq_fast]; kernel_rfl
section
variable {prog : Program} {w : World} {A : Around} {R : Result → Shared → Prop} {I : Addr} {fp wr : List Addr} {G : Array GenState → Array GenState → Prop} {n : Nat} {P : Nat → Value → Prop} {St : Nat → Shared → Prop}
theorem contains_loop (W : WalksS prog w A.in1 I fp wr G n P St) (x : Value) (es : List Bool) (hn : es.length = n) (s0 : Shared)
    (heq : ∀ i v b s', P i v → es[i]? = some b → Moved wr G s0 s' → SeqAt.EqAt A.in1 s' v x b) :
    ∀ (k i : Nat) (s : Shared), n - i = k → i ≤ n → St i s → Moved wr G s0 s → (∀ s', Moved wr G s0 s' → R (.ok (.ret (.bool ((es.drop i).any id)))) s') →
    codeAny (model prog w) A (.builtin "proto.contains_iter" ⟨[.ref I, x], []⟩) R s := by
  intro k
  induction k with
  | zero =>
    intro i s hk hi hst hm hR
    have hin : i = n := by omega
    subst hin
    refine codeAny_builtin entry_ci ?_
    rw [Around.under_plainId plain_ci _]
    show wpAny _ A.in1 (pyNext (.ref I) >>= _) _ _ s
    refine wpAny_bind (W.done s _ _ hst fun s' hm' => ?_)
    have e0 : es.drop es.length = [] := List.drop_eq_nil_of_le (Nat.le_refl _)
    rw [hn] at e0
    have := hR s' (Moved.trans W.gtrans hm hm')
    rw [e0] at this
    refine wpAny_bind (wpAny_rule ?_)
    exact wpAny_pure this
  | succ k ih =>
    intro i s hk hi hst hm hR
    have hlt : i < n := by omega
    have hb : i < es.length := by omega
    refine codeAny_builtin entry_ci ?_
    rw [Around.under_plainId plain_ci _]
    show wpAny _ A.in1 (pyNext (.ref I) >>= _) _ _ s
    refine wpAny_bind (W.item i s _ _ hlt hst fun v s' hP hst' hm' => ?_)
    have m2 := Moved.trans W.gtrans hm hm'
    have ed : es.drop i = es[i] :: es.drop (i + 1) := List.drop_eq_getElem_cons hb
    show wpAny _ A.in1 (eqBool v x >>= _) _ _ s'
    refine wpAny_bind (heq i v es[i] s' hP (List.getElem?_eq_getElem hb) m2 prog w _ _ ?_)
    rw [ed] at hR
    cases hbe : es[i] with
    | true =>
      have := hR s' m2
      rw [hbe] at this
      refine wpAny_bind (wpAny_rule ?_)
      exact wpAny_pure this
    | false =>
      rw [hbe] at hR
      refine wpAny_pure ?_
      exact ⟨plainId_quiet plain_ci _, ih (i + 1) s' (by omega) hlt hst' m2 hR⟩
end
section
variable {prog : Program} {w : World} {κ : Type} [DecidableEq κ] {kn : KeyKind prog w κ} {A : Around} {E : Value → Shared → Prop} {s : Shared} {vw dd : Addr} {tab : List (κ × Value)} {ep : Nat}
theorem vals_contains {Q : Bool → Shared → Prop} (hh : A.handled = none) (hv : s.heap.IsValuesView vw dd) (hm : s.heap.DictAt kn dd tab ep) (x : Value) (es : List Bool) (hn : es.length = tab.length)
    (heq : ∀ (i : Nat) k v b h' tk, tab[i]? = some (k, v) → es[i]? = some b → (∀ c o, s.heap.get? c = some o → h'.get? c = some o) → SeqAt.EqAt A.in1 { s with heap := h', toks := tk } v x b)
    (q : ∀ h' tk, (∀ c o, s.heap.get? c = some o → h'.get? c = some o) → Q (es.any id) { s with heap := h', toks := tk }) :
    wpAny (model prog w) A (contains (.ref vw) x) Q E s := by
  unfold contains
  refine wpAny_holding ?_
  rw [stdlibNamesSay?_of_typeIs hv.typeIs]
  refine wpAny_bind (wpAny_specialOf hv.typeIs noContains ?_)
  show wpAny _ A (if ((Option.none : Option Value) == some Value.none) = true then _ else _) Q E s
  rw [if_neg (by simp)]
  refine wpAny_bind ?_
  unfold callSpecialUnlessNone?
  refine wpAny_bind (wpAny_specialOf hv.typeIs noContains ?_)
  refine wpAny_pure ?_
  dsimp only
  refine wpAny_bind (wpAny_rule ?_)
  refine wpAny_bind (wpAny_tryCatch (wpAny_pyIter_values hv hm ?_))
  have lD : dd < s.heap.objs.size := hm.lt_size
  have nI : dd ≠ s.heap.objs.size := Nat.ne_of_lt lD
  have W := (Walks.dictValues (prog := prog) (w := w) (A := A.in1) (knd := kn) hh s.heap.objs.size dd nI tab ep).toS
  refine wpAny_bind (wpAny_runValue ?_)
  have kept : ∀ {c : Addr} {o : Obj}, s.heap.get? c = some o → c ∉ [s.heap.objs.size] := fun e z => Nat.lt_irrefl _ ((List.mem_singleton.mp z) ▸ Heap.lt_size e)
  have same : ∀ s' : Shared, Moved [s.heap.objs.size] (fun a b => b = a) { s with heap := s.heap.push { cls := .type "dict_valueiterator", data := .fields #[.ref dd, .int 0 0, .int tab.length 0, .int ep 0] } } s' → ∃ h' tk, s' = { s with heap := h', toks := tk } ∧ ∀ c o, s.heap.get? c = some o → h'.get? c = some o := fun s' hmv => by
    obtain ⟨hp, gg, dr, tk', oo⟩ := s'
    have e1 : gg = s.gens := hmv.gens
    have e2 : dr = s.drawn := hmv.drawn
    have e3 : oo = s.os := hmv.os
    subst e1 e2 e3
    exact ⟨hp, tk', rfl, fun c o e => hmv.heap c o (kept e) (Heap.get?_push_of_some _ e)⟩
  refine contains_loop W x es hn _ (fun i v b s' hP hb hm' => ?_) tab.length 0 _ (Nat.sub_zero _) (Nat.zero_le _) ⟨⟨_, Heap.get?_push_size _ rfl, rfl, rfl⟩, hm.push _⟩ ⟨fun b o _ e => e, W.grefl _, rfl, rfl, Nat.le_refl _⟩ fun s' hm' => ?_
  · obtain ⟨k, hk⟩ := hP
    obtain ⟨h', tk, rfl, hk'⟩ := same s' hm'
    exact heq i k v b h' tk hk hb hk'
  · obtain ⟨h', tk, rfl, hk'⟩ := same s' hm'
    exact wpAny_pure (q h' tk hk')
end
section
variable {X : Cx} {a e : Expr} {ta te : TE} {apos cpos pos : Pos}
def tInVals (op : Bool → Bool) (K : PySem.W.Frag) (ta te : TE) : TE := fun σ H Q => ta σ H fun x H1 => te σ H1 fun y H2 => ∃ d kvs dx ds, y = .ref d ∧ Rd H2 d (.dK kvs) ∧ Dp K H2 x dx ∧ DpAll K H2 (kvs.map (·.2)) ds ∧ dx.canLay0 = true ∧ PyData.canLayAll0 ds = true ∧ min (PyData.depthAll ds) dx.depth ≤ 64 ∧ Q (.bl (op (ds.any fun z => PyData.eqv z dx))) H2
theorem dpAll_at {K : PySem.W.Frag} {H : Hp} : ∀ {vs : List V} {ds : List D} {i : Nat} {v : V}, DpAll K H vs ds → vs[i]? = some v → ∃ d, ds[i]? = some d ∧ Dp K H v d
  | _, _, _, _, .nil, e => by simp at e
  | _, _, 0, _, .cons h _, e => by simp at e; subst e; exact ⟨_, rfl, h⟩
  | _, _, i + 1, _, .cons _ r, e => by
    obtain ⟨d, h1, h2⟩ := dpAll_at (i := i) r (by simpa using e)
    exact ⟨d, by simpa using h1, h2⟩
theorem dpAll_len {K : PySem.W.Frag} {H : Hp} : ∀ {vs : List V} {ds : List D}, DpAll K H vs ds → vs.length = ds.length
  | _, _, .nil => rfl
  | _, _, .cons _ r => congrArg (· + 1) (dpAll_len r)
theorem lay_at : ∀ {ds : List D} {i : Nat} {d : D}, PyData.canLayAll0 ds = true → ds[i]? = some d → d.canLay0 = true ∧ d.depth ≤ PyData.depthAll ds
  | [], _, _, _, e => by simp at e
  | x :: r, i, d, h, e => by
    unfold PyData.canLayAll0 at h
    obtain ⟨h1, h2⟩ := Bool.and_eq_true_iff.mp h
    cases i with
    | zero =>
      simp at e
      subst e
      exact ⟨h1, by simp only [PyData.depthAll]; exact Nat.le_max_left _ _⟩
    | succ i =>
      obtain ⟨g1, g2⟩ := lay_at (i := i) h2 (by simpa using e)
      exact ⟨g1, by simp only [PyData.depthAll]; exact Nat.le_trans g2 (Nat.le_max_right _ _)⟩
theorem vals_in (hu : X.A.units + 66 < cLine) (hc : X.calm = true) (he : PE X e te) (hbase : attributeBase e "values" X.env (eval e X.env) = eval e X.env) (hline : (apos.endLine == cpos.line) = true) {pins : List (Addr × Obj)} {s1 : Shared} {σ : L2.St} {H1 : Hp} {x : V} {v : Value} (I1 : Inv X pins σ H1 s1) (r1 : RelV x v) {Q : Bool → Hp → Prop} {Fq : Value → Bool → Shared → Prop}
    (q1 : te σ H1 fun y H2 => ∃ d kvs dx ds, y = .ref d ∧ Rd H2 d (.dK kvs) ∧ Dp X.K H2 x dx ∧ DpAll X.K H2 (kvs.map (·.2)) ds ∧ dx.canLay0 = true ∧ PyData.canLayAll0 ds = true ∧ min (PyData.depthAll ds) dx.depth ≤ 64 ∧ Q (ds.any fun z => PyData.eqv z dx) H2)
    (k : ∀ u b s', (∃ H2, Inv X pins σ H2 s' ∧ Q b H2) → Fq u b s') :
    wpAny (model X.prog X.w) X.A (eval (.Call (.Attribute e "values" apos) [] [] cpos) X.env) (fun u s2 => wpAny (model X.prog X.w) X.A (contains u v) (Fq u) X.xe s2) X.xe s1 := by
  refine wpAny_Call_method (T := "dict") (id := "dict.values") hbase rfl hline F.plainAttrs_dict F.slot_dict_values F.type_dict_values (thn (he.run pins s1 σ H1 _ I1 q1) fun u s2 ⟨y, H2, I2, ry, d, kvs, dx, ds, ey, hd, dpx, dpa, l1, l2, dep, q⟩ => ?_)
  subst ey
  obtain rfl : u = Value.ref d := ry
  obtain ⟨hz, hs0, vs, kv, hdo⟩ := hd.ok I2.hok
  obtain ⟨ep, hat⟩ := hdo.dictAt
  have lk : kvs.length = vs.length := Paired.length kv
  have I3 : Inv X pins σ H2 { s2 with heap := s2.heap.push { cls := .type "dict_values", data := .fields #[.ref d] } } := I2.kept (t' := s2.toks) fun b ob q => Heap.get?_push_of_some _ q
  refine ⟨hdo.typeIs, hdo.mapOf.noDict, ?_⟩
  show wpAny _ _ (callWith cpos (.builtin "dict.values") [.ref d] [] []) _ X.xe s2
  refine method_meetsIn F.slot_dict_values F.entry_dict_values rfl (PySem.evalArgs_none ⟨rfl, hdo.typeIs, F.args_dict_values_1 _, _, meets_dict_values (mixKind X.prog X.w) d hs0, ⟨vs, hdo⟩, ?_⟩)
  refine vals_contains (kn := mixKind X.prog X.w) (tab := vs) (ep := ep) (I2.ok.hd hc) ⟨_, Heap.get?_push_size _ rfl, rfl, rfl⟩ (hat.push _) v (ds.map fun z => PyData.eqv z dx) ?_ (fun i kk vv b h' tk hi hb hk => ?_) fun h' tk hk => ?_
  · have := dpAll_len dpa
    rw [List.length_map] at this
    rw [List.length_map]
    omega
  · obtain ⟨yv, g1, g2⟩ := KV.at' kv hi
    have J := I3.kept (t' := tk) hk
    obtain ⟨di, hdi, dpi⟩ := dpAll_at (i := i) (v := yv) dpa (by rw [List.getElem?_map, g1]; rfl)
    obtain ⟨as1, rd1⟩ := Dp.reads J di yv vv dpi g2
    obtain ⟨bs, rd2⟩ := Dp.reads J dx x v dpx r1
    obtain ⟨la, dd⟩ := lay_at l2 hdi
    rw [List.getElem?_map, hdi] at hb
    cases hb
    exact SeqAt.eqAt_reads di dx X.A.in1 _ vv v _ _ rd1 rd2 la l1 (by
      show X.A.units + 1 + min di.depth dx.depth < cLine
      have : min di.depth dx.depth ≤ min (PyData.depthAll ds) dx.depth := Nat.le_min.mpr ⟨Nat.le_trans (Nat.min_le_left _ _) dd, Nat.min_le_right _ _⟩
      omega)
  · have ea : (ds.map fun z => PyData.eqv z dx).any id = ds.any fun z => PyData.eqv z dx := by rw [List.any_map]; rfl
    rw [ea]
    exact k _ _ _ ⟨H2, I3.kept (t' := tk) hk, q⟩
theorem pe_inVals (hu : X.A.units + 66 < cLine) (hc : X.calm = true) (ha : PE X a ta) (he : PE X e te) (hbase : attributeBase e "values" X.env (eval e X.env) = eval e X.env := by rfl) (hline : (apos.endLine == cpos.line) = true := by rfl) (hm : behindInMarks .In (.Call (.Attribute e "values" apos) [] [] cpos) = false := by rfl) :
    PE X (.Compare a [.In] [.Call (.Attribute e "values" apos) [] [] cpos] pos) (tInVals id X.K ta te) := by
  refine ⟨fun pins s σ H Q I h => wpAny_Compare1 (thn (ha.run pins s σ H _ I h) fun v s1 ⟨x, H1, I1, r1, q1⟩ => ?_) hm⟩
  refine thn (vals_in hu hc he hbase hline I1 r1 (Q := fun b H2 => Q (.bl b) H2) q1 (Fq := fun u b s' => wpAny (model X.prog X.w) X.A (pure (Value.bool b)) (EP X pins σ Q) X.xe s') fun u b s' ⟨H2, J, q⟩ => wpAny_pure ⟨.bl b, H2, J, rfl, q⟩) fun u s2 h2 => ?_
  show wpAny _ _ (contains u v >>= fun b => pure (Value.bool b)) _ _ _
  exact wpAny_bind h2
end
section
variable {S : Type} {X : Cx} {a e : Expr} {apos cpos pos : Pos} {j : Nat} {ga : DS S → Option D}
def gInVals (op : Bool → Bool) (j : Nat) (ga : DS S → Option D) : DS S → Option D := fun ds => (ga ds).bind fun x => (dicLs ds j).bind fun kvs => if noD x = true ∧ noDAll (kvs.map (·.2)) = true ∧ min (PyData.depthAll (kvs.map (·.2))) x.depth ≤ 64 then some (.bool (op (anyEq x (kvs.map (·.2))))) else none
theorem kvsD_all {K : PySem.W.Frag} {G : Hp} {xs : List (Key × V)} {kvs : List (Key × D)} (h : KVsD K G xs kvs) : DenAll K G (xs.map (·.2)) (kvs.map (·.2)) := by
  induction h with
  | nil => exact .nil
  | cons a b r ih => exact .cons b ih
theorem inVals_te {op : Bool → Bool} {K : PySem.W.Frag} {σ : L2.St} {H : Hp} {Q : V → Hp → Prop} (h : tP K (gInVals op j ga) σ H Q) : tInVals op K (tP K ga) (tVar j) σ H Q := by
  obtain ⟨G, ds, d, s, w, e, k⟩ := h
  unfold gInVals at e
  cases ea : ga ds with
  | none => rw [ea] at e; cases e
  | some x =>
    rw [ea, Option.bind_some] at e
    cases el : dicLs ds j with
    | none => rw [el] at e; cases e
    | some kvs =>
      rw [el, Option.bind_some] at e
      split at e
      · rename_i hz
        cases e
        obtain ⟨v, hv, a, xs, rfl, q, r⟩ := dicLs_view (K := K) w el
        refine ⟨G, ds, x, s, w, ea, fun u G1 H1 g1 d1 => ?_⟩
        have da := (kvsD_all r).mono g1.keep
        exact ⟨_, hv, a, xs, x, kvs.map (·.2), rfl, rd_mono g1.sub (rd_mono g1.keep q), (d1.mono g1.sub).dp hz.1, (da.mono g1.sub).dp hz.2.1, d1.lay hz.1, da.lay hz.2.1, hz.2.2, k _ G1 H1 g1 (.bl _)⟩
      · cases e
theorem ep_inVals (hu : X.A.units + 66 < cLine) (hc : X.calm = true) (ha : PE X a (tP X.K ga)) (he : PE X e (tVar j)) (hbase : attributeBase e "values" X.env (eval e X.env) = eval e X.env := by rfl) (hline : (apos.endLine == cpos.line) = true := by rfl) (hm : behindInMarks .In (.Call (.Attribute e "values" apos) [] [] cpos) = false := by rfl) :
    PE X (.Compare a [.In] [.Call (.Attribute e "values" apos) [] [] cpos] pos) (tP X.K (gInVals id j ga)) := PE.imp (pe_inVals hu hc ha he hbase hline hm) fun σ H Q h => inVals_te h
end
section
variable {S : Type} {X : Cx} {o i : Expr} {pos : Pos} {j : Nat} {g : DS S → Option D}
end
section
variable {S : Type} {X : Cx} {e e2 e3 : Expr} {g1 : DS S → Option (List D)} {p pos tpos : Pos} {elts : List Expr} {kk : Nat}
end
section
variable {S : Type} {X : Cx} {o i a e : Expr} {pos apos cpos : Pos} {j : Nat} {g ga : DS S → Option D}
theorem t_blG {g : DS S → Option D} {σ : L2.St} {H : Hp} {Q : Bool → Hp → Prop} (h : tPT X.K (gB g) σ H Q) : tP X.K g σ H fun v H1 => ∃ c, v = .bl c ∧ Q c H1 := by
  obtain ⟨G, ds, c, s, w, e, k⟩ := h
  unfold gB at e
  split at e
  · cases e
    rename_i eg
    refine ⟨G, ds, _, s, w, eg, fun v G1 H1 g1 d1 => ?_⟩
    cases d1
    exact ⟨_, rfl, k G1 H1 g1⟩
  · cases e
theorem pt_ninVals {ta te : TE} (hu : X.A.units + 66 < cLine) (hc : X.calm = true) (ha : PE X a ta) (he : PE X e te) (hbase : attributeBase e "values" X.env (eval e X.env) = eval e X.env := by rfl) (hline : (apos.endLine == cpos.line) = true := by rfl) (hm : behindInMarks .NotIn (.Call (.Attribute e "values" apos) [] [] cpos) = false := by rfl) :
    PT X (.Compare a [.NotIn] [.Call (.Attribute e "values" apos) [] [] cpos] pos) (tB (tInVals not X.K ta te)) := by
  refine ⟨fun pins s σ H Q I h => wpAny_isTrue_Compare1 (thn (ha.run pins s σ H _ I h) fun v s1 ⟨x, H1, I1, r1, q1⟩ => ?_) hm⟩
  refine thn (vals_in hu hc he hbase hline I1 r1 (Q := fun b H2 => ∃ c, V.bl (not b) = V.bl c ∧ Q c H2) (Fq := fun u b s' => wpAny (model X.prog X.w) X.A (truthy (Value.bool (not b))) (fun b s1 => ∃ H1, Inv X pins σ H1 s1 ∧ Q b H1) X.xe s') q1 fun u b s' ⟨H2, J, c, ec, q⟩ => wpAny_truthy_bool ⟨H2, J, by cases ec; exact q⟩) fun u s2 h2 => ?_
  · show wpAny _ _ (contains u v >>= fun b => pure (Value.bool (not b))) _ _ _
    exact wpAny_bind (wpAny_mono h2 (fun b s3 h3 => wpAny_pure h3) fun _ _ z => z)
theorem tp_ninVals (hu : X.A.units + 66 < cLine) (hc : X.calm = true) (ha : PE X a (tP X.K ga)) (he : PE X e (tVar j)) (hbase : attributeBase e "values" X.env (eval e X.env) = eval e X.env := by rfl) (hline : (apos.endLine == cpos.line) = true := by rfl) (hm : behindInMarks .NotIn (.Call (.Attribute e "values" apos) [] [] cpos) = false := by rfl) :
    PT X (.Compare a [.NotIn] [.Call (.Attribute e "values" apos) [] [] cpos] pos) (tPT X.K (gB (gInVals not j ga))) := PT.imp (pt_ninVals hu hc ha he hbase hline hm) fun σ H Q h => inVals_te (t_blG h)
end
section
variable {S : Type} {X : Cx} {R : StI S} {k j n : Nat} {f : Addr} {fd : FuncData} {ps : List Str} {sp : Sp} {E : XK} {C : CXT} {x : Str} {p pos : Pos}
end
section
variable {S : Type}
def spV (K : PySem.W.Frag) (R : StI S) (n : Nat) (F : List (Key × D) → List D → Option (MO S × List (Key × D))) : Sp := fun vs H Q _ => vs.length = n ∧ ∃ G fp v0 vr xs as m ys, vs = v0 :: vr ∧ Same G H ∧ OwnAt (S := S) K R G H v0 (.dic xs) fp ∧ (∀ a, fp a → G a = none) ∧ DenAll K G vr as ∧ F xs as = some (m, ys) ∧
  ∀ v G' H' fp' fr, Step G H fp G' H' (fun a => fp' a ∨ fr a) → OwnAt (S := S) K R G' H' v0 (.dic ys) fp' → OwnAt K R G' H' v m fr → (∀ a, fr a → ¬ fp' a) → (∀ a, fp' a ∨ fr a → G' a = none) → Q v H'
def runV (n : Nat) (g : SF S) : List (Key × D) → List D → Option (MO S × List (Key × D)) := fun xs as => (g (startD n (.dic xs :: as.map .d))).bind fun o => (outM o).bind fun p => (dicKs p.2 0).map fun ys => (p.1, ys)
variable {K : PySem.W.Frag} {R : StI S} {P : Program} {w : World} {mg : Str → Option Value} {base : Heap} {x qual : Str} {st : Stmt} {f : Addr} {fd : FuncData} {N ps : List Str} {k : Nat} {g : SF S}
section
theorem fn_V (Fn : Fun K x qual st f fd) (sc : FnScope N ps (defScope st)) (hbody : BodyOk P w K mg base N qual st f k R [0] g) : FnG P w K mg base CX0 (k + 1) f fd ps (spV K R ps.length (runV N.length g)) := by
  refine fnG_of Fn sc (fun vs H Q E h => h.1) fun cdv A outer s H vs Q E hr hgd h => ⟨_, hbody cdv A outer s H E hr hgd, ?_⟩
  obtain ⟨hl, G, fp, v0, vr, t, as, m, t', rfl, sm, rel, nn, d, e, q⟩ := h
  unfold runV at e
  cases eg : g (startD N.length (.dic t :: as.map .d)) with
  | none => rw [eg] at e; cases e
  | some o =>
    rw [eg] at e
    simp only [Option.bind_some] at e
    have r := rs_start (N := N) sm (argOk_first (R := R) (H := H) (v0 := v0) (m0 := .dic t) (fp := fp) rel nn d)
    refine ⟨G, _, _, o, r, eg, ?_⟩
    have nf : ∀ {G' H' : Hp} {P' : Addr → Prop}, Step G H (fun a => ∃ (i : Nat), i = 0 ∧ fp a) G' H' P' → Step G H fp G' H' P' := fun s => ⟨fun a ha o e => s.frame a (fun ⟨_, _, z⟩ => ha z) o e, s.keep, s.sub, fun b hb => by
      rcases s.new0 b hb with z | z | ⟨_, _, z⟩
      · exact .inl z
      · exact .inr (.inl z)
      · exact .inr (.inr z), fun b hb => (s.newf b hb).elim (fun ⟨_, _, z⟩ => .inl z) .inr⟩
    have st0 : (L2.start N (v0 :: vr))[0]? = some (some v0) := rfl
    have fin : ∀ (m' : MO S) (ds' : DS S), (outM o) = some (m', ds') → (dicKs ds' 0).map (fun s' => (m', s')) = some (m, t') ∧ True := fun m' ds' h => by
      rw [h] at e
      exact ⟨e, trivial⟩
    cases o with
    | nx ds' =>
      intro σ' G' H' F' r' s' p'
      obtain ⟨e1, _⟩ := fin _ _ rfl
      cases es : dicKs ds' 0 with
      | none => rw [es] at e1; cases e1
      | some t2 =>
        rw [es] at e1
        cases e1
        obtain ⟨v1, hv1, o1⟩ := r'.own 0 _ (dicKs_some es)
        have hp := p' 0 (List.mem_singleton.mpr rfl)
        rw [hv1, st0] at hp
        cases hp
        exact q .non G' H' (F' 0) (fun _ => False) ((nf s').weaken fun b z => z.elim (fun z => ⟨0, z⟩) False.elim) o1 ⟨.non, fun _ z => z⟩ (fun _ z => z.elim) fun b z => z.elim (fun z => r'.dis 0 b z) False.elim
    | rt m' ds' =>
      intro v σ' G' H' F' fr r' s' o' h1 h2 p'
      obtain ⟨e1, _⟩ := fin _ _ rfl
      cases es : dicKs ds' 0 with
      | none => rw [es] at e1; cases e1
      | some t2 =>
        rw [es] at e1
        cases e1
        obtain ⟨v1, hv1, o1⟩ := r'.own 0 _ (dicKs_some es)
        have hp := p' 0 (List.mem_singleton.mpr rfl)
        rw [hv1, st0] at hp
        cases hp
        exact q v G' H' (F' 0) fr ((nf s').weaken fun b z => z.elim (fun z => .inl ⟨0, z⟩) .inr) o1 o' (fun b z y => h1 b z ⟨0, y⟩) fun b z => z.elim (fun z => r'.dis 0 b z) (h2 b)
    | bk ds' => cases e
    | ct ds' => cases e
end
section
variable {X : Cx} {R : StI S} {e o : Expr} {es : List Expr} {x f m : Str} {pos p : Pos} {i j k n : Nat}
def oCallV (n i : Nat) (F : List (Key × D) → List D → Option (MO S × List (Key × D))) (fs : XF S (List D)) : XF S (MO S) := fun ds0 => (dicKs ds0 i).bind fun _ => xb fs (fun as => fun ds => (dicKs ds i).bind fun s => if as.length + 1 = n then (F s as).map fun q => (q.1, ds.set i (some (.dic q.2))) else none) ds0
theorem o_callV {K : PySem.W.Frag} {F : List (Key × D) → List D → Option (MO S × List (Key × D))} {fs : XF S (List D)} {σ : L2.St} {H : Hp} {Q : VK} (h : tO K R (oCallV n i F fs) σ H Q) : tCall (spV K R n F) [] E0 (tCons (tVar i) (tXA K R fs)) σ H Q := by
  obtain ⟨G, F0, ds, m, ds', rs, e, k⟩ := h
  unfold oCallV at e
  cases e0 : dicKs ds i with
  | none => rw [e0] at e; cases e
  | some t0 =>
  rw [e0, Option.bind_some] at e
  obtain ⟨as, ds1, ea, e⟩ := xb_some e
  cases e1 : dicKs ds1 i with
  | none => rw [e1] at e; cases e
  | some t =>
  rw [e1, Option.bind_some] at e
  by_cases hn : as.length + 1 = n
  · rw [if_pos hn] at e
    cases ef : F t as with
    | none => rw [ef] at e; cases e
    | some q =>
      rw [ef] at e
      cases e
      obtain ⟨v0, hv0, _⟩ := rs.own i _ (dicKs_some e0)
      refine ⟨v0, hv0, G, F0, ds, as, ds1, rs, ea, fun vs G1 H1 F1 r1 s1 d1 => ?_⟩
      show spV K R n F ((v0 :: vs) ++ []) H1 Q E0
      rw [List.append_nil]
      obtain ⟨v1, hv1, o1⟩ := r1.own i _ (dicKs_some e1)
      rw [hv0] at hv1
      cases hv1
      refine ⟨by show vs.length + 1 = n; rw [d1.length]; exact hn, G1, F1 i, v0, vs, t, as, q.1, q.2, rfl, r1.sub, o1, r1.dis i, d1, ef, fun v G2 H2 fp fr s2 rel o h1 h2 => ?_⟩
      obtain ⟨r2, s3, ap⟩ := r1.calleeM (dicKs_some e1) hv0 s1 s2 rel h1 h2
      exact k v G2 H2 _ fr r2 s3 o ap fun a ha => h2 a (.inr ha)
  · rw [if_neg hn] at e; cases e
theorem co_callV {F : List (Key × D) → List D → Option (MO S × List (Key × D))} {fs : XF S (List D)} (c : Cl X.prog X.w X.K X.mg X.base j x (spV X.K R n F)) (hk : j ≤ k) (hr : Room k X.A) (hgd : X.A.guards = some []) (hg : Gl X x) (hi : PE X e (tVar i)) (ha : PA X es (tXA X.K R fs))
    (hdb : (x == ("__debug__" : Str)) = false := by decide) (he : starEach (e :: es) X.env = (false, eval e X.env) :: starEach es X.env := by rfl) (hpl : (backTo pos (starEach es X.env)).any (·.1) = false := by rfl) :
    PE X (.Call (.Name x p) (e :: es) [] pos) (tO X.K R (oCallV n i F fs)) := by
  obtain ⟨f, fd, ps, Fn, hb, hkp, hm⟩ := c.ex
  exact PE.imp (pe_callG (Fn.up hk) hr hgd hg hm hkp hb pass0 (pa_cons hi ha he) hdb he hpl) fun _ _ _ h => o_callV h
end
end
def asg2 (i : Nat) (js : List Nat) : D → Option (List (Nat × D))
  | .tuple [x, y] => (asgT js y).map fun l => (i, x) :: l
  | _ => none
theorem tgd_2 {W : Bool} {K : PySem.W.Frag} {i : Nat} {js : List Nat} : TGD W K (L2.gTup K 2 (L2.gCons (gName i) (L2.gCons (L2.gTup K js.length (gNames js)) L2.gNil))) (asg2 i js) := fun x d as σ G H Q s hd e k => by
  have go : ∀ {a : Addr} {vs : List V} {ds : List D}, SqT K G a vs → DenAll K G vs ds → asg2 i js (.tuple ds) = some as → L2.gTup K 2 (L2.gCons (gName i) (L2.gCons (L2.gTup K js.length (gNames js)) L2.gNil)) (.ref a) σ H Q := by
    intro a vs ds q r e
    unfold asg2 at e
    split at e
    · rename_i x y hxy
      cases hxy
      cases r with
      | cons hx r =>
      cases r with
      | cons hy r =>
      cases r
      rename_i vx vy
      obtain ⟨l, e1, e2⟩ := Option.map_eq_some_iff.mp e
      subst e2
      have h2 : L2.gTup K js.length (gNames js) vy (σ.set i (some vx)) H (fun σ' H' => L2.gNil [] σ' H' Q) := tgd_tup (W := false) (is := js) vy y l (σ.set i (some vx)) G H (fun σ' H' => L2.gNil [] σ' H' Q) s (.inl hy) e1 fun ws a => ⟨rfl, k ((i, vx) :: ws) (.cons ⟨rfl, hx⟩ a)⟩
      exact ⟨a, [vx, vy], rfl, sqt_mono s q, rfl, vx, [vy], rfl, vy, [], rfl, h2⟩
    · cases e
  rcases hd with hd | ⟨_, a, vs, ds, rfl, rfl, q, _, r⟩
  · cases hd with
    | tup q z r => exact go q.sq r e
    | _ => cases e
  · exact go q r e
theorem own_2 {i : Nat} {js own : List Nat} (h : i ∈ own) (h2 : ∀ j ∈ js, j ∈ own) : ∀ d as, asg2 i js d = some as → ∀ p ∈ as, p.1 ∈ own := fun d as e p hp => by
  match d, e with
  | .tuple [x, y], e =>
    obtain ⟨l, e1, e2⟩ := Option.map_eq_some_iff.mp e
    subst e2
    rcases List.mem_cons.mp hp with rfl | hp
    · exact h
    · exact own_tup h2 y l e1 p hp
section
variable {S : Type} {X : Cx} {R : StI S} {e : Expr} {lo hi : Option Expr} {gl gh : DS S → Option (Option Int)} {j : Nat} {pos p2 : Pos}
def gScSl (j : Nat) (gl gh : DS S → Option (Option Int)) : DS S → Option (List D) := fun ds => match ds[j]? with
  | some (some (.scr ns)) => if ns.length ≤ sizeLine then (gl ds).bind fun l => (gh ds).bind fun h => some (DL.cutD (ns.map .int) l h) else none
  | _ => none
theorem denAll_ints {K : PySem.W.Frag} {G : Hp} : ∀ ns : List Int, DenAll K G (ns.map V.int) (ns.map .int)
  | [] => .nil
  | n :: r => .cons (.int n) (denAll_ints r)
theorem ef_scSl (he : PE X e (tVar j)) (hl : PO X lo (tPO X.K gl)) (hu : PO X hi (tPO X.K gh)) : PE X (.Subscript e (.Slice lo hi none p2) pos) (tF X.K (gScSl j gl gh)) := PE.imp (pe_slice sl_list he hl hu) fun σ H Q ⟨G, ds, d, s, w, e, k⟩ => by
  unfold gScSl at e
  split at e
  · rename_i ns ej
    split at e
    · rename_i hz
      obtain ⟨l, el, e⟩ := Option.bind_eq_some_iff.mp e
      obtain ⟨h, eh, e⟩ := Option.bind_eq_some_iff.mp e
      cases e
      obtain ⟨v, hv, a, rfl, q⟩ := w.has j _ ej
      refine ⟨_, hv, G, ds, l, s, w, el, fun G2 H2 g2 => ?_⟩
      refine ⟨G2, ds, h, g2.sub, w.mono g2.keep, eh, fun G3 H3 g3 => ?_⟩
      refine ⟨a, _, rfl, sql_mono g3.sub (sql_mono (g2.trans g3).keep q), fun p hp => ?_⟩
      exact k p _ G3 _ ((g2.trans g3).trans (.own g3.sub hp)) (g3.sub.free hp) ((g2.trans g3).all.free hp) upd_same (Nat.le_trans (cutV_le _ _ _) (by rw [List.length_map]; exact hz)) (den_cut (denAll_ints ns) l h)
    · cases e
  · cases e
end
section
variable {S : Type} {X : Cx} {R : StI S} {e k1 k2 k3 k4 z1 z2 z3 : Expr} {pos : Pos}
def oDict4 (s1 s2 s3 s4 : Str) (g : DS S → Option D) (i1 i2 i3 : Int) : XF S (MO S) := fun ds => (g (hideDS ds)).map fun x => (.dic (putD (putD (putD (putD [] (.inr s1) x) (.inr s2) (.int i1)) (.inr s3) (.int i2)) (.inr s4) (.int i3)), ds)
def txtOk (s : Str) : Prop := s.length ≤ sizeLine ∧ PyData.strOk s = true
theorem den_txt {K : PySem.W.Frag} {G : Hp} {s : Str} (h : txtOk s) : Den K G (kV (.inr s)) (kD (.inr s)) := .str s h.1 h.2
theorem eo_dict4 {s1 s2 s3 s4 : Str} {g : DS S → Option D} {i1 i2 i3 : Int} (h1 : PE X k1 (tC (.str s1))) (he : PE X e (tP X.K g)) (h2 : PE X k2 (tC (.str s2))) (g1 : PE X z1 (tC (.int i1))) (h3 : PE X k3 (tC (.str s3))) (g2 : PE X z2 (tC (.int i2))) (h4 : PE X k4 (tC (.str s4))) (g3 : PE X z3 (tC (.int i3)))
    (o1 : txtOk s1 := by exact ⟨by decide +kernel, by decide +kernel⟩) (o2 : txtOk s2 := by exact ⟨by decide +kernel, by decide +kernel⟩) (o3 : txtOk s3 := by exact ⟨by decide +kernel, by decide +kernel⟩) (o4 : txtOk s4 := by exact ⟨by decide +kernel, by decide +kernel⟩) :
    PE X (.Dict [some k1, some k2, some k3, some k4] [e, z1, z2, z3] pos) (tO X.K R (oDict4 s1 s2 s3 s4 g i1 i2 i3)) :=
  PE.imp (pe_disp (pps_cons h1 he (pps_cons h2 g1 (pps_cons h3 g2 (pps_cons h4 g3 pps_nil)))) rfl rfl (by simp) (by show 4 ≤ 15; decide)) fun σ H Q ⟨G, F, ds, m, ds', r, e, k⟩ p hp => by
    unfold oDict4 at e
    obtain ⟨x, ex, e⟩ := Option.map_eq_some_iff.mp e
    cases e
    have g0 := Gr.own (o := .dK []) r.sub hp
    have r0 := r.grow g0
    refine ⟨G, hideDS ds, x, r0.sub, r0.view, ex, fun v G1 H1 gr d1 => ?_⟩
    have H1p : H1 p = some (.dK []) := gr.all p _ upd_same
    have Gp : G p = none := r.sub.free hp
    have G1p : G1 p = none := by
      cases q : G1 p with
      | none => rfl
      | some u =>
        rcases gr.new p (by rw [q]; simp) with z | z
        · exact absurd Gp z
        · rw [upd_same] at z; cases z
    refine ⟨H1p, [(.inr s1, v), ((Sum.inr s2 : Key), V.int i1), ((Sum.inr s3 : Key), V.int i2), ((Sum.inr s4 : Key), V.int i3)], rfl, by show 4 ≤ 15; decide, ?_⟩
    have lz : (mergeK [] [((Sum.inr s1 : Key), v), ((Sum.inr s2 : Key), V.int i1), ((Sum.inr s3 : Key), V.int i2), ((Sum.inr s4 : Key), V.int i3)]).length ≤ sizeLine := by
      have h := mapK_len [((Sum.inr s1 : Key), v), ((Sum.inr s2 : Key), V.int i1), ((Sum.inr s3 : Key), V.int i2), ((Sum.inr s4 : Key), V.int i3)] []
      exact Nat.le_trans h (show 0 + 4 ≤ sizeLine by decide)
    have kd : KVsD X.K G1 (mergeK [] [((Sum.inr s1 : Key), v), ((Sum.inr s2 : Key), V.int i1), ((Sum.inr s3 : Key), V.int i2), ((Sum.inr s4 : Key), V.int i3)]) (putD (putD (putD (putD [] (.inr s1) x) (.inr s2) (.int i1)) (.inr s3) (.int i2)) (.inr s4) (.int i3)) :=
      (((KVsD.nil.put (den_txt o1) d1).put (den_txt o2) (.int i1)).put (den_txt o3) (.int i2)).put (den_txt o4) (.int i3)
    have r1 := r0.grow gr
    have w := Step.write (o := HO.dK (mergeK [] [((Sum.inr s1 : Key), v), ((Sum.inr s2 : Key), V.int i1), ((Sum.inr s3 : Key), V.int i2), ((Sum.inr s4 : Key), V.int i3)])) (P := fun a => (∃ i, F i a) ∨ a = p) gr.sub G1p (.inr rfl)
    have nFp : ¬ ∃ i, F i p := fun ⟨i, z⟩ => r.trk i p z hp
    have r2 : RS X.K R ds σ G1 (upd H1 p (.dK (mergeK [] [((Sum.inr s1 : Key), v), ((Sum.inr s2 : Key), V.int i1), ((Sum.inr s3 : Key), V.int i2), ((Sum.inr s4 : Key), V.int i3)]))) F := by
      refine ⟨w.sub, r1.len, fun i m z => ?_, r1.emp, r1.dj, r1.dis⟩
      obtain ⟨u, y1, y2⟩ := r1.own i m z
      exact ⟨u, y1, y2.mono (Same.refl _) fun a ha => upd_ne fun y => nFp ⟨i, by rw [← y]; exact ha⟩⟩
    have st0 : Step G H (fun a => ∃ i, F i a) G (upd H p (.dK [])) (fun a => (∃ i, F i a) ∨ a = p) := (g0.step (P := fun a => ∃ i, F i a)).add fun a z => by rw [z]; exact hp
    exact k (.ref p) G1 _ F (fun b => b = p) r2 ((st0.trans (gr.step (P := fun a => (∃ i, F i a) ∨ a = p))).trans w) ⟨p, _, rfl, upd_same, lz, kd, fun b => Iff.rfl⟩ (fun b hb z => nFp (by rw [← hb]; exact z)) fun b hb => by rw [hb]; exact G1p
end
section
variable {S : Type} {X : Cx} {R : StI S} {o i : Expr} {pos : Pos} {j : Nat}
def xDGetG (j : Nat) (g : DS S → Option D) : XF S D := fun ds => (dicKs ds j).bind fun kvs => (g (hideDS ds)).bind fun x => (keyOf1 x).bind fun k => (lookD kvs k).map fun d => (d, ds)
theorem ex_dgetG {g : DS S → Option D} (hu : X.A.units + 1 < cLine) (ho : PE X o (tVar j)) (hi : PE X i (tP X.K g)) (hs : NoSl i) : PE X (.Subscript o i pos) (tX X.K R (xDGetG j g)) := PE.imp (pe_dget hu ho hi hs) fun σ H Q ⟨G, F, ds, d, ds', r, e, k⟩ => by
  unfold xDGetG at e
  obtain ⟨kvs, e1, e⟩ := Option.bind_eq_some_iff.mp e
  obtain ⟨x, e2, e⟩ := Option.bind_eq_some_iff.mp e
  obtain ⟨kk, e3, e⟩ := Option.bind_eq_some_iff.mp e
  obtain ⟨d0, e4, e⟩ := Option.map_eq_some_iff.mp e
  cases e
  obtain ⟨v0, hv, a, xs, rfl, ha, z, kd, hf⟩ := r.own j _ (dicKs_some e1)
  refine ⟨_, hv, G, hideDS ds, x, r.sub, r.view, e2, fun y G1 H1 g1 d1 => ?_⟩
  obtain ⟨o, p1, _, p3⟩ := dget_of (.inl (g1.all _ _ ha)) (kd.mono g1.keep) d1 e3
  obtain ⟨v, rfl, dv⟩ := p3 d e4
  exact ⟨a, v, rfl, p1, k v G1 H1 F (r.grow g1) (g1.step (P := fun a => ∃ i, F i a)) dv⟩
end
section
variable {K : PySem.W.Frag} {G G' : Hp}
def SameN (G G' : Hp) : Prop := ∀ b o, G b = some o → (∀ xs, o ≠ .dK xs) → G' b = some o
theorem nk_l {vs : List V} : ∀ xs, HO.lst vs ≠ .dK xs := by intro _ y; cases y
theorem nk_f {o : Obj} {vs : List V} : ∀ xs, HO.frz o (.tup vs) ≠ .dK xs := by intro _ y; cases y
mutual
theorem Den.noD_off (s : SameN G G') : ∀ {v : V} {d : D}, Den K G v d → noD d = true → Den K G' v d
  | _, _, .non, _ => .non
  | _, _, .bl b, _ => .bl b
  | _, _, .int i, _ => .int i
  | _, _, .str x h o, _ => .str x h o
  | _, _, .lst e z r, h => .lst (s _ _ e nk_l) z (DenAll.noD_off s r (by unfold noD at h; exact h))
  | _, _, .tup q z r, h => .tup (q.keep fun o e => s _ _ e nk_f) z (DenAll.noD_off s r (by unfold noD at h; exact h))
  | _, _, .emp _, h => by cases h
  | _, _, .dct _ _ _, h => by cases h
  | _, _, .obj _ _ _, h => by cases h
theorem DenAll.noD_off (s : SameN G G') : ∀ {vs : List V} {ds : List D}, DenAll K G vs ds → noDAll ds = true → DenAll K G' vs ds
  | _, _, .nil, _ => .nil
  | _, _, .cons h r, e => by
    unfold noDAll at e
    obtain ⟨e1, e2⟩ := Bool.and_eq_true_iff.mp e
    exact .cons (Den.noD_off s h e1) (DenAll.noD_off s r e2)
end
end
section
variable {S : Type} {X : Cx} {K : PySem.W.Frag} {j : Nat} {own : List Nat} {t : D → Option (List (Nat × D))} {p : DS S → Option Bool} {e : DS S → Option D} {le o : Expr}
end
structure HeldSrc (prog : Program) (w : World) (A : Around) (I S : Addr) (wr : List Addr) (n : Nat) (Ob : Nat → Obj → Prop) (St : Nat → Heap → Prop) : Prop where
  off : S ∉ wr
  frame : ∀ i h h', St i h → (∀ b o, b ≠ S → h.get? b = some o → h'.get? b = some o) → St i h'
  item : ∀ i (s : Shared) (Q : Option Value → Shared → Prop) (E : Value → Shared → Prop), i < n → St i s.heap → S < s.heap.objs.size →
    (∀ T o h' tk, Ob i o → h'.get? T = some o → T ∉ wr → s.heap.objs.size ≤ T → St (i + 1) h' → (∀ b o, b ∉ wr → s.heap.get? b = some o → h'.get? b = some o) → Q (some (.ref T)) { s with heap := h', toks := tk }) → wpAny (model prog w) A (pyNext (.ref I)) Q E s
  done : ∀ (s : Shared) (Q : Option Value → Shared → Prop) (E : Value → Shared → Prop), St n s.heap →
    (∀ h' tk, (∀ b o, b ∉ wr → s.heap.get? b = some o → h'.get? b = some o) → Q none { s with heap := h', toks := tk }) → wpAny (model prog w) A (pyNext (.ref I)) Q E s
structure AccH (Ob : Nat → Obj → Prop) (S : Addr) (wr : List Addr) (h : Heap) (acc : Array Value) (i : Nat) : Prop where
  size : acc.size = i
  at' : ∀ (j : Nat) (v : Value), acc[j]? = some v → ∃ T o, v = .ref T ∧ h.get? T = some o ∧ Ob j o ∧ T ∉ wr ∧ S < T
  inj : ∀ (j k : Nat) (v : Value), acc[j]? = some v → acc[k]? = some v → j = k
section
variable {prog : Program} {w : World} {A : Around} {R : Result → Shared → Prop} {I S : Addr} {wr : List Addr} {n : Nat} {Ob : Nat → Obj → Prop} {St : Nat → Heap → Prop}
theorem AccH.empty {h : Heap} : AccH Ob S wr h #[] 0 := ⟨rfl, fun j v e => by simp at e, fun j k v e => by simp at e⟩
theorem AccH.at {h h' : Heap} {acc : Array Value} {i : Nat} (a : AccH Ob S wr h acc i) (k : ∀ b o, b ∉ wr → b ≠ S → h.get? b = some o → h'.get? b = some o) : AccH Ob S wr h' acc i := ⟨a.size, fun j v e => by
  obtain ⟨T, o, h1, h2, h3, h4, h5⟩ := a.at' j v e
  exact ⟨T, o, h1, k T o h4 (Nat.ne_of_gt h5) h2, h3, h4, h5⟩, a.inj⟩
theorem AccH.push {h : Heap} {acc : Array Value} {i : Nat} {T : Addr} {o : Obj} (a : AccH Ob S wr h acc i) (h1 : Ob i o) (h2 : h.get? T = some o) (h3 : T ∉ wr) (h4 : S < T) (h5 : Value.ref T ∉ acc) : AccH Ob S wr h (acc.push (.ref T)) (i + 1) := ⟨by rw [Array.size_push, a.size], fun j v e => by
  rw [Array.getElem?_push] at e
  split at e
  · rename_i hj
    cases e
    rw [a.size] at hj
    exact ⟨T, o, rfl, h2, by rw [hj]; exact h1, h3, h4⟩
  · exact a.at' j v e, fun j k v e1 e2 => by
  rw [Array.getElem?_push] at e1 e2
  split at e1
  · split at e2
    · omega
    · cases e1
      exact absurd (Array.mem_of_getElem? e2) h5
  · split at e2
    · cases e2
      exact absurd (Array.mem_of_getElem? e1) h5
    · exact a.inj j k v e1 e2⟩
theorem AccH.new {h : Heap} {acc : Array Value} {i : Nat} {T : Addr} (a : AccH Ob S wr h acc i) (hT : h.objs.size ≤ T) : Value.ref T ∉ acc := fun hm => by
  obtain ⟨j, hj, e⟩ := Array.getElem_of_mem hm
  obtain ⟨T', o, e1, e2, _⟩ := a.at' j _ (Array.getElem?_eq_getElem hj)
  rw [e] at e1
  cases e1
  exact absurd (Nat.lt_of_lt_of_le (Heap.lt_size e2) hT) (Nat.lt_irrefl _)
end
section
variable {prog : Program} {w : World} {A : Around} {E : Value → Shared → Prop} {s : Shared} {I : Addr} {wr : List Addr} {n : Nat} {Ob : Nat → Obj → Prop} {St : Nat → Heap → Prop} {T : String}
structure TypeH (T : String) : Prop where
  len : typeLookup (.type T) "__len__" = pure none
  hint : typeLookup (.type T) "__length_hint__" = pure none
  notL : (Value.type T == Value.type "list") = false
  notT : (Value.type T == Value.type "tuple") = false
end
section
variable {prog : Program} {w : World} {A : Around}
end
section
variable {X : Cx}
open Classical in
end
section
variable {X : Cx} {e : Expr} {ta : TA} {p p2 pos pos2 : Pos}
end
section
variable {S : Type} {X : Cx} {a : Expr} {p p2 pos pos2 : Pos}
open Classical in
end
section
variable {prog : Program} {w : World} {A : Around} {E : Value → Shared → Prop} {s : Shared} {I : Addr} {wr : List Addr} {n : Nat} {Ob : Nat → Obj → Prop} {St : Nat → Heap → Prop} {T : String}
end
section
variable {prog : Program} {w : World} {A : Around}
end
section
variable {X : Cx} {e e2 : Expr} {ta : TA} {p p2 pos pos2 : Pos}
end
section
variable {S : Type} {X : Cx} {a b : Expr} {p p2 pos pos2 : Pos}
open Classical in
end
section
variable {S : Type} {K : PySem.W.Frag} {R : StI S} {pn : List Nat} {σ : L2.St} {H : Hp} {Dn : Ends} {i : Nat} {g : SF S}
end
section
variable {prog : Program} {w : World} {A : Around} {E : Value → Shared → Prop} {s : Shared} {z TI TO T i1 i2 : Addr} {f : Bool} {oT : Obj} {fp1 fp2 : List Addr} {n1 n2 i : Nat} {P1 P2 : Nat → Value → Prop} {St1 St2 : Nat → Heap → Prop}
end
section
variable {prog : Program} {w : World} {A : Around} {fp1 fp2 : List Addr} {n1 n2 : Nat} {P1 P2 : Nat → Value → Prop} {St1 St2 : Nat → Heap → Prop}
end
section
variable {X : Cx} {e e2 : Expr} {ta : TA} {p p2 pos pos2 : Pos}
end
section
variable {S : Type} {X : Cx} {a b : Expr} {p p2 pos pos2 : Pos}
open Classical in
end
section
variable {S : Type} {X : Cx} {R : StI S} {pos pos2 : Pos} {keys : List (Option Expr)} {values : List Expr} {ks : List Str} {g : DS S → Option (List D)}
def PKs (X : Cx) (pos : Pos) (keys : List (Option Expr)) (values : List Expr) (ks : List Str) (g : DS S → Option (List D)) : Prop :=
  ∃ trs : List (TE × TE), PPs X pos keys values trs ∧ keys.all (·.isSome) = true ∧ keys.length = values.length ∧ ks.length = keys.length ∧ (∀ s ∈ ks, txtOk s) ∧
    ∀ (σ : L2.St) (G H : Hp) (ds : DS S) (xs : List D) (Q : List (V × V) → Hp → Prop), Same G H → View X.K G σ ds → g ds = some xs →
      (∀ vs G' H', Gr G H G' H' → DenAll X.K G' vs xs → vs.length = ks.length → Q ((ks.zip vs).map fun z => (V.str z.1, z.2)) H') → tPairs trs σ H Q
theorem pk_nil : PKs X pos [] [] [] (gNil (S := S)) := ⟨[], pps_nil, rfl, rfl, rfl, nofun, fun σ G H ds xs Q s w e k => by
  cases e
  exact k [] G H (.refl s) .nil rfl⟩
theorem pk_cons {k v : Expr} {s : Str} {ga : DS S → Option D} (hk : PE X k (tC (.str s))) (hv : PE X v (tP X.K ga)) (hr : PKs X pos keys values ks g) (o : txtOk s := by exact ⟨by decide +kernel, by decide +kernel⟩) :
    PKs X pos (some k :: keys) (v :: values) (s :: ks) (gCons ga g) := by
  obtain ⟨trs, h1, h2, h3, h4, h5, h6⟩ := hr
  refine ⟨_, pps_cons hk hv h1, by rw [List.all_cons, h2]; rfl, by rw [List.length_cons, List.length_cons, h3], by rw [List.length_cons, List.length_cons, h4], fun t ht => ?_, fun σ G H ds xs Q sm w e q => ?_⟩
  · rcases List.mem_cons.mp ht with z | z
    · rw [z]; exact o
    · exact h5 t z
  · unfold gCons at e
    cases ea : ga ds with
    | none => rw [ea] at e; cases e
    | some x =>
      rw [ea] at e
      cases eb : g ds with
      | none => simp [eb] at e
      | some ys =>
        simp only [eb, Option.bind_some] at e
        cases e
        show tP X.K ga σ H _
        refine ⟨G, ds, x, sm, w, ea, fun u G1 H1 g1 d1 => ?_⟩
        exact h6 σ G1 H1 ds ys _ g1.sub (w.mono g1.keep) eb fun vs G2 H2 g2 d2 l2 => q (u :: vs) G2 H2 (g1.trans g2) (.cons (d1.mono g2.keep) d2) (by rw [List.length_cons, List.length_cons, l2])
theorem kvs_zip {K : PySem.W.Frag} {G : Hp} : ∀ {ks : List Str} {vs : List V} {xs : List D}, (∀ s ∈ ks, txtOk s) → DenAll K G vs xs → KVsD K G ((ks.map (Sum.inr : Str → Key)).zip vs) ((ks.map (Sum.inr : Str → Key)).zip xs)
  | [], _, _, _, _ => .nil
  | _ :: _, _, _, _, .nil => .nil
  | s :: ks, _, _, h, .cons d r => .cons (den_txt (h s (List.mem_cons_self ..))) d (kvs_zip (fun t ht => h t (List.mem_cons_of_mem _ ht)) r)
def dispD (ks : List Str) (xs : List D) : List (Key × D) := mapD [] ((ks.map (Sum.inr : Str → Key)).zip xs)
def gDispV (ks : List Str) (g : DS S → Option (List D)) : DS S → Option D := fun ds => if ks.length ≤ 15 then (g ds).map fun xs => .dict ((.none, .bool true) :: encKs (dispD ks xs)) else none
theorem ep_dispK (h : PKs X pos keys values ks g) (h0 : keys ≠ [] := by simp) : PE X (.Dict keys values pos) (tP X.K (gDispV ks g)) := by
  obtain ⟨trs, h1, h2, h3, h4, h5, h6⟩ := h
  by_cases l15 : ks.length ≤ 15
  · refine PE.imp (pe_disp h1 h2 h3 h0 (by rw [← h4]; exact l15)) fun σ H Q ⟨G, ds, d, s, w, e, k⟩ p hp => ?_
    unfold gDispV at e
    rw [if_pos l15] at e
    obtain ⟨xs, ex, e⟩ := Option.map_eq_some_iff.mp e
    cases e
    have g0 := Gr.own (o := .dK []) s hp
    refine h6 σ G _ ds xs _ g0.sub w ex fun vs G1 H1 gr d1 lv => ?_
    have H1p : H1 p = some (.dK []) := gr.all p _ upd_same
    have Gp : G p = none := s.free hp
    have G1p : G1 p = none := by
      cases q : G1 p with
      | none => rfl
      | some u =>
        rcases gr.new p (by rw [q]; simp) with z | z
        · exact absurd Gp z
        · rw [upd_same] at z; cases z
    have ml : ((ks.map (Sum.inr : Str → Key)).zip vs).length ≤ 15 := by rw [List.length_zip, List.length_map]; omega
    refine ⟨H1p, (ks.map (Sum.inr : Str → Key)).zip vs, ?_, ml, ?_⟩
    · rw [List.zip_map_left, List.map_map]
      rfl
    have lz : (mapK [] ((ks.map (Sum.inr : Str → Key)).zip vs)).length ≤ sizeLine := by
      have h := mapK_len ((ks.map (Sum.inr : Str → Key)).zip vs) []
      have : (15 : Nat) ≤ sizeLine := by decide
      simp only [List.length_nil, Nat.zero_add] at h
      omega
    have kd : KVsD X.K G1 (mapK [] ((ks.map (Sum.inr : Str → Key)).zip vs)) (dispD ks xs) := (kvs_zip h5 d1).map .nil
    have sm : ∀ b u, G1 b = some u → b ≠ p := fun b u z y => by rw [y, G1p] at z; cases z
    have gf : Gr G H (upd G1 p (.dK (mapK [] ((ks.map (Sum.inr : Str → Key)).zip vs)))) (upd H1 p (.dK (mapK [] ((ks.map (Sum.inr : Str → Key)).zip vs)))) := by
      refine ⟨fun b u z => ?_, fun b u z => ?_, fun b u z => ?_, fun b hb => ?_⟩
      · have := gr.keep b u z
        rw [upd_ne (sm b u this)]
        exact this
      · by_cases hb : b = p
        · rw [hb, upd_same] at z
          rw [hb, upd_same]
          exact z
        · rw [upd_ne hb] at z
          rw [upd_ne hb]
          exact gr.sub b u z
      · have nb : b ≠ p := ne_of_none z hp
        rw [upd_ne nb]
        exact gr.all b u (by rw [upd_ne nb]; exact z)
      · by_cases hb2 : b = p
        · exact .inr (by rw [hb2]; exact hp)
        · rw [upd_ne hb2] at hb
          rcases gr.new b hb with z | z
          · exact .inl z
          · rw [upd_ne hb2] at z
            exact .inr z
    refine k (.ref p) _ _ gf (.dct upd_same lz ?_)
    exact kvs_den (kd.mono fun b u z => by rw [upd_ne (sm b u z)]; exact z)
  · refine ⟨fun pins s σ H Q I q => ?_⟩
    obtain ⟨G, ds, d, s, w, e, k⟩ := q
    unfold gDispV at e
    rw [if_neg l15] at e
    cases e
end
section
variable {S : Type} {X : Cx} {o i f : Expr} {j : Nat} {apos cpos : Pos}
def gDGet2 (j : Nat) (g h : DS S → Option D) : DS S → Option D := fun ds => (gDLook j g ds).bind fun o => (h ds).map fun x => o.getD x
theorem ep_dget2 {g h : DS S → Option D} (hu : X.A.units + 1 < cLine) (ho : PE X o (tVar j)) (hi : PE X i (tP X.K g)) (hf : PE X f (tP X.K h)) (m : M2 X o "get" apos i f cpos) : PE X (.Call (.Attribute o "get" apos) [i, f] [] cpos) (tP X.K (gDGet2 j g h)) :=
  PE.imp (pe_dget2 hu ho hi hf m) fun σ H Q ⟨G, ds, d, s, w, e, k⟩ => by
    unfold gDGet2 at e
    cases el : gDLook j g ds with
    | none => rw [el] at e; cases e
    | some od =>
      rw [el, Option.bind_some] at e
      cases ef : h ds with
      | none => rw [ef] at e; cases e
      | some z =>
        rw [ef] at e
        cases e
        obtain ⟨kvs, x, kk, h1, h2, h3, h4⟩ := dlook (K := X.K) el
        obtain ⟨v, hv, a, xs, rfl, q, r⟩ := dicLs_view w h1
        refine ⟨_, hv, a, rfl, .inl ⟨_, rd_mono s q⟩, G, ds, x, s, w, h2, fun y G1 H1 g1 d1 => ?_⟩
        refine ⟨G1, ds, z, g1.sub, w.mono g1.keep, ef, fun u G2 H2 g2 d2 => ?_⟩
        obtain ⟨o, p1, p2, p3⟩ := dget_of (rd_mono g2.sub (rd_mono g2.keep (rd_mono g1.keep q))) (r.mono (g1.keep.trans g2.keep)) (d1.mono g2.keep) h3
        refine ⟨o, p1, ?_⟩
        cases el2 : lookD kvs kk with
        | none =>
          rw [el2] at p2
          have : o = none := by
            cases o with
            | none => rfl
            | some _ => cases p2
          subst this
          rw [h4, el2] at k
          exact k _ G2 H2 (g1.trans g2) d2
        | some d =>
          obtain ⟨v, rfl, dv⟩ := p3 d el2
          rw [h4, el2] at k
          exact k _ G2 H2 (g1.trans g2) dv
end
def gTryF (kn : List Str) (i j : Nat) (f : Str) (b : SFX Exc) (r : SF Exc) : SF Exc := fun ds => (b ds).bind fun o => match o with
  | .out (.nx ds') => r ds'
  | .out o => some o
  | .ex e ds' => match e.fl with
    | some (g, x) => if e.nm ∈ kn ∧ g = f ∧ i < ds'.length then (r (((ds'.set i (some (.st e))).set j (some (.d x))).set i none)).bind fun o => match o with
      | .rt m ds2 => if dataM m = true then some (.rt m (ds2.map fun _ => none)) else none
      | _ => none else none
    | none => none
section
variable {X : Cx} {x n y f : Str} {c : Value} {i j : Nat} {body rest : List Stmt} {np pos pos' p1 p2 p3 p4 : Pos} {b : SFX Exc} {r : SF Exc} {kn : List Str}
theorem ss_tryF (hs : X.stack = X.env :: X.outer) (hf : X.env.frame = some X.env.locals) (hN : X.N.Nodup) (hi : X.N[i]? = some n) (hln : X.env.kindOf n = some .local) (hc : Names X x c) (hij : i ≠ j)
    (hk : ∀ e ∈ kn, ∃ C, X.mg e = some (.ref C) ∧ PySem.W.exmOne X.K (.ref C) c = some true)
    (hb : ∀ (W : WX) (pn : List (Addr × Obj)) (xe : Value → Shared → Prop), Takes (X.tr pn xe) W → PassesOwn (model X.prog X.w) X.A X.env xe → PSs (X.tr pn xe) body (tSX X.K R0e [] X.mg W b))
    (hsu : ∀ (a : Addr) (oe : Obj) (cls : Value) (d : Option Addr) (pn : List (Addr × Obj)), Zc cls d oe → (∃ vs, oe.data = .fields vs) → PS (X.suite a ((a, oe) :: pn)) (.Assign [.Name y p1] (.Attribute (.Name n p2) f p4) p3) (tS X.K (R1e X.K X.mg a cls d) [] (gAsg j (oX (xFldE kn f i)))))
    (hr : ∀ (a : Addr) (oe : Obj) (cls : Value) (d : Option Addr) (pn : List (Addr × Obj)), Zc cls d oe → (∃ vs, oe.data = .fields vs) → PSs (X.tr ((a, oe) :: pn) X.xe) rest (tS X.K (R1e X.K X.mg a cls d) [] r))
    (h0 : PSs X rest (tS X.K R0e [] r)) : PSs X (.Try body [.ExceptHandler (some (.Name x np)) (some n) [.Assign [.Name y p1] (.Attribute (.Name n p2) f p4) p3] pos'] [] [] pos :: rest) (tS X.K R0e [] (gTryF kn i j f b r)) := by
  refine PSs.imp (pss_try_keep (tb := fun W => tSX X.K R0e [] X.mg W b) (ts := fun a cls d => tS X.K (R1e X.K X.mg a cls d) [] (gAsg j (oX (xFldE kn f i)))) (tr := fun a cls d => tS X.K (R1e X.K X.mg a cls d) [] r) (t0 := tS X.K R0e [] r) hs hf hN hi hln hc hb
    (fun a oe cls d pn z1 z2 => pss_one (hsu a oe cls d pn z1 z2)) (fun a oe cls d pn z1 z2 => hr a oe cls d pn z1 z2) h0) ?_
  rintro Dn σ H ⟨G, F, ds, o, rr, e, k⟩
  unfold gTryF at e
  cases eb : b ds with
  | none => rw [eb] at e; cases e
  | some o1 =>
    rw [eb] at e
    refine ⟨G, F, ds, o1, rr, eb, ?_⟩
    cases o1 with
    | out o2 =>
      cases o2 with
      | nx ds1 => exact fun σ' G' H' F' r' s p => ⟨G', F', ds1, o, r', e, k.shift s p⟩
      | bk ds1 => cases e; exact k
      | ct ds1 => cases e; exact k
      | rt m ds1 => cases e; exact k
    | ex x1 ds1 =>
      simp only [Option.bind_some] at e
      cases hfl : x1.fl with
      | none => rw [hfl] at e; cases e
      | some fx =>
      obtain ⟨gf, xf⟩ := fx
      rw [hfl] at e
      dsimp only at e
      by_cases hx : x1.nm ∈ kn ∧ gf = f ∧ i < ds1.length
      · rw [if_pos hx] at e
        obtain ⟨C0, hC0, hm0⟩ := hk x1.nm hx.1
        intro cls d σ' G' H' F' xi r' s p
        have xi0 := xi
        obtain ⟨⟨C, hC, rfl⟩, _⟩ := xi
        rw [hC0] at hC
        cases hC
        refine ⟨hm0, fun a na => ?_⟩
        cases er : r (((ds1.set i (some (.st x1))).set j (some (.d xf))).set i none) with
        | none => rw [er] at e; cases e
        | some o3 =>
          rw [er] at e
          have u0 := rs_up (mg := X.mg) (a := a) (cls := .ref C0) (dx := d) r'
          have st : ∀ {H : Hp}, (R1e X.K X.mg a (.ref C0) d).rel G' H (.ref a) x1 fun _ => False := ⟨rfl, xi0, fun _ z => z⟩
          obtain ⟨F1, u1, w1⟩ := u0.seto i (v := .ref a) (m := .st x1) (fr := fun _ => False) st (fun _ z => z.elim) fun _ z => z.elim
          have hl := hx.2.2
          · have es : stAt (ds1.set i (some (.st x1))) i = some x1 := by
              unfold stAt
              rw [List.getElem?_set_self hl]
            refine ⟨G', F1, _, .nx ((ds1.set i (some (.st x1))).set j (some (.d xf))), u1, by unfold gAsg oX xFldE; rw [es, Option.bind_some, hfl]; dsimp only; rw [if_pos ⟨hx.2.1, hx.1⟩]; rfl, ?_⟩
            intro σ2 G2 H2 F2 u2 s2 _ n2
            obtain ⟨F3, u3, w3⟩ := u2.setn i
            refine ⟨G2, F3, _, o3, u3, er, ?_⟩
            cases o3 with
            | nx ds3 => cases e
            | bk ds3 => cases e
            | ct ds3 => cases e
            | rt m ds3 =>
              simp only [Option.bind_some] at e
              by_cases dm : dataM m = true
              · rw [if_pos dm] at e
                cases e
                intro v σ4 G4 H4 F4 fr u4 s4 o4 n4 g4 _
                have s5 : Step G H (fun a => ∃ i, F i a) G4 H4 (fun b => (∃ (i : Nat), False) ∨ fr b) := (s.trans ((s2.pre fun b z => (w1 b z).elim id False.elim).trans (s4.pre w3))).weaken fun b z => z.elim (fun q => q.elim fun _ w => w.elim) fun q => Or.inr q
                refine k v σ4 G4 H4 (fun _ _ => False) fr (rs_wipe u4) s5 ?_ (fun b hb ⟨_, q⟩ => q) g4 fun i hi => by cases hi
                cases m with
                | d x => exact o4
                | lst xs => exact o4
                | st s => cases dm
                | scr ns => cases dm
                | dic kvs => cases dm
                | lk kvs => cases dm
                | dp x => cases dm
                | obj x fs => cases dm
              · rw [if_neg dm] at e; cases e
      · rw [if_neg hx] at e; cases e
end
theorem tuple_mul1 (l : Addr) (items : Array Value) (n : Nat) (dd : Option Addr) (sl : Array (Option Value)) (x : Int) (u : Tok) (c0 : (decide (x < -(2 ^ 63)) || decide (x ≥ 2 ^ 63)) = false) (c1 : (items.isEmpty || x == 1) = true) :
    Meets (Builtin.«tuple.__mul__» ⟨[.ref l, .int x u], []⟩) (fun _ R s => s.heap.get? l = some { cls := .type "tuple", dict := dd, data := .seq items n, slots := sl } ∧ R (.ok (.ret (Value.ref l))) s) :=
  .of_wp fun prog w A R s h => by
    obtain ⟨hp, g, d, tk, os⟩ := s
    obtain ⟨hl, h⟩ := h
    have f1 := AutoSeq1.idx_int
    wp_walk using wpAny_loadPart' hl
    repeat (first
      | (refine wpAny_ite_false (decide_eq_false (by rw [c0]; exact Bool.false_ne_true)) ?_; wp_walk using wpAny_loadPart' hl)
      | (refine wpAny_ite_true (decide_eq_true (by rw [c1])) ?_; wp_walk using wpAny_loadPart' hl))
    exact ⟨_, rfl, h⟩
theorem tuple_mul0 (l : Addr) (items : Array Value) (n : Nat) (dd : Option Addr) (sl : Array (Option Value)) (x : Int) (u : Tok) (c0 : (decide (x < -(2 ^ 63)) || decide (x ≥ 2 ^ 63)) = false) (c1 : (items.isEmpty || x == 1) = false) (c2 : (decide (x ≤ 0) || items.isEmpty) = true) :
    Meets (Builtin.«tuple.__mul__» ⟨[.ref l, .int x u], []⟩) (fun _ R s => s.heap.get? l = some { cls := .type "tuple", dict := dd, data := .seq items n, slots := sl } ∧
      R (.ok (.ret (Value.ref s.heap.objs.size))) { s with heap := s.heap.push { cls := Value.type "tuple", data := Data.seq #[] }, toks := s.toks }) :=
  .of_wp fun prog w A R s h => by
    obtain ⟨hp, g, d, tk, os⟩ := s
    obtain ⟨hl, h⟩ := h
    have f1 := AutoSeq1.idx_int
    wp_walk using wpAny_loadPart' hl
    repeat (first
      | (refine wpAny_ite_false (decide_eq_false (by rw [c0]; exact Bool.false_ne_true)) ?_; wp_walk using wpAny_loadPart' hl)
      | (refine wpAny_ite_false (decide_eq_false (by rw [c1]; exact Bool.false_ne_true)) ?_; wp_walk using wpAny_loadPart' hl)
      | (refine wpAny_ite_true (decide_eq_true (by rw [c2])) ?_; wp_walk using wpAny_loadPart' hl))
    exact ⟨_, rfl, h⟩
def rTimesB (K : PySem.W.Frag) : R2 := fun x y H Q => ∃ a n vs, x = .ref a ∧ y = .int n ∧ SqT K H a vs ∧ vs ≠ [] ∧ (n = 0 ∨ n = 1) ∧ (n = 1 → Q (.ref a) H) ∧ (n = 0 → ∀ p o, o.dict = none → H p = none → Q (.ref p) (upd H p (.frz o (.tup []))))
section
variable {X : Cx}
theorem op_timesB : OpR X (binaryOp .Mult) (rTimesB X.K) := by
  intro pins s σ H x y ux uy Q J rx ry hh
  obtain ⟨a, n, vs, rfl, rfl, hq, hv, hn, c1, c0⟩ := hh
  cases rx
  obtain ⟨tk, rfl⟩ := ry
  obtain ⟨us, rv, ⟨⟨c, de, da, sts⟩, hob, ec, lz, ed⟩, _⟩ := J.tuple hq
  simp only at ec ed
  subst ec ed
  have e1 : us.length = vs.length := rv.length.symm
  have e2 : us ≠ [] := fun z => hv (List.eq_nil_of_length_eq_zero (by rw [← e1, z]; rfl))
  have e3 : us.toArray.isEmpty = false := by cases us with | nil => exact absurd rfl e2 | cons _ _ => rfl
  have b0 : (decide (n < -(2 ^ 63)) || decide (n ≥ 2 ^ 63)) = false := by rw [decide_eq_false (by omega), decide_eq_false (by omega)] <;> rfl
  rcases hn with rfl | rfl
  · have b1 : (us.toArray.isEmpty || (0 : Int) == 1) = false := by rw [e3]; rfl
    have b2 : (decide ((0 : Int) ≤ 0) || us.toArray.isEmpty) = true := rfl
    have mul := tuple_mul0 a us.toArray lz de sts 0 tk b0 b1 b2
    refine wpAny_binaryOp_repeat_ref (T := "tuple") (U := "int") (by decide) ⟨_, hob, rfl⟩ (fun s' => typeIs_int s' 0 tk) noFill_tuple_mul F.fills_int_mul F.slot_int_rmul repeat_tuple F.slot_int_index.lookup (call_meets F.slot_int_rmul (typeIs_int s 0 tk) F.entry_int_rmul (F.args_int_rmul_2 _ _) (int_rmul_tuple 0 tk a us.toArray lz de sts) ⟨hob, rfl, ⟨_, hob, rfl⟩, call_meets F.slot_tuple_mul ⟨_, hob, rfl⟩ F.entry_tuple_mul (F.args_tuple_mul_2 _ _) mul ⟨hob, ?_⟩⟩)
    exact laidF (xs := []) (us := []) J .nil (Nat.zero_le _) (c0 rfl)
  · have b1 : (us.toArray.isEmpty || (1 : Int) == 1) = true := by rw [e3]; rfl
    have mul := tuple_mul1 a us.toArray lz de sts 1 tk b0 b1
    refine wpAny_binaryOp_repeat_ref (T := "tuple") (U := "int") (by decide) ⟨_, hob, rfl⟩ (fun s' => typeIs_int s' 1 tk) noFill_tuple_mul F.fills_int_mul F.slot_int_rmul repeat_tuple F.slot_int_index.lookup (call_meets F.slot_int_rmul (typeIs_int s 1 tk) F.entry_int_rmul (F.args_int_rmul_2 _ _) (int_rmul_tuple 1 tk a us.toArray lz de sts) ⟨hob, rfl, ⟨_, hob, rfl⟩, call_meets F.slot_tuple_mul ⟨_, hob, rfl⟩ F.entry_tuple_mul (F.args_tuple_mul_2 _ _) mul ⟨hob, ?_⟩⟩)
    exact ⟨.ref a, H, J, rfl, c1 rfl⟩
end
section
variable {K : PySem.W.Frag} {G : Hp}
def repTB : D → D → Option D
  | .tuple xs, .int n => if (n = 0 ∨ n = 1) ∧ xs ≠ [] then some (.tuple (if n = 1 then xs else [])) else none
  | _, _ => none
theorem d_repTB : R2D K (rTimesB K) repTB := by
  intro x y dx dy d G H Q s d1 d2 e k
  match dx, dy, e with
  | .tuple xs, .int n, e =>
    simp only [repTB] at e
    split at e
    · cases e
      rename_i h
      obtain ⟨h0, h3⟩ := h
      have d10 := d1
      cases d1 with
      | @tup a vs _ q z r =>
      cases d2
      have hl := r.length
      have ne : vs ≠ [] := fun e => h3 (List.eq_nil_of_length_eq_zero (by rw [← hl, e]; rfl))
      refine ⟨a, n, vs, rfl, rfl, (q.keep fun o e => s _ _ e).sq, ne, h0, fun h1 => ?_, fun h1 p o dn hp => ?_⟩
      · subst h1
        exact k _ G H (.refl s) d10
      · subst h1
        exact k _ (upd G p (.frz o (.tup []))) _ (.upd s hp) (.tup (PqT.new dn) (Nat.zero_le _) .nil)
    · cases e
end
section
variable {S : Type} {K : PySem.W.Frag} {R : StI S} {mg : Str → Option Value} {W : WX} {pn : List Nat} {Dn : Ends} {σ : L2.St} {H : Hp} {g : SFX S}
def tXIEB (K : PySem.W.Frag) (R : StI S) (mg : Str → Option Value) (W : WX) (f : XEL S) : TI := fun σ H Q => ∃ G F ds r ds', RS K R ds σ G H F ∧ f ds = some (r, ds') ∧ match r with
  | .ok xs => ∀ J G' H' F', RS K R ds' σ G' H' F' → Step G H (fun a => ∃ i, F i a) G' H' (fun a => ∃ i, F' i a) → ItD true K J xs G' → Q J H'
  | .error x => ∀ cls dd G' H' F', ExcIs K G' mg x cls dd → RS K R ds' σ G' H' F' → Step G H (fun a => ∃ i, F i a) G' H' (fun a => ∃ i, F' i a) → W cls dd σ H'
theorem s_forXB {src : XEL S} {t : D → Option (List (Nat × D))} {tg : TG} (ht : TGD true K tg t) (hp : ∀ d as, t d = some as → ∀ p ∈ as, p.1 ∉ pn) (w : tSX K R pn mg W (gForX src t g) Dn σ H) : tFor (tXIEB K R mg W src) tg (tSX K R pn mg W g) Dn σ H := by
  obtain ⟨G, F, ds, o, r, e, k⟩ := w
  unfold gForX at e
  cases ef : src ds with
  | none => rw [ef] at e; cases e
  | some p =>
    rw [ef] at e
    simp only [Option.bind_some] at e
    obtain ⟨r0, ds1⟩ := p
    refine ⟨G, F, ds, r0, ds1, r, ef, ?_⟩
    cases r0 with
    | error x1 =>
      cases e
      exact fun cls dd G' H' F' xi r' s' => k cls dd σ G' H' F' xi r' s' fun _ _ => rfl
    | ok xs =>
    intro J G1 H1 F1 r1 s1 it
    refine ⟨fun i m σc Hc => m = xs.length - i ∧ i ≤ xs.length ∧ ∃ Gc Fc dsc, RS K R dsc σc Gc Hc Fc ∧ Step G H (fun a => ∃ j, F j a) Gc Hc (fun a => ∃ j, Fc j a) ∧ Same G1 Gc ∧ (∀ j ∈ pn, σc[j]? = σ[j]?) ∧ forRunX t g (xs.drop i) dsc = some o,
      ⟨xs.length, rfl, Nat.zero_le _, G1, F1, ds1, r1, s1, Same.refl _, fun _ _ => rfl, by simpa using e⟩, ?_⟩
    rintro i m σc Hc ⟨rfl, hi, Gc, Fc, dsc, rc, sc, gc, pc, ec⟩
    by_cases hlt : i < xs.length
    · refine .inr ⟨it.go i Hc (gc.trans rc.sub) hlt, fun σ' H' => ∃ m', m' < xs.length - i ∧ (m' = xs.length - (i + 1) ∧ i + 1 ≤ xs.length ∧ ∃ Gc Fc dsc, RS K R dsc σ' Gc H' Fc ∧ Step G H (fun a => ∃ j, F j a) Gc H' (fun a => ∃ j, Fc j a) ∧ Same G1 Gc ∧ (∀ j ∈ pn, σ'[j]? = σ[j]?) ∧ forRunX t g (xs.drop (i + 1)) dsc = some o), fun σ' H' z => z, fun x H' y => ?_⟩
      obtain ⟨d, hd, grow⟩ := it.yld i Hc x H' (gc.trans rc.sub) hlt y
      obtain ⟨Ga, ga, dx⟩ := grow Gc gc rc.sub
      have ra := rc.grow ga
      have hdrop : xs.drop i = d :: xs.drop (i + 1) := by
        rw [List.drop_eq_getElem_cons hlt]
        rw [List.getElem?_eq_getElem hlt] at hd
        cases hd
        rfl
      rw [hdrop] at ec
      unfold forRunX at ec
      cases et : t d with
      | none => rw [et] at ec; cases ec
      | some as =>
        rw [et] at ec
        simp only [Option.bind_some] at ec
        cases eb : g (setD dsc as) with
        | none => rw [eb] at ec; cases ec
        | some o1 =>
          rw [eb] at ec
          simp only [Option.bind_some] at ec
          refine ht x d as σc Ga H' _ ga.sub dx et fun ws aw => ?_
          obtain ⟨F2, r2, u2⟩ := ra.setAll aw
          have sa : Step G H (fun a => ∃ j, F j a) Ga H' (fun a => ∃ j, F2 j a) := (sc.trans ga.step).weaken u2
          have pa : ∀ j ∈ pn, (setAll σc ws)[j]? = σ[j]? := fun j hj => by
            rw [setAll_out (own := (as.map (·.1))) (fun z => ?_) (asgV_slots aw fun q hq => List.mem_map_of_mem hq)]
            · exact pc j hj
            · obtain ⟨q, hq, rfl⟩ := List.mem_map.mp z
              exact hp d as et q hq hj
          refine ⟨Ga, F2, setD dsc as, o1, r2, eb, ?_⟩
          have again : ∀ ds', forRunX t g (xs.drop (i + 1)) ds' = some o → After K R pn (setAll σc ws) Ga H' (fun a => ∃ j, F2 j a) ds' (fun σ' H' => ∃ m', m' < xs.length - i ∧ (m' = xs.length - (i + 1) ∧ i + 1 ≤ xs.length ∧ ∃ Gc Fc dsc, RS K R dsc σ' Gc H' Fc ∧ Step G H (fun a => ∃ j, F j a) Gc H' (fun a => ∃ j, Fc j a) ∧ Same G1 Gc ∧ (∀ j ∈ pn, σ'[j]? = σ[j]?) ∧ forRunX t g (xs.drop (i + 1)) dsc = some o)) :=
            fun ds' e' σ' G' H2 F' r' s' p' => ⟨xs.length - (i + 1), by omega, rfl, hlt, G', F', ds', r', sa.trans s', gc.trans (ga.keep.trans s'.keep), fun j hj => (p' j hj).trans (pa j hj), e'⟩
          cases o1 with
          | ex x1 ds' => cases ec; exact XEnd.shift (Dn := Dn) (o := .ex x1 ds') k sa pa
          | out o2 =>
            cases o2 with
            | nx ds' => exact again ds' ec
            | ct ds' => exact again ds' ec
            | bk ds' => cases ec; exact After.shift k sa pa
            | rt m ds' => cases ec; exact SEnd.shift (Dn := Dn) (o := .rt m ds') k sa pa
    · have e' : i = xs.length := by omega
      subst e'
      rw [List.drop_length] at ec
      cases ec
      exact .inl ⟨it.stop _ Hc (gc.trans rc.sub) (Nat.le_refl _) (Nat.le_refl _), k σc Gc Hc Fc rc sc pc⟩
end
section
variable {S : Type} {X : Cx} {R : StI S} {W : WX} {pn : List Nat} {tg iter : Expr} {body : List Stmt} {pos : Pos} {fa : XE S} {g : SFX S}
theorem xi_LB {f : XF S (List D)} (h : PI X tg iter (tXI true X.K R f)) : PI X tg iter (tXIEB X.K R X.mg W (eL f)) := PI.imp h fun σ H J ⟨G, F, ds, r, ds', rs, e, k⟩ => by
  unfold eL at e
  cases ef : f ds with
  | none => rw [ef] at e; cases e
  | some q =>
    rw [ef] at e
    cases e
    exact ⟨G, F, ds, q.1, q.2, rs, ef, k⟩
theorem sx_forB {src : XEL S} {t : D → Option (List (Nat × D))} {gt : TG} (po : PassesOwn (model X.prog X.w) X.A X.env X.xe) (ht : TGD true X.K gt t) (hp : ∀ d as, t d = some as → ∀ p ∈ as, p.1 ∉ pn) (hc : X.calm = true) (hi : PI X tg iter (tXIEB X.K R X.mg W src)) (hg : PG X tg gt) (hb : PSs X body (tSX X.K R pn X.mg W g))
    (hs : ∀ x, foldedSetIterable iter X.env x = pure x := by intro _; rfl) : PS X (.For tg iter body [] pos) (tSX X.K R pn X.mg W (gForX src t g)) := PS.imp (ps_for po hc hi hg hb hs) fun _ _ _ => s_forXB ht hp
end
end DL
set_option Elab.async false
set_option linter.all false
set_option maxRecDepth 100000
set_option maxHeartbeats 8000000
namespace LAW
open PySem PySem.Spec PyProof.Rows L2 DL
def top (i : Nat) : Stmt := PySem.Challenge.pw_pitchward_k60_whole_lines_and_rows.main.body.getD i (.Pass ⟨0, 0, 0, 0⟩)
abbrev st_is_whole : Stmt := top 6
abbrev N_is_whole : List Str := ["thing", "least", "most"]
theorem sc_is_whole : FnScope N_is_whole ["thing", "least", "most"] (defScope st_is_whole) := ⟨rfl, rfl, rfl, by decide +kernel, rfl, by decide +kernel, by decide +kernel⟩
def g_is_whole : SF St2 :=
  (gRet (oX (xP (gAndV (gIsi "int" (gVar 0)) (gAndV (gNotV (gIsi "bool" (gVar 0))) (gChain leD leD (gVar 1) (gVar 0) (gVar 2)))))))
def F_is_whole : List D → Option (MO St2) := runP 3 g_is_whole
theorem ok_is_whole {P : Program} {w : World} {K : PySem.W.Frag} {mg : Str → Option Value} {base : Heap} {f : Addr} {fd : FuncData} (Fn : Fun K "is_whole" "is_whole" st_is_whole f fd) (m_bool : mg "bool" = none) (m_int : mg "int" = none) (m_isinstance : mg "isinstance" = none) :
    FnG P w K mg base CX0 1 f fd ["thing", "least", "most"] (spP K R2i 3 F_is_whole) := fn_P (k := 0) (N := N_is_whole) (g := g_is_whole) Fn sc_is_whole fun cdv A outer s H E hr hgd => by
  have nd : N_is_whole.Nodup := sc_is_whole.nd
  unfold g_is_whole
  exact (ss_one (ss_ret (eo_X (ex_P (ep_and (ep_isi (v2 := .none) (by rfl) m_isinstance (ep_var (pv 0)) (pe_bltn (by rfl) m_int (by decide +kernel) rfl)) (ep_and (ep_not (ep_isi (v2 := .none) (by rfl) m_isinstance (ep_var (pv 0)) (pe_bltn (by rfl) m_bool (by decide +kernel) rfl))) (ep_one (ep_chain o_le d_le o_le d_le (ep_var (pv 1)) (ep_var (pv 0)) (ep_var (pv 2))))))))))
abbrev st_need_rules : Stmt := top 9
abbrev N_need_rules : List Str := ["thing", "one"]
theorem sc_need_rules : FnScope N_need_rules ["thing"] (defScope st_need_rules) := ⟨rfl, rfl, rfl, by decide +kernel, rfl, by decide +kernel, by decide +kernel⟩
def g_need_rules : SFX St2 :=
  (gSeqX (gIfX (xtP (gOr (gNot (gTr (gIsi "tuple" (gVar 0)))) (gOr (gB (gOp neD (gCall (gCons (gVar 0) gNil) lenD) (gC (.int 4)))) (gNot (gTr (gCall (gCons (gL (gLc (gSrc (gVar 0)) [1] (asgN 1) gYes (gCallP 3 F_is_whole (gCons (gVar 1) (gCons (gC (.int 0)) (gCons (gC (.int 30)) gNil)))))) gNil) allD))))))
  (gRaise ⟨"BadRules", none⟩)
  gNextX)
  (gIfX (xtP (gOr (gNot (gB (gChain leD leD (gC (.int 1)) (gOp ixD (gVar 0) (gC (.int 0))) (gC (.int 20))))) (gOr (gB (gOp ltD (gOp ixD (gVar 0) (gC (.int 1))) (gOp ixD (gVar 0) (gC (.int 0))))) (gOr (gNot (gB (gChain leD leD (gC (.int 1)) (gOp ixD (gVar 0) (gC (.int 2))) (gC (.int 10))))) (gB (gOp gtD (gOp ixD (gVar 0) (gC (.int 3))) (gC (.int 20))))))))
  (gRaise ⟨"BadRules", none⟩)
  gNextX))
def FX_need_rules : List D → Option (Except Exc (MO St2)) := runPX 2 g_need_rules
def F_need_rules : List D → Option (MO St2) := fun as => okX (FX_need_rules as)
theorem ok_need_rules {P : Program} {w : World} {K : PySem.W.Frag} {mg : Str → Option Value} {base : Heap} {f : Addr} {fd : FuncData} (Fn : Fun K "need_rules" "need_rules" st_need_rules f fd) (c_is_whole : Cl P w K mg base 1 "is_whole" (spP K R2i 3 F_is_whole)) (m_all : mg "all" = none) (m_isinstance : mg "isinstance" = none) (m_len : mg "len" = none) (m_tuple : mg "tuple" = none) (g_MOST_OF : ∃ t, mg "MOST_OF" = some (.int 30 t)) (e_BadRules : ExcT K mg "BadRules") :
    FnG P w K mg base (CX P w) 2 f fd ["thing"] (spPX K R2i mg 1 FX_need_rules) := fn_PX (k := 1) (N := N_need_rules) (g := g_need_rules) Fn sc_need_rules fun cdv A outer s H E hr hgd tk => by
  have nd : N_need_rules.Nodup := sc_need_rules.nd
  unfold g_need_rules
  exact (sx_seq (sx_if (xt_P (PW.pt (tw_or (tp_not (tp_tr (ep_isi (v2 := .none) (by rfl) m_isinstance (ep_var (pv 0)) (pe_bltn (by rfl) m_tuple (by decide +kernel) rfl)))) (tw_or (tp_cmp (o_ne (room_u hr (by decide))) d_ne (ep_cb call_len d_len (by rfl) m_len (by decide +kernel) (ap_cons (ep_var (pv 0)) ap_nil)) ep_int rfl) (tw_or1 (tp_not (tp_tr (ep_cb (cr_all rfl) d_all (by rfl) m_all (by decide +kernel) (ap_cons (ep_f (ef_lc (own := [("one", 1)]) tgd_name (own_name (by decide)) rfl nd (pi_any (ep_var (pv 0))) (blkOk_by (N := N_need_rules) (sc := defScope st_need_rules) (by decide +kernel)) (fun _ _ _ _ _ => (pg_name (i := 1) nd rfl (Or.inl rfl))) (fun _ _ _ _ _ => pts_yes) (fun _ _ _ _ _ => (cp_call c_is_whole (by decide) hr hgd (by rfl) (ap_cons (ep_var (pv 1)) (ap_cons ep_int (ap_cons (ep_globI (by rfl) g_MOST_OF) ap_nil))))))) ap_nil)))))))))
  (sx_one (sx_raise rfl tk e_BadRules (by rfl)))
  sx_nil)
  (sx_one (sx_if (xt_P (PW.pt (tw_or (tp_not (tp_chain o_le d_le o_le d_le ep_int (ep_ix ix_seq d_ix (ep_var (pv 0)) ep_int (fun _ _ => rfl)) ep_int)) (tw_or (tp_cmp o_lt d_lt (ep_ix ix_seq d_ix (ep_var (pv 0)) ep_int (fun _ _ => rfl)) (ep_ix ix_seq d_ix (ep_var (pv 0)) ep_int (fun _ _ => rfl)) rfl) (tw_or (tp_not (tp_chain o_le d_le o_le d_le ep_int (ep_ix ix_seq d_ix (ep_var (pv 0)) ep_int (fun _ _ => rfl)) ep_int)) (tw_or1 (tp_cmp o_gt d_gt (ep_ix ix_seq d_ix (ep_var (pv 0)) ep_int (fun _ _ => rfl)) ep_int rfl)))))))
  (sx_one (sx_raise rfl tk e_BadRules (by rfl)))
  sx_nil)))
abbrev st_is_pair : Stmt := top 15
abbrev N_is_pair : List Str := ["thing"]
theorem sc_is_pair : FnScope N_is_pair ["thing"] (defScope st_is_pair) := ⟨rfl, rfl, rfl, by decide +kernel, rfl, by decide +kernel, by decide +kernel⟩
def g_is_pair : SF St2 :=
  (gSeq (gIfS (xtP (gOr (gNot (gTr (gIsi "tuple" (gVar 0)))) (gOr (gB (gOp neD (gCall (gCons (gVar 0) gNil) lenD) (gC (.int 2)))) (gNot (gTr (gCallP 3 F_is_whole (gCons (gOp ixD (gVar 0) (gC (.int 0))) (gCons (gC (.int 0)) (gCons (gC (.int 9999)) gNil)))))))))
  (gRet (oX (xP (gC (.bool false)))))
  gNext)
  (gRet (oX (xP (gAndV (gIsi "str" (gOp ixD (gVar 0) (gC (.int 1)))) (gOp inD (gOp ixD (gVar 0) (gC (.int 1))) (gC (.tuple ((["came", "told", "missed", "given", "struck"] : List Str).map .str)))))))))
def F_is_pair : List D → Option (MO St2) := runP 1 g_is_pair
theorem ok_is_pair {P : Program} {w : World} {K : PySem.W.Frag} {mg : Str → Option Value} {base : Heap} {f : Addr} {fd : FuncData} (Fn : Fun K "is_pair" "is_pair" st_is_pair f fd) (c_is_whole : Cl P w K mg base 1 "is_whole" (spP K R2i 3 F_is_whole)) (m_isinstance : mg "isinstance" = none) (m_len : mg "len" = none) (m_str : mg "str" = none) (m_tuple : mg "tuple" = none) (g_MOST_DAY : ∃ t, mg "MOST_DAY" = some (.int 9999 t)) (t_LINE_WORDS : TopTup K mg "LINE_WORDS" ["came", "told", "missed", "given", "struck"]) :
    FnG P w K mg base CX0 2 f fd ["thing"] (spP K R2i 1 F_is_pair) := fn_P (k := 1) (N := N_is_pair) (g := g_is_pair) Fn sc_is_pair fun cdv A outer s H E hr hgd => by
  have nd : N_is_pair.Nodup := sc_is_pair.nd
  unfold g_is_pair
  exact (ss_seq (ss_if (xt_P (PW.pt (tw_or (tp_not (tp_tr (ep_isi (v2 := .none) (by rfl) m_isinstance (ep_var (pv 0)) (pe_bltn (by rfl) m_tuple (by decide +kernel) rfl)))) (tw_or (tp_cmp (o_ne (room_u hr (by decide))) d_ne (ep_cb call_len d_len (by rfl) m_len (by decide +kernel) (ap_cons (ep_var (pv 0)) ap_nil)) ep_int rfl) (tw_or1 (tp_not (tp_tr (cp_call c_is_whole (by decide) hr hgd (by rfl) (ap_cons (ep_ix ix_seq d_ix (ep_var (pv 0)) ep_int (fun _ _ => rfl)) (ap_cons ep_int (ap_cons (ep_globI (by rfl) g_MOST_DAY) ap_nil)))))))))))
  (ss_one (ss_ret (eo_X (ex_P ep_bl))))
  ss_nil)
  (ss_one (ss_ret (eo_X (ex_P (ep_and (ep_isi (v2 := .none) (by rfl) m_isinstance (ep_ix ix_seq d_ix (ep_var (pv 0)) ep_int (fun _ _ => rfl)) (pe_bltn (by rfl) m_str (by decide +kernel) rfl)) (ep_one (ep_cmp (o_in (room_u hr (by decide))) d_in (ep_ix ix_seq d_ix (ep_var (pv 0)) ep_int (fun _ _ => rfl)) (ep_globT (by rfl) t_LINE_WORDS (by decide +kernel) (by decide)) rfl))))))))
abbrev st_may_follow : Stmt := top 16
abbrev N_may_follow : List Str := ["one", "other"]
theorem sc_may_follow : FnScope N_may_follow ["one", "other"] (defScope st_may_follow) := ⟨rfl, rfl, rfl, by decide +kernel, rfl, by decide +kernel, by decide +kernel⟩
def g_may_follow : SF St2 :=
  (gSeq (gIfS (xtP (gOr (gB (gOp eqD (gOp ixD (gVar 0) (gC (.int 1))) (gC (.str "struck")))) (gB (gOp ltD (gOp ixD (gVar 1) (gC (.int 0))) (gOp ixD (gVar 0) (gC (.int 0)))))))
  (gRet (oX (xP (gC (.bool false)))))
  gNext)
  (gRet (oX (xP (gOrV (gOp gtD (gOp ixD (gVar 1) (gC (.int 0))) (gOp ixD (gVar 0) (gC (.int 0)))) (gAndV (gOp eqD (gOp ixD (gVar 0) (gC (.int 1))) (gC (.str "given"))) (gOp neD (gOp ixD (gVar 1) (gC (.int 1))) (gC (.str "given")))))))))
def F_may_follow : List D → Option (MO St2) := runP 2 g_may_follow
theorem ok_may_follow {P : Program} {w : World} {K : PySem.W.Frag} {mg : Str → Option Value} {base : Heap} {f : Addr} {fd : FuncData} (Fn : Fun K "may_follow" "may_follow" st_may_follow f fd) :
    FnG P w K mg base CX0 1 f fd ["one", "other"] (spP K R2i 2 F_may_follow) := fn_P (k := 0) (N := N_may_follow) (g := g_may_follow) Fn sc_may_follow fun cdv A outer s H E hr hgd => by
  have nd : N_may_follow.Nodup := sc_may_follow.nd
  unfold g_may_follow
  exact (ss_seq (ss_if (xt_P (PW.pt (tw_or (tp_cmp (o_eq (room_u hr (by decide))) d_eq (ep_ix ix_seq d_ix (ep_var (pv 0)) ep_int (fun _ _ => rfl)) ep_str rfl) (tw_or1 (tp_cmp o_lt d_lt (ep_ix ix_seq d_ix (ep_var (pv 1)) ep_int (fun _ _ => rfl)) (ep_ix ix_seq d_ix (ep_var (pv 0)) ep_int (fun _ _ => rfl)) rfl)))))
  (ss_one (ss_ret (eo_X (ex_P ep_bl))))
  ss_nil)
  (ss_one (ss_ret (eo_X (ex_P (ep_or (ep_cmp o_gt d_gt (ep_ix ix_seq d_ix (ep_var (pv 1)) ep_int (fun _ _ => rfl)) (ep_ix ix_seq d_ix (ep_var (pv 0)) ep_int (fun _ _ => rfl)) rfl) (ep_one (ep_and (ep_cmp (o_eq (room_u hr (by decide))) d_eq (ep_ix ix_seq d_ix (ep_var (pv 0)) ep_int (fun _ _ => rfl)) ep_str rfl) (ep_one (ep_cmp (o_ne (room_u hr (by decide))) d_ne (ep_ix ix_seq d_ix (ep_var (pv 1)) ep_int (fun _ _ => rfl)) ep_str rfl))))))))))
abbrev st_need_line : Stmt := top 17
abbrev N_need_line : List Str := ["thing", "pair", "one", "other"]
theorem sc_need_line : FnScope N_need_line ["thing"] (defScope st_need_line) := ⟨rfl, rfl, rfl, by decide +kernel, rfl, by decide +kernel, by decide +kernel⟩
def g_need_line : SFX St2 :=
  (gSeqX (gIfX (xtP (gOr (gNot (gTr (gIsi "tuple" (gVar 0)))) (gOr (gB (gOp gtD (gCall (gCons (gVar 0) gNil) lenD) (gC (.int 2000)))) (gNot (gTr (gCall (gCons (gL (gLc (gSrc (gVar 0)) [1] (asgN 1) gYes (gCallP 1 F_is_pair (gCons (gVar 1) gNil)))) gNil) allD))))))
  (gRaise ⟨"BadLineup", none⟩)
  gNextX)
  (gIfX (xtP (gNot (gTr (gCall (gCons (gL (gLc (gArgs (gCons (gVar 0) (gCons (gSlA (gVar 0) (gPart (gC (.int 1))) gNoPart) gNil)) zip2) [2, 3] (asgT [2, 3]) gYes (gCallP 2 F_may_follow (gCons (gVar 2) (gCons (gVar 3) gNil))))) gNil) allD))))
  (gRaise ⟨"BadLineup", none⟩)
  gNextX))
def FX_need_line : List D → Option (Except Exc (MO St2)) := runPX 4 g_need_line
def F_need_line : List D → Option (MO St2) := fun as => okX (FX_need_line as)
theorem ok_need_line {P : Program} {w : World} {K : PySem.W.Frag} {mg : Str → Option Value} {base : Heap} {f : Addr} {fd : FuncData} (Fn : Fun K "need_line" "need_line" st_need_line f fd) (c_is_pair : Cl P w K mg base 2 "is_pair" (spP K R2i 1 F_is_pair)) (c_may_follow : Cl P w K mg base 1 "may_follow" (spP K R2i 2 F_may_follow)) (m_all : mg "all" = none) (m_isinstance : mg "isinstance" = none) (m_len : mg "len" = none) (m_tuple : mg "tuple" = none) (m_zip : mg "zip" = none) (g_MOST_PAIRS : ∃ t, mg "MOST_PAIRS" = some (.int 2000 t)) (e_BadLineup : ExcT K mg "BadLineup") :
    FnG P w K mg base (CX P w) 3 f fd ["thing"] (spPX K R2i mg 1 FX_need_line) := fn_PX (k := 2) (N := N_need_line) (g := g_need_line) Fn sc_need_line fun cdv A outer s H E hr hgd tk => by
  have nd : N_need_line.Nodup := sc_need_line.nd
  unfold g_need_line
  exact (sx_seq (sx_if (xt_P (PW.pt (tw_or (tp_not (tp_tr (ep_isi (v2 := .none) (by rfl) m_isinstance (ep_var (pv 0)) (pe_bltn (by rfl) m_tuple (by decide +kernel) rfl)))) (tw_or (tp_cmp o_gt d_gt (ep_cb call_len d_len (by rfl) m_len (by decide +kernel) (ap_cons (ep_var (pv 0)) ap_nil)) (ep_globI (by rfl) g_MOST_PAIRS) rfl) (tw_or1 (tp_not (tp_tr (ep_cb (cr_all rfl) d_all (by rfl) m_all (by decide +kernel) (ap_cons (ep_f (ef_lc (own := [("pair", 1)]) tgd_name (own_name (by decide)) rfl nd (pi_any (ep_var (pv 0))) (blkOk_by (N := N_need_line) (sc := defScope st_need_line) (by decide +kernel)) (fun _ _ _ _ _ => (pg_name (i := 1) nd rfl (Or.inl rfl))) (fun _ _ _ _ _ => pts_yes) (fun _ _ _ _ _ => (cp_call c_is_pair (by decide) hr hgd (by rfl) (ap_cons (ep_var (pv 1)) ap_nil))))) ap_nil)))))))))
  (sx_one (sx_raise rfl tk e_BadLineup (by rfl)))
  sx_nil)
  (sx_one (sx_if (xt_P (tp_not (tp_tr (ep_cb (cr_all rfl) d_all (by rfl) m_all (by decide +kernel) (ap_cons (ep_f (ef_lc (own := [("one", 2), ("other", 3)]) (tgd_tup (is := [2, 3])) (own_tup (by decide)) rfl nd (pi_zp (by rfl) m_zip (ap_cons (ep_var (pv 0)) (ap_cons (ep_slA (ep_var (pv 0)) (op_part ep_int) op_no) ap_nil))) (blkOk_by (N := N_need_line) (sc := defScope st_need_line) (by decide +kernel)) (fun _ _ _ _ _ => (pg_tup rfl (pgs_cons (pg_name (i := 2) nd rfl (Or.inl rfl)) (pgs_cons (pg_name (i := 3) nd rfl (Or.inl rfl)) pgs_nil)))) (fun _ _ _ _ _ => pts_yes) (fun _ _ _ _ _ => (cp_call c_may_follow (by decide) hr hgd (by rfl) (ap_cons (ep_var (pv 2)) (ap_cons (ep_var (pv 3)) ap_nil)))))) ap_nil)))))
  (sx_one (sx_raise rfl tk e_BadLineup (by rfl)))
  sx_nil)))
abbrev st_days_of : Stmt := top 18
abbrev N_days_of : List Str := ["pairs", "word", "day", "told"]
theorem sc_days_of : FnScope N_days_of ["pairs", "word"] (defScope st_days_of) := ⟨rfl, rfl, rfl, by decide +kernel, rfl, by decide +kernel, by decide +kernel⟩
def g_days_of : SF St2 :=
  (gRet (oX (xP (gCall (gCons (gL (gLc (gSrc (gVar 0)) [2, 3] (asgT [2, 3]) (gB (gOp eqD (gVar 3) (gVar 1))) (gVar 2))) gNil) tupleD))))
def F_days_of : List D → Option (MO St2) := runP 4 g_days_of
theorem ok_days_of {P : Program} {w : World} {K : PySem.W.Frag} {mg : Str → Option Value} {base : Heap} {f : Addr} {fd : FuncData} (Fn : Fun K "days_of" "days_of" st_days_of f fd) (m_tuple : mg "tuple" = none) :
    FnG P w K mg base CX0 1 f fd ["pairs", "word"] (spP K R2i 2 F_days_of) := fn_P (k := 0) (N := N_days_of) (g := g_days_of) Fn sc_days_of fun cdv A outer s H E hr hgd => by
  have nd : N_days_of.Nodup := sc_days_of.nd
  unfold g_days_of
  exact (ss_one (ss_ret (eo_X (ex_P (ep_ct call_tupF d_tuple (by rfl) m_tuple (by decide +kernel) (ap_cons (ep_f (ef_lc (own := [("day", 2), ("told", 3)]) (tgd_tup (is := [2, 3])) (own_tup (by decide)) rfl nd (pi_any (ep_var (pv 0))) (blkOk_by (N := N_days_of) (sc := defScope st_days_of) (by decide +kernel)) (fun _ _ _ _ _ => (pg_tup rfl (pgs_cons (pg_name (i := 2) nd rfl (Or.inl rfl)) (pgs_cons (pg_name (i := 3) nd rfl (Or.inl rfl)) pgs_nil)))) (fun _ _ _ _ _ => (pts_one (tp_cmp (o_eq (room_u hr (by decide))) d_eq (ep_var (pv 3)) (ep_var (pv 1)) rfl))) (fun _ _ _ _ _ => (ep_var (pv 2))))) ap_nil))))))
abbrev st_Roll___init__ : Stmt := inClass (top 19) 0
abbrev N_Roll___init__ : List Str := ["self", "rules"]
theorem sc_Roll___init__ : FnScope N_Roll___init__ ["self", "rules"] (defScope st_Roll___init__) := ⟨rfl, rfl, rfl, by decide +kernel, rfl, by decide +kernel, by decide +kernel⟩
def g_Roll___init__ : SF St2 :=
  (gSeq (gSetFld 0 "Roll" "own_rules" (oX (xP (gVar 1))))
  (gSeq (gSetFld 0 "Roll" "pairs" (oP (gLst gNil)))
  (gSetFld 0 "Roll" "earned_by" (oX (xP (gC .none))))))
def F_Roll___init__ : Fls → List D → Option (MO St2 × Fls) := runB "Roll" 2 g_Roll___init__
theorem ok_Roll___init__ {P : Program} {w : World} {K : PySem.W.Frag} {mg : Str → Option Value} {base : Heap} {f : Addr} {fd : FuncData} {o_Roll : Addr} (Fn : Fun K "__init__" "Roll.__init__" st_Roll___init__ f fd) (cx_Roll : ClsX K "Roll" o_Roll) (na_Roll_own_rules : NoAttr K o_Roll "own_rules") (na_Roll_pairs : NoAttr K o_Roll "pairs") (na_Roll_earned_by : NoAttr K o_Roll "earned_by") :
    FnG P w K mg base CX0 1 f fd ["self", "rules"] (spB K R2i "Roll" 2 F_Roll___init__) := fn_B (k := 0) (N := N_Roll___init__) (g := g_Roll___init__) Fn sc_Roll___init__ fun cdv A outer s H E hr hgd => by
  have nd : N_Roll___init__.Nodup := sc_Roll___init__.nd
  unfold g_Roll___init__
  exact (ss_seq (ss_setFld cx_Roll na_Roll_own_rules (pv 0) (eo_X (ex_P (ep_var (pv 1)))) rfl)
  (ss_seq (ss_setFld cx_Roll na_Roll_pairs (pv 0) (eo_P (ef_lst ap_nil)) rfl)
  (ss_one (ss_setFld cx_Roll na_Roll_earned_by (pv 0) (eo_X (ex_P ep_non)) rfl))))
abbrev st_Roll_has_standing : Stmt := inClass (top 19) 1
abbrev N_Roll_has_standing : List Str := ["self"]
theorem sc_Roll_has_standing : FnScope N_Roll_has_standing ["self"] (defScope st_Roll_has_standing) := ⟨rfl, rfl, rfl, by decide +kernel, rfl, by decide +kernel, by decide +kernel⟩
def g_Roll_has_standing : SF St2 :=
  (gRet (oX (xP (gOp notND (gFld "Roll" "earned_by" (gVar 0)) (gC .none)))))
def F_Roll_has_standing : List D → Option (MO St2) := runP 1 g_Roll_has_standing
theorem ok_Roll_has_standing {P : Program} {w : World} {K : PySem.W.Frag} {mg : Str → Option Value} {base : Heap} {f : Addr} {fd : FuncData} {o_Roll : Addr} (Fn : Fun K "has_standing" "Roll.has_standing" st_Roll_has_standing f fd) (cx_Roll : ClsX K "Roll" o_Roll) (na_Roll_earned_by : NoAttr K o_Roll "earned_by") :
    FnG P w K mg base CX0 1 f fd ["self"] (spP K R2i 1 F_Roll_has_standing) := fn_P (k := 0) (N := N_Roll_has_standing) (g := g_Roll_has_standing) Fn sc_Roll_has_standing fun cdv A outer s H E hr hgd => by
  have nd : N_Roll_has_standing.Nodup := sc_Roll_has_standing.nd
  unfold g_Roll_has_standing
  exact (ss_one (ss_ret (eo_X (ex_P (ep_cmp op_notN d_notN (ep_fld cx_Roll na_Roll_earned_by (ep_var (pv 0))) ep_non rfl)))))
abbrev st_Roll_emptied : Stmt := inClass (top 19) 2
abbrev N_Roll_emptied : List Str := ["self"]
theorem sc_Roll_emptied : FnScope N_Roll_emptied ["self"] (defScope st_Roll_emptied) := ⟨rfl, rfl, rfl, by decide +kernel, rfl, by decide +kernel, by decide +kernel⟩
def g_Roll_emptied : SF St2 :=
  (gSeq (gSetFld 0 "Roll" "pairs" (oP (gLst gNil)))
  (gSetFld 0 "Roll" "earned_by" (oX (xP (gC .none)))))
def F_Roll_emptied : Fls → List D → Option (MO St2 × Fls) := runB "Roll" 1 g_Roll_emptied
theorem ok_Roll_emptied {P : Program} {w : World} {K : PySem.W.Frag} {mg : Str → Option Value} {base : Heap} {f : Addr} {fd : FuncData} {o_Roll : Addr} (Fn : Fun K "emptied" "Roll.emptied" st_Roll_emptied f fd) (cx_Roll : ClsX K "Roll" o_Roll) (na_Roll_pairs : NoAttr K o_Roll "pairs") (na_Roll_earned_by : NoAttr K o_Roll "earned_by") :
    FnG P w K mg base CX0 1 f fd ["self"] (spB K R2i "Roll" 1 F_Roll_emptied) := fn_B (k := 0) (N := N_Roll_emptied) (g := g_Roll_emptied) Fn sc_Roll_emptied fun cdv A outer s H E hr hgd => by
  have nd : N_Roll_emptied.Nodup := sc_Roll_emptied.nd
  unfold g_Roll_emptied
  exact (ss_seq (ss_setFld cx_Roll na_Roll_pairs (pv 0) (eo_P (ef_lst ap_nil)) rfl)
  (ss_one (ss_setFld cx_Roll na_Roll_earned_by (pv 0) (eo_X (ex_P ep_non)) rfl)))
abbrev st_Roll_lost_by : Stmt := inClass (top 19) 3
abbrev N_Roll_lost_by : List Str := ["self", "earn", "of", "miss", "away", "last", "told"]
theorem sc_Roll_lost_by : FnScope N_Roll_lost_by ["self"] (defScope st_Roll_lost_by) := ⟨rfl, rfl, rfl, by decide +kernel, rfl, by decide +kernel, by decide +kernel⟩
def g_Roll_lost_by : SF St2 :=
  (gSeq (gAsgT (asgT [1, 2, 3, 4]) (xP (gFld "Roll" "own_rules" (gVar 0))))
  (gSeq (gAsg 5 (oX (xP (gCallP 2 F_days_of (gCons (gSlA (gFld "Roll" "pairs" (gVar 0)) (gPart (gUn negD (gVar 3))) gNoPart) (gCons (gC (.str "missed")) gNil))))))
  (gSeq (gIfS (xtP (gB (gOp eqD (gCall (gCons (gVar 5) gNil) lenD) (gVar 3))))
  (gRet (oX (xP (gTup (gCons (gC (.str "missed")) (gCons (gVar 5) gNil))))))
  gNext)
  (gSeq (gAsg 6 (oX (xP (gCallP 2 F_days_of (gCons (gSlA (gFld "Roll" "pairs" (gVar 0)) (gPart (gCall (gCons (gFld "Roll" "earned_by" (gVar 0)) (gCons (gOp subD (gCall (gCons (gFld "Roll" "pairs" (gVar 0)) gNil) lenD) (gVar 2)) gNil)) max2)) gNoPart) (gCons (gC (.str "told")) gNil))))))
  (gRet (oX (xP (gIf (gB (gOp gtD (gCall (gCons (gVar 6) gNil) lenD) (gVar 4))) (gTup (gCons (gC (.str "away")) (gCons (gVar 6) gNil))) (gC .none)))))))))
def F_Roll_lost_by : List D → Option (MO St2) := runP 7 g_Roll_lost_by
theorem ok_Roll_lost_by {P : Program} {w : World} {K : PySem.W.Frag} {mg : Str → Option Value} {base : Heap} {f : Addr} {fd : FuncData} {o_Roll : Addr} (Fn : Fun K "lost_by" "Roll.lost_by" st_Roll_lost_by f fd) (c_days_of : Cl P w K mg base 1 "days_of" (spP K R2i 2 F_days_of)) (m_len : mg "len" = none) (m_max : mg "max" = none) (cx_Roll : ClsX K "Roll" o_Roll) (na_Roll_own_rules : NoAttr K o_Roll "own_rules") (na_Roll_pairs : NoAttr K o_Roll "pairs") (na_Roll_earned_by : NoAttr K o_Roll "earned_by") :
    FnG P w K mg base CX0 2 f fd ["self"] (spP K R2i 1 F_Roll_lost_by) := fn_P (k := 1) (N := N_Roll_lost_by) (g := g_Roll_lost_by) Fn sc_Roll_lost_by fun cdv A outer s H E hr hgd => by
  have nd : N_Roll_lost_by.Nodup := sc_Roll_lost_by.nd
  unfold g_Roll_lost_by
  exact (ss_seq (ss_asgT (tgd_tup (is := [1, 2, 3, 4])) (notin_own (own := [1, 2, 3, 4]) (own_tup (by decide)) (by decide)) (ex_P (ep_fld cx_Roll na_Roll_own_rules (ep_var (pv 0)))) (pg_tup rfl (pgs_cons (pg_name (i := 1) nd rfl (Or.inl rfl)) (pgs_cons (pg_name (i := 2) nd rfl (Or.inl rfl)) (pgs_cons (pg_name (i := 3) nd rfl (Or.inl rfl)) (pgs_cons (pg_name (i := 4) nd rfl (Or.inl rfl)) pgs_nil))))))
  (ss_seq (ss_set (by decide) nd rfl (Or.inl rfl) (eo_X (ex_P (cp_call c_days_of (by decide) hr hgd (by rfl) (ap_cons (ep_slA (ep_fld cx_Roll na_Roll_pairs (ep_var (pv 0))) (op_part (ep_un un_neg d_neg (ep_var (pv 3)))) op_no) (ap_cons ep_str ap_nil))))))
  (ss_seq (ss_if (xt_P (tp_cmp (o_eq (room_u hr (by decide))) d_eq (ep_cb call_len d_len (by rfl) m_len (by decide +kernel) (ap_cons (ep_var (pv 5)) ap_nil)) (ep_var (pv 3)) rfl))
  (ss_one (ss_ret (eo_X (ex_P (ep_tup (ap_cons ep_str (ap_cons (ep_var (pv 5)) ap_nil)))))))
  ss_nil)
  (ss_seq (ss_set (by decide) nd rfl (Or.inl rfl) (eo_X (ex_P (cp_call c_days_of (by decide) hr hgd (by rfl) (ap_cons (ep_slA (ep_fld cx_Roll na_Roll_pairs (ep_var (pv 0))) (op_part (ep_cb (call_max2 rfl) d_max2 (by rfl) m_max (by decide +kernel) (ap_cons (ep_fld cx_Roll na_Roll_earned_by (ep_var (pv 0))) (ap_cons (ep_bin op_sub d_sub (ep_cb call_len d_len (by rfl) m_len (by decide +kernel) (ap_cons (ep_fld cx_Roll na_Roll_pairs (ep_var (pv 0))) ap_nil)) (ep_var (pv 2))) ap_nil)))) op_no) (ap_cons ep_str ap_nil))))))
  (ss_one (ss_ret (eo_X (ex_P (ep_if (tp_cmp o_gt d_gt (ep_cb call_len d_len (by rfl) m_len (by decide +kernel) (ap_cons (ep_var (pv 6)) ap_nil)) (ep_var (pv 4)) rfl) (ep_tup (ap_cons ep_str (ap_cons (ep_var (pv 6)) ap_nil))) ep_non)))))))))
abbrev st_Roll_came_days : Stmt := inClass (top 19) 4
abbrev N_Roll_came_days : List Str := ["self"]
theorem sc_Roll_came_days : FnScope N_Roll_came_days ["self"] (defScope st_Roll_came_days) := ⟨rfl, rfl, rfl, by decide +kernel, rfl, by decide +kernel, by decide +kernel⟩
def g_Roll_came_days : SF St2 :=
  (gRet (oX (xP (gCallP 2 F_days_of (gCons (gSlA (gFld "Roll" "pairs" (gVar 0)) (gPart (gCall (gCons (gC (.int 0)) (gCons (gOp subD (gCall (gCons (gFld "Roll" "pairs" (gVar 0)) gNil) lenD) (gOp ixD (gFld "Roll" "own_rules" (gVar 0)) (gC (.int 1)))) gNil)) max2)) gNoPart) (gCons (gC (.str "came")) gNil))))))
def F_Roll_came_days : List D → Option (MO St2) := runP 1 g_Roll_came_days
theorem ok_Roll_came_days {P : Program} {w : World} {K : PySem.W.Frag} {mg : Str → Option Value} {base : Heap} {f : Addr} {fd : FuncData} {o_Roll : Addr} (Fn : Fun K "came_days" "Roll.came_days" st_Roll_came_days f fd) (c_days_of : Cl P w K mg base 1 "days_of" (spP K R2i 2 F_days_of)) (m_len : mg "len" = none) (m_max : mg "max" = none) (cx_Roll : ClsX K "Roll" o_Roll) (na_Roll_pairs : NoAttr K o_Roll "pairs") (na_Roll_own_rules : NoAttr K o_Roll "own_rules") :
    FnG P w K mg base CX0 2 f fd ["self"] (spP K R2i 1 F_Roll_came_days) := fn_P (k := 1) (N := N_Roll_came_days) (g := g_Roll_came_days) Fn sc_Roll_came_days fun cdv A outer s H E hr hgd => by
  have nd : N_Roll_came_days.Nodup := sc_Roll_came_days.nd
  unfold g_Roll_came_days
  exact (ss_one (ss_ret (eo_X (ex_P (cp_call c_days_of (by decide) hr hgd (by rfl) (ap_cons (ep_slA (ep_fld cx_Roll na_Roll_pairs (ep_var (pv 0))) (op_part (ep_cb (call_max2 rfl) d_max2 (by rfl) m_max (by decide +kernel) (ap_cons ep_int (ap_cons (ep_bin op_sub d_sub (ep_cb call_len d_len (by rfl) m_len (by decide +kernel) (ap_cons (ep_fld cx_Roll na_Roll_pairs (ep_var (pv 0))) ap_nil)) (ep_ix ix_seq d_ix (ep_fld cx_Roll na_Roll_own_rules (ep_var (pv 0))) ep_int (fun _ _ => rfl))) ap_nil)))) op_no) (ap_cons ep_str ap_nil)))))))
abbrev st_Roll_went_on : Stmt := inClass (top 19) 5
abbrev N_Roll_went_on : List Str := ["self", "day", "word", "lost", "came"]
theorem sc_Roll_went_on : FnScope N_Roll_went_on ["self", "day", "word"] (defScope st_Roll_went_on) := ⟨rfl, rfl, rfl, by decide +kernel, rfl, by decide +kernel, by decide +kernel⟩
def g_Roll_went_on : SF St2 :=
  (gSeq (gDrop (xMtF 0 "Roll" "pairs" appD (gCons (gTup (gCons (gVar 1) (gCons (gVar 2) gNil))) gNil)))
  (gSeq (gIfS (xtP (gTr (gMeth 1 "Roll" "has_standing" F_Roll_has_standing (gVar 0) gNil)))
  (gSeq (gAsg 3 (oX (xB (gMeth 1 "Roll" "lost_by" F_Roll_lost_by (gVar 0) gNil))))
  (gSeq (gIfS (xtP (gB (gOp isND (gVar 3) (gC .none))))
  (gRet (oP (gLst gNil)))
  gNext)
  (gSeq (gDrop (xO (oCallB 1 0 "Roll" "emptied" F_Roll_emptied xNil)))
  (gRet (oP (gLst (gCons (gTup (gCons (gVar 1) (gCons (gOp ixD (gVar 3) (gC (.int 0))) (gCons (gOp ixD (gVar 3) (gC (.int 1))) gNil)))) gNil)))))))
  gNext)
  (gSeq (gAsg 4 (oX (xB (gMeth 1 "Roll" "came_days" F_Roll_came_days (gVar 0) gNil))))
  (gSeq (gIfS (xtP (gOr (gB (gOp neD (gVar 2) (gC (.str "came")))) (gB (gOp ltD (gCall (gCons (gVar 4) gNil) lenD) (gOp ixD (gFld "Roll" "own_rules" (gVar 0)) (gC (.int 0)))))))
  (gRet (oP (gLst gNil)))
  gNext)
  (gSeq (gSetFld 0 "Roll" "earned_by" (oX (xB (gCall (gCons (gFld "Roll" "pairs" (gVar 0)) gNil) lenD))))
  (gRet (oP (gLst (gCons (gTup (gCons (gVar 1) (gCons (gC (.str "earned")) (gCons (gVar 4) gNil)))) gNil)))))))))
def F_Roll_went_on : Fls → List D → Option (MO St2 × Fls) := runB "Roll" 5 g_Roll_went_on
theorem ok_Roll_went_on {P : Program} {w : World} {K : PySem.W.Frag} {mg : Str → Option Value} {base : Heap} {f : Addr} {fd : FuncData} {o_Roll : Addr} (Fn : Fun K "went_on" "Roll.went_on" st_Roll_went_on f fd) (m_len : mg "len" = none) (cx_Roll : ClsX K "Roll" o_Roll) (na_Roll_pairs : NoAttr K o_Roll "pairs") (na_Roll_own_rules : NoAttr K o_Roll "own_rules") (na_Roll_earned_by : NoAttr K o_Roll "earned_by") (cm_Roll_has_standing : ClM P w K mg base 1 o_Roll "has_standing" (spP K R2i 1 F_Roll_has_standing)) (cm_Roll_lost_by : ClM P w K mg base 2 o_Roll "lost_by" (spP K R2i 1 F_Roll_lost_by)) (cm_Roll_emptied : ClM P w K mg base 1 o_Roll "emptied" (spB K R2i "Roll" 1 F_Roll_emptied)) (cm_Roll_came_days : ClM P w K mg base 2 o_Roll "came_days" (spP K R2i 1 F_Roll_came_days)) :
    FnG P w K mg base CX0 3 f fd ["self", "day", "word"] (spB K R2i "Roll" 3 F_Roll_went_on) := fn_B (k := 2) (N := N_Roll_went_on) (g := g_Roll_went_on) Fn sc_Roll_went_on fun cdv A outer s H E hr hgd => by
  have nd : N_Roll_went_on.Nodup := sc_Roll_went_on.nd
  unfold g_Roll_went_on
  exact (ss_seq (ss_drop (ex_appF cx_Roll na_Roll_pairs (pv 0) (ap_cons (ep_tup (ap_cons (ep_var (pv 1)) (ap_cons (ep_var (pv 2)) ap_nil))) ap_nil)))
  (ss_seq (ss_if (xt_P (tp_tr (cp_meth0 cm_Roll_has_standing cx_Roll (by decide) hr hgd (ep_var (pv 0)))))
  (ss_seq (ss_set (by decide) nd rfl (Or.inl rfl) (eo_X (ex_B (cp_meth0 cm_Roll_lost_by cx_Roll (by decide) hr hgd (ep_var (pv 0))))))
  (ss_seq (ss_if (xt_P (tp_cmp op_isN d_isN (ep_var (pv 3)) ep_non rfl))
  (ss_one (ss_ret (eo_P (ef_lst ap_nil))))
  ss_nil)
  (ss_seq (ss_drop (ex_O (co_callB0 cm_Roll_emptied cx_Roll (by decide) hr hgd (pv 0))))
  (ss_one (ss_ret (eo_P (ef_lst (ap_cons (ep_tup (ap_cons (ep_var (pv 1)) (ap_cons (ep_ix ix_seq d_ix (ep_var (pv 3)) ep_int (fun _ _ => rfl)) (ap_cons (ep_ix ix_seq d_ix (ep_var (pv 3)) ep_int (fun _ _ => rfl)) ap_nil)))) ap_nil))))))))
  ss_nil)
  (ss_seq (ss_set (by decide) nd rfl (Or.inl rfl) (eo_X (ex_B (cp_meth0 cm_Roll_came_days cx_Roll (by decide) hr hgd (ep_var (pv 0))))))
  (ss_seq (ss_if (xt_P (PW.pt (tw_or (tp_cmp (o_ne (room_u hr (by decide))) d_ne (ep_var (pv 2)) ep_str rfl) (tw_or1 (tp_cmp o_lt d_lt (ep_cb call_len d_len (by rfl) m_len (by decide +kernel) (ap_cons (ep_var (pv 4)) ap_nil)) (ep_ix ix_seq d_ix (ep_fld cx_Roll na_Roll_own_rules (ep_var (pv 0))) ep_int (fun _ _ => rfl)) rfl)))))
  (ss_one (ss_ret (eo_P (ef_lst ap_nil))))
  ss_nil)
  (ss_seq (ss_setFld cx_Roll na_Roll_earned_by (pv 0) (eo_X (ex_B (ep_cb call_len d_len (by rfl) m_len (by decide +kernel) (ap_cons (ep_fld cx_Roll na_Roll_pairs (ep_var (pv 0))) ap_nil)))) rfl)
  (ss_one (ss_ret (eo_P (ef_lst (ap_cons (ep_tup (ap_cons (ep_var (pv 1)) (ap_cons ep_str (ap_cons (ep_var (pv 4)) ap_nil)))) ap_nil))))))))))
abbrev st_rows_by : Stmt := top 20
abbrev N_rows_by : List Str := ["rules", "line", "roll", "found", "day", "word"]
theorem sc_rows_by : FnScope N_rows_by ["rules", "line"] (defScope st_rows_by) := ⟨rfl, rfl, rfl, by decide +kernel, rfl, by decide +kernel, by decide +kernel⟩
def g_rows_by : SFX St2 :=
  (gSeqX (gDropX 1 FX_need_rules (xCons (xP (gVar 0)) xNil))
  (gSeqX (gDropX 1 FX_need_line (xCons (xP (gVar 1)) xNil))
  (gSeqX (gLift (gAsg 2 (oMake "Roll" 2 F_Roll___init__ (xCons (xP (gVar 0)) xNil))))
  (gSeqX (gLift (gAsg 3 (oP (gLst gNil))))
  (gSeqX (gForX (eL (xiP (gSrc (gVar 1)))) (asgT [4, 5])
  (gIfX (xtP (gB (gOp inD (gVar 5) (gC (.tuple ((["came", "told", "missed"] : List Str).map .str))))))
  (gLift (gDrop (xMt 3 extBD (xCons (xO (oCallB 3 2 "Roll" "went_on" F_Roll_went_on (xCons (xP (gVar 4)) (xCons (xP (gVar 5)) xNil)))) xNil))))
  (gIfX (xtP (gTr (gMeth 1 "Roll" "has_standing" F_Roll_has_standing (gVar 2) gNil)))
  (gSeqX (gLift (gDrop (xO (oCallB 1 2 "Roll" "emptied" F_Roll_emptied xNil))))
  (gLift (gDrop (xMt 3 appD (xCons (xP (gTup (gCons (gVar 4) (gCons (gVar 5) (gCons (gTup gNil) gNil))))) xNil)))))
  (gIfX (xtP (gB (gOp eqD (gVar 5) (gC (.str "given")))))
  (gRaise ⟨"BadLineup", none⟩)
  gNextX))))
  (gLift (gRet (oMove 3))))))))
def FX_rows_by : List D → Option (Except Exc (MO St2)) := runPX 6 g_rows_by
def F_rows_by : List D → Option (MO St2) := fun as => okX (FX_rows_by as)
theorem ok_rows_by {P : Program} {w : World} {K : PySem.W.Frag} {mg : Str → Option Value} {base : Heap} {f : Addr} {fd : FuncData} {o_Roll : Addr} (Fn : Fun K "rows_by" "rows_by" st_rows_by f fd) (t_ROLL_WORDS : TopTup K mg "ROLL_WORDS" ["came", "told", "missed"]) (cx_Roll : ClsX K "Roll" o_Roll) (cm_Roll_went_on : ClM P w K mg base 3 o_Roll "went_on" (spB K R2i "Roll" 3 F_Roll_went_on)) (cm_Roll_has_standing : ClM P w K mg base 1 o_Roll "has_standing" (spP K R2i 1 F_Roll_has_standing)) (cm_Roll_emptied : ClM P w K mg base 1 o_Roll "emptied" (spB K R2i "Roll" 1 F_Roll_emptied)) (ck_Roll : ClK P w K mg base 1 o_Roll "Roll" (spB K R2i "Roll" 2 F_Roll___init__)) (cx_need_rules : ClX P w K R2i mg base 2 "need_rules" 1 FX_need_rules) (cx_need_line : ClX P w K R2i mg base 3 "need_line" 1 FX_need_line) (e_BadLineup : ExcT K mg "BadLineup") :
    FnG P w K mg base (CX P w) 4 f fd ["rules", "line"] (spPX K R2i mg 2 FX_rows_by) := fn_PX (k := 3) (N := N_rows_by) (g := g_rows_by) Fn sc_rows_by fun cdv A outer s H E hr hgd tk => by
  have nd : N_rows_by.Nodup := sc_rows_by.nd
  unfold g_rows_by
  exact (sx_seq (sx_drop cx_need_rules (by decide) hr hgd (by rfl) tk (ax_cons (ex_P (ep_var (pv 0))) ax_nil))
  (sx_seq (sx_drop cx_need_line (by decide) hr hgd (by rfl) tk (ax_cons (ex_P (ep_var (pv 1))) ax_nil))
  (sx_seq (sx_lift (ss_set (by decide) nd rfl (Or.inl rfl) (co_make ck_Roll cx_Roll (by decide) hr hgd (by rfl) (ax_cons (ex_P (ep_var (pv 0))) ax_nil))))
  (sx_seq (sx_lift (ss_set (by decide) nd rfl (Or.inl rfl) (eo_P (ef_lst ap_nil))))
  (sx_seq (sx_for (passes_of rfl) (tgd_tup (is := [4, 5])) (notin_own (own := [4, 5]) (own_tup (by decide)) (by decide)) rfl (xi_L (xi_P (pi_any (ep_var (pv 1))))) (pg_tup rfl (pgs_cons (pg_name (i := 4) nd rfl (Or.inl rfl)) (pgs_cons (pg_name (i := 5) nd rfl (Or.inl rfl)) pgs_nil)))
  (sx_one (sx_if (xt_P (tp_cmp (o_in (room_u hr (by decide))) d_in (ep_var (pv 5)) (ep_globT (by rfl) t_ROLL_WORDS (by decide +kernel) (by decide)) rfl))
  (sx_one (sx_lift (ss_drop (ex_extB (pv 3) (ax_cons (ex_O (co_callB cm_Roll_went_on cx_Roll (by decide) hr hgd (pv 2) (ax_cons (ex_P (ep_var (pv 4))) (ax_cons (ex_P (ep_var (pv 5))) ax_nil)))) ax_nil)))))
  (sx_one (sx_if (xt_P (tp_tr (cp_meth0 cm_Roll_has_standing cx_Roll (by decide) hr hgd (ep_var (pv 2)))))
  (sx_seq (sx_lift (ss_drop (ex_O (co_callB0 cm_Roll_emptied cx_Roll (by decide) hr hgd (pv 2)))))
  (sx_one (sx_lift (ss_drop (ex_app (pv 3) (ax_cons (ex_P (ep_tup (ap_cons (ep_var (pv 4)) (ap_cons (ep_var (pv 5)) (ap_cons (ep_tup ap_nil) ap_nil))))) ax_nil))))))
  (sx_one (sx_if (xt_P (tp_cmp (o_eq (room_u hr (by decide))) d_eq (ep_var (pv 5)) ep_str rfl))
  (sx_one (sx_raise rfl tk e_BadLineup (by rfl)))
  sx_nil)))))))
  (sx_one (sx_lift (ss_ret (eo_move (pv 3))))))))))
abbrev st_is_row : Stmt := top 21
abbrev N_is_row : List Str := ["row", "due", "day", "word", "shown", "one", "other"]
theorem sc_is_row : FnScope N_is_row ["row", "due"] (defScope st_is_row) := ⟨rfl, rfl, rfl, by decide +kernel, rfl, by decide +kernel, by decide +kernel⟩
def g_is_row : SF St2 :=
  (gSeq (gAsgT (asgT [2, 3, 4]) (xP (gVar 0)))
  (gSeq (gIfS (xtP (gOr (gNot (gTr (gCallP 3 F_is_whole (gCons (gVar 2) (gCons (gOp ixD (gVar 1) (gC (.int 0))) (gCons (gOp ixD (gVar 1) (gC (.int 0))) gNil)))))) (gOr (gNot (gTr (gIsi "str" (gVar 3)))) (gB (gOp neD (gVar 3) (gOp ixD (gVar 1) (gC (.int 1))))))))
  (gRet (oX (xP (gC (.bool false)))))
  gNext)
  (gSeq (gIfS (xtP (gOr (gNot (gTr (gIsi "tuple" (gVar 4)))) (gB (gOp neD (gCall (gCons (gVar 4) gNil) lenD) (gCall (gCons (gOp ixD (gVar 1) (gC (.int 2))) gNil) lenD)))))
  (gRet (oX (xP (gC (.bool false)))))
  gNext)
  (gRet (oX (xP (gCall (gCons (gL (gLc (gArgs (gCons (gVar 4) (gCons (gOp ixD (gVar 1) (gC (.int 2))) gNil)) zip2) [5, 6] (asgT [5, 6]) gYes (gCallP 3 F_is_whole (gCons (gVar 5) (gCons (gVar 6) (gCons (gVar 6) gNil)))))) gNil) allD)))))))
def F_is_row : List D → Option (MO St2) := runP 7 g_is_row
theorem ok_is_row {P : Program} {w : World} {K : PySem.W.Frag} {mg : Str → Option Value} {base : Heap} {f : Addr} {fd : FuncData} (Fn : Fun K "is_row" "is_row" st_is_row f fd) (c_is_whole : Cl P w K mg base 1 "is_whole" (spP K R2i 3 F_is_whole)) (m_all : mg "all" = none) (m_isinstance : mg "isinstance" = none) (m_len : mg "len" = none) (m_str : mg "str" = none) (m_tuple : mg "tuple" = none) (m_zip : mg "zip" = none) :
    FnG P w K mg base CX0 2 f fd ["row", "due"] (spP K R2i 2 F_is_row) := fn_P (k := 1) (N := N_is_row) (g := g_is_row) Fn sc_is_row fun cdv A outer s H E hr hgd => by
  have nd : N_is_row.Nodup := sc_is_row.nd
  unfold g_is_row
  exact (ss_seq (ss_asgT (tgd_tup (is := [2, 3, 4])) (notin_own (own := [2, 3, 4]) (own_tup (by decide)) (by decide)) (ex_P (ep_var (pv 0))) (pg_tup rfl (pgs_cons (pg_name (i := 2) nd rfl (Or.inl rfl)) (pgs_cons (pg_name (i := 3) nd rfl (Or.inl rfl)) (pgs_cons (pg_name (i := 4) nd rfl (Or.inl rfl)) pgs_nil)))))
  (ss_seq (ss_if (xt_P (PW.pt (tw_or (tp_not (tp_tr (cp_call c_is_whole (by decide) hr hgd (by rfl) (ap_cons (ep_var (pv 2)) (ap_cons (ep_ix ix_seq d_ix (ep_var (pv 1)) ep_int (fun _ _ => rfl)) (ap_cons (ep_ix ix_seq d_ix (ep_var (pv 1)) ep_int (fun _ _ => rfl)) ap_nil)))))) (tw_or (tp_not (tp_tr (ep_isi (v2 := .none) (by rfl) m_isinstance (ep_var (pv 3)) (pe_bltn (by rfl) m_str (by decide +kernel) rfl)))) (tw_or1 (tp_cmp (o_ne (room_u hr (by decide))) d_ne (ep_var (pv 3)) (ep_ix ix_seq d_ix (ep_var (pv 1)) ep_int (fun _ _ => rfl)) rfl))))))
  (ss_one (ss_ret (eo_X (ex_P ep_bl))))
  ss_nil)
  (ss_seq (ss_if (xt_P (PW.pt (tw_or (tp_not (tp_tr (ep_isi (v2 := .none) (by rfl) m_isinstance (ep_var (pv 4)) (pe_bltn (by rfl) m_tuple (by decide +kernel) rfl)))) (tw_or1 (tp_cmp (o_ne (room_u hr (by decide))) d_ne (ep_cb call_len d_len (by rfl) m_len (by decide +kernel) (ap_cons (ep_var (pv 4)) ap_nil)) (ep_cb call_len d_len (by rfl) m_len (by decide +kernel) (ap_cons (ep_ix ix_seq d_ix (ep_var (pv 1)) ep_int (fun _ _ => rfl)) ap_nil)) rfl)))))
  (ss_one (ss_ret (eo_X (ex_P ep_bl))))
  ss_nil)
  (ss_one (ss_ret (eo_X (ex_P (ep_cb (cr_all rfl) d_all (by rfl) m_all (by decide +kernel) (ap_cons (ep_f (ef_lc (own := [("one", 5), ("other", 6)]) (tgd_tup (is := [5, 6])) (own_tup (by decide)) rfl nd (pi_zp (by rfl) m_zip (ap_cons (ep_var (pv 4)) (ap_cons (ep_ix ix_seq d_ix (ep_var (pv 1)) ep_int (fun _ _ => rfl)) ap_nil))) (blkOk_by (N := N_is_row) (sc := defScope st_is_row) (by decide +kernel)) (fun _ _ _ _ _ => (pg_tup rfl (pgs_cons (pg_name (i := 5) nd rfl (Or.inl rfl)) (pgs_cons (pg_name (i := 6) nd rfl (Or.inl rfl)) pgs_nil)))) (fun _ _ _ _ _ => pts_yes) (fun _ _ _ _ _ => (cp_call c_is_whole (by decide) hr hgd (by rfl) (ap_cons (ep_var (pv 5)) (ap_cons (ep_var (pv 6)) (ap_cons (ep_var (pv 6)) ap_nil))))))) ap_nil)))))))))
abbrev st_BadHistory___init__ : Stmt := inClass (top 4) 0
abbrev N_BadHistory___init__ : List Str := ["self", "row"]
theorem sc_BadHistory___init__ : FnScope N_BadHistory___init__ ["self", "row"] (defScope st_BadHistory___init__) := ⟨rfl, rfl, rfl, by decide +kernel, rfl, by decide +kernel, by decide +kernel⟩
theorem ok_BadHistory___init__ {P : Program} {w : World} {K : PySem.W.Frag} {mg : Str → Option Value} {base : Heap} {f M : Addr} {fd : FuncData} {mc : Value} (Fn : Fun K "__init__" "BadHistory.__init__" st_BadHistory___init__ f fd) (hm : mg "MarketError" = some (.ref M)) (hga : PySem.W.specialIn K (.ref M) "__getattribute__" = some (some (.builtin "type.__getattribute__"))) (hrd : PySem.W.readsIn K M mc = true)
    (vV : PySem.W.findCls K (.ref M) mc "__init__" = some (.val (.builtin "ValueError.__init__"))) : FnOk P w K mg base CX0 1 f fd ["self", "row"] (spInit K "row") := by
  refine Fn.ok sc_BadHistory___init__ (fun vs H Q E h => by obtain ⟨a, C, v, rfl, _⟩ := h; rfl) (fun cdv A outer s H vs Q E hr h => ⟨_, pss_cons (ps_expr (pe_meinit (by rfl) hm hga hrd vV (by exact (pa_cons (pv 0) (pa_cons pe_str pa_nil))))) (pss_one (ps_ost (pv 0) (pv 1))), ?_⟩)
  obtain ⟨a, C, v, rfl, T, fno, ea, k⟩ := h
  exact ⟨_, rfl, a, C, _, rfl, by decide, T, ea, _, rfl, _, rfl, a, C, rfl, T, fno, .inl ⟨ea, k⟩⟩
abbrev st_check_rows : Stmt := top 22
abbrev N_check_rows : List Str := ["rules", "line", "rows", "due", "place", "row"]
theorem sc_check_rows : FnScope N_check_rows ["rules", "line", "rows"] (defScope st_check_rows) := ⟨rfl, rfl, rfl, by decide +kernel, rfl, by decide +kernel, by decide +kernel⟩
def g_check_rows : SFX St2 :=
  (gSeqX (gAsgE 3 (eCall 2 FX_rows_by (xCons (xP (gVar 0)) (xCons (xP (gVar 1)) xNil))))
  (gSeqX (gIfX (xtP (gOr (gNot (gTr (gIsi "list" (gVar 2)))) (gNot (gTr (gCall (gCons (gL (gLc (gSrc (gVar 2)) [5] (asgN 5) gYes (gAndV (gIsi "tuple" (gVar 5)) (gOp eqD (gCall (gCons (gVar 5) gNil) lenD) (gC (.int 3)))))) gNil) allD)))))
  (gRaiseF "BadHistory" "row" (xCons (xP (gC .none)) xNil))
  gNextX)
  (gSeqX (gForX (eL (xiP (gArgs (gCons (gVar 2) gNil) enum2))) (asgT [4, 5])
  (gIfX (xtP (gOr (gB (gOp geD (gVar 4) (gCall (gCons (gVar 3) gNil) lenD))) (gNot (gTr (gCallP 2 F_is_row (gCons (gVar 5) (gCons (gOp ixD (gVar 3) (gVar 4)) gNil)))))))
  (gRaiseF "BadHistory" "row" (xCons (xP (gVar 4)) xNil))
  gNextX))
  (gIfX (xtP (gB (gOp ltD (gCall (gCons (gVar 2) gNil) lenD) (gCall (gCons (gVar 3) gNil) lenD))))
  (gRaiseF "BadHistory" "row" (xCons (xP (gCall (gCons (gVar 2) gNil) lenD)) xNil))
  gNextX))))
def FX_check_rows : List D → Option (Except Exc (MO St2)) := runPX 6 g_check_rows
def F_check_rows : List D → Option (MO St2) := fun as => okX (FX_check_rows as)
theorem ok_check_rows {P : Program} {w : World} {K : PySem.W.Frag} {mg : Str → Option Value} {base : Heap} {f : Addr} {fd : FuncData} (Fn : Fun K "check_rows" "check_rows" st_check_rows f fd) (c_is_row : Cl P w K mg base 2 "is_row" (spP K R2i 2 F_is_row)) (m_all : mg "all" = none) (m_enumerate : mg "enumerate" = none) (m_isinstance : mg "isinstance" = none) (m_len : mg "len" = none) (m_list : mg "list" = none) (m_tuple : mg "tuple" = none) (cx_rows_by : ClX P w K R2i mg base 4 "rows_by" 2 FX_rows_by) (ef_BadHistory : ExcF P w K mg base 1 "BadHistory" "row") :
    FnG P w K mg base (CX P w) 5 f fd ["rules", "line", "rows"] (spPX K R2i mg 3 FX_check_rows) := fn_PX (k := 4) (N := N_check_rows) (g := g_check_rows) Fn sc_check_rows fun cdv A outer s H E hr hgd tk => by
  have nd : N_check_rows.Nodup := sc_check_rows.nd
  unfold g_check_rows
  exact (sx_seq (sx_setE (by decide) nd rfl (Or.inl rfl) (xe_call cx_rows_by (by decide) hr hgd (by rfl) tk (ax_cons (ex_P (ep_var (pv 0))) (ax_cons (ex_P (ep_var (pv 1))) ax_nil))))
  (sx_seq (sx_if (xt_P (PW.pt (tw_or (tp_not (tp_tr (ep_isi (v2 := .none) (by rfl) m_isinstance (ep_var (pv 2)) (pe_bltn (by rfl) m_list (by decide +kernel) rfl)))) (tw_or1 (tp_not (tp_tr (ep_cb (cr_all rfl) d_all (by rfl) m_all (by decide +kernel) (ap_cons (ep_f (ef_lc (own := [("row", 5)]) tgd_name (own_name (by decide)) rfl nd (pi_any (ep_var (pv 2))) (blkOk_by (N := N_check_rows) (sc := defScope st_check_rows) (by decide +kernel)) (fun _ _ _ _ _ => (pg_name (i := 5) nd rfl (Or.inl rfl))) (fun _ _ _ _ _ => pts_yes) (fun _ _ _ _ _ => (ep_and (ep_isi (v2 := .none) (by rfl) m_isinstance (ep_var (pv 5)) (pe_bltn (by rfl) m_tuple (by decide +kernel) rfl)) (ep_one (ep_cmp (o_eq (room_u hr (by decide))) d_eq (ep_cb call_len d_len (by rfl) m_len (by decide +kernel) (ap_cons (ep_var (pv 5)) ap_nil)) ep_int rfl)))))) ap_nil))))))))
  (sx_one (sx_raiseF rfl tk ef_BadHistory (by decide) hr (ax_cons (ex_P ep_non) ax_nil) (by rfl)))
  sx_nil)
  (sx_seq (sx_forB (passes_of rfl) (tgd_tup (is := [4, 5])) (notin_own (own := [4, 5]) (own_tup (by decide)) (by decide)) rfl (xi_LB (xi_P (pi_en2 (by rfl) m_enumerate (ap_cons (ep_var (pv 2)) ap_nil)))) (pg_tup rfl (pgs_cons (pg_name (i := 4) nd rfl (Or.inl rfl)) (pgs_cons (pg_name (i := 5) nd rfl (Or.inl rfl)) pgs_nil)))
  (sx_one (sx_if (xt_P (PW.pt (tw_or (tp_cmp o_ge d_ge (ep_var (pv 4)) (ep_cb call_len d_len (by rfl) m_len (by decide +kernel) (ap_cons (ep_var (pv 3)) ap_nil)) rfl) (tw_or1 (tp_not (tp_tr (cp_call c_is_row (by decide) hr hgd (by rfl) (ap_cons (ep_var (pv 5)) (ap_cons (ep_ix ix_seq d_ix (ep_var (pv 3)) (ep_var (pv 4)) (fun _ _ => rfl)) ap_nil)))))))))
  (sx_one (sx_raiseF rfl tk ef_BadHistory (by decide) hr (ax_cons (ex_P (ep_var (pv 4))) ax_nil) (by rfl)))
  sx_nil)))
  (sx_one (sx_if (xt_P (tp_cmp o_lt d_lt (ep_cb call_len d_len (by rfl) m_len (by decide +kernel) (ap_cons (ep_var (pv 2)) ap_nil)) (ep_cb call_len d_len (by rfl) m_len (by decide +kernel) (ap_cons (ep_var (pv 3)) ap_nil)) rfl))
  (sx_one (sx_raiseF rfl tk ef_BadHistory (by decide) hr (ax_cons (ex_P (ep_cb call_len d_len (by rfl) m_len (by decide +kernel) (ap_cons (ep_var (pv 2)) ap_nil))) ax_nil) (by rfl)))
  sx_nil)))))
abbrev st_law_next : Stmt := top 24
abbrev N_law_next : List Str := ["_law_state_here", "_law_many", "_law_cells", "_law_found", "_law_k", "_law_primes", "_law_cell", "_law_number"]
theorem sc_law_next : FnScope N_law_next ["_law_state_here", "_law_many"] (defScope st_law_next) := ⟨rfl, rfl, rfl, by decide +kernel, rfl, by decide +kernel, by decide +kernel⟩
def g_law_next : SF St2 :=
  (gSeq (gAsg 2 (oX (xDGetG 0 (gC (.str "cells")))))
  (gSeq (gWhile 64 (xtP (gAnd (gB (gOp eqD (gDGet 0 (gC (.str "left"))) (gC (.int 0)))) (gAnd (gB (gOp ltD (gDGet 0 (gC (.str "cell"))) (gCall (gCons (gVar 2) gNil) lenD))) (gB (gOp eqD (gOp modD (gOp ixD (gVar 2) (gC (.int 0))) (gC (.int 2))) (gC (.int 1)))))))
  (gSeq (gDPut 0 (xB (gOp divD (gCall (gCons (gOp ixD (gVar 2) (gDGet 0 (gC (.str "cell")))) gNil) absD) (gOp ixD (gL (gLst (gCons (gC (.int 1)) (gCons (gC (.int 2)) gNil)))) (gCall (gCons (gOp eqD (gDGet 0 (gC (.str "cell"))) (gC (.int 0))) gNil) intD)))) (gC (.str "left")))
  (gDPut 0 (xB (gOp addA (gDGet 0 (gC (.str "cell"))) (gC (.int 1)))) (gC (.str "cell")))))
  (gSeq (gIfS (xtP (gB (gOp gtD (gDGet 0 (gC (.str "left"))) (gC (.int 0)))))
  (gSeq (gAsg 3 (oX (xB (gOp modD (gDGet 0 (gC (.str "left"))) (gVar 1)))))
  (gSeq (gDPut 0 (xB (gOp divD (gDGet 0 (gC (.str "left"))) (gVar 1))) (gC (.str "left")))
  (gRet (oX (xP (gVar 3))))))
  gNext)
  (gSeq (gAsg 4 (oX (xB (gDGet 0 (gC (.str "at"))))))
  (gSeq (gDPut 0 (xP (gOp addA (gVar 4) (gC (.int 1)))) (gC (.str "at")))
  (gSeq (gAsg 5 (oX (xP (gL (gLst (gCons (gC (.int 2147483629)) (gCons (gC (.int 2147483587)) (gCons (gC (.int 2147483579)) (gCons (gC (.int 2147483563)) (gCons (gC (.int 2147483549)) (gCons (gC (.int 2147483543)) (gCons (gC (.int 2147483497)) gNil))))))))))))
  (gSeq (gAsg 6 (oX (xP (gIf (gB (gOp eqD (gVar 2) (gL (gLst gNil)))) (gC (.int 5)) (gOp modD (gOp ixD (gVar 2) (gOp modD (gVar 4) (gCall (gCons (gVar 2) gNil) lenD))) (gOp ixD (gVar 5) (gOp modD (gVar 4) (gC (.int 7)))))))))
  (gSeq (gAsg 7 (oX (xP (gOp modD (gOp addA (gOp addA (gOp addA (gOp mulD (gVar 6) (gOp addA (gC (.int 48271)) (gOp mulD (gC (.int 2)) (gVar 4)))) (gOp mulD (gOp mulD (gC (.int 69621)) (gVar 4)) (gVar 4))) (gOp mulD (gC (.int 7919)) (gVar 4))) (gC (.int 104729))) (gC (.int 2147483647))))))
  (gRet (oX (xP (gOp modD (gOp divD (gOp modD (gOp mulD (gVar 7) (gC (.int 40692))) (gC (.int 2147483629))) (gC (.int 7))) (gVar 1)))))))))))))
def F_law_next : List (Key × D) → List D → Option (MO St2 × List (Key × D)) := runV 8 g_law_next
theorem ok_law_next {P : Program} {w : World} {K : PySem.W.Frag} {mg : Str → Option Value} {base : Heap} {f : Addr} {fd : FuncData} (Fn : Fun K "_law_next" "_law_next" st_law_next f fd) (m_abs : mg "abs" = none) (m_int : mg "int" = none) (m_len : mg "len" = none) :
    FnG P w K mg base CX0 1 f fd ["_law_state_here", "_law_many"] (spV K R2i 2 F_law_next) := fn_V (k := 0) (N := N_law_next) (g := g_law_next) Fn sc_law_next fun cdv A outer s H E hr hgd => by
  have nd : N_law_next.Nodup := sc_law_next.nd
  unfold g_law_next
  exact (ss_seq (ss_set (by decide) nd rfl (Or.inl rfl) (eo_X (ex_dgetG (room_u hr (by decide)) (pv 0) ep_str (fun _ _ => rfl))))
  (ss_seq (ss_while (xt_P (PW.pt (tw_and (tp_cmp (o_eq (room_u hr (by decide))) d_eq (ep_dget (room_u hr (by decide)) (pv 0) ep_str (fun _ _ => rfl)) ep_int rfl) (tw_and (tp_cmp o_lt d_lt (ep_dget (room_u hr (by decide)) (pv 0) ep_str (fun _ _ => rfl)) (ep_cb call_len d_len (by rfl) m_len (by decide +kernel) (ap_cons (ep_var (pv 2)) ap_nil)) rfl) (tw_and1 (tp_cmp (o_eq (room_u hr (by decide))) d_eq (ep_bin op_mod d_mod (ep_ix ix_seq d_ix (ep_var (pv 2)) ep_int (fun _ _ => rfl)) ep_int) ep_int rfl))))))
  (ss_seq (ss_dput (room_u hr (by decide)) (pv 0) ep_str (ex_B (ep_bin op_fdivW d_div (ep_cb call_abs d_abs (by rfl) m_abs (by decide +kernel) (ap_cons (ep_ix ix_seq d_ix (ep_var (pv 2)) (ep_dget (room_u hr (by decide)) (pv 0) ep_str (fun _ _ => rfl)) (fun _ _ => rfl)) ap_nil)) (ep_ix ix_seq d_ix (ep_f (ef_lst (ap_cons ep_int (ap_cons ep_int ap_nil)))) (ep_ct call_int1 d_int (by rfl) m_int (by decide +kernel) (ap_cons (ep_cmp (o_eq (room_u hr (by decide))) d_eq (ep_dget (room_u hr (by decide)) (pv 0) ep_str (fun _ _ => rfl)) ep_int rfl) ap_nil)) (fun _ _ => rfl)))) rfl)
  (ss_one (ss_dput (room_u hr (by decide)) (pv 0) ep_str (ex_B (ep_bin o_addA d_addA (ep_dget (room_u hr (by decide)) (pv 0) ep_str (fun _ _ => rfl)) ep_int)) rfl))))
  (ss_seq (ss_if (xt_P (tp_cmp o_gt d_gt (ep_dget (room_u hr (by decide)) (pv 0) ep_str (fun _ _ => rfl)) ep_int rfl))
  (ss_seq (ss_set (by decide) nd rfl (Or.inl rfl) (eo_X (ex_B (ep_bin op_mod d_mod (ep_dget (room_u hr (by decide)) (pv 0) ep_str (fun _ _ => rfl)) (ep_var (pv 1))))))
  (ss_seq (ss_dput (room_u hr (by decide)) (pv 0) ep_str (ex_B (ep_bin op_fdivW d_div (ep_dget (room_u hr (by decide)) (pv 0) ep_str (fun _ _ => rfl)) (ep_var (pv 1)))) rfl)
  (ss_one (ss_ret (eo_X (ex_P (ep_var (pv 3))))))))
  ss_nil)
  (ss_seq (ss_set (by decide) nd rfl (Or.inl rfl) (eo_X (ex_B (ep_dget (room_u hr (by decide)) (pv 0) ep_str (fun _ _ => rfl)))))
  (ss_seq (ss_dput (room_u hr (by decide)) (pv 0) ep_str (ex_P (ep_bin o_addA d_addA (ep_var (pv 4)) ep_int)) rfl)
  (ss_seq (ss_set (by decide) nd rfl (Or.inl rfl) (eo_X (ex_P (ep_f (ef_lst (ap_cons ep_int (ap_cons ep_int (ap_cons ep_int (ap_cons ep_int (ap_cons ep_int (ap_cons ep_int (ap_cons ep_int ap_nil))))))))))))
  (ss_seq (ss_set (by decide) nd rfl (Or.inl rfl) (eo_X (ex_P (ep_if (tp_cmp (o_eq (room_u hr (by decide))) d_eq (ep_var (pv 2)) (ep_f (ef_lst ap_nil)) rfl) ep_int (ep_bin op_mod d_mod (ep_ix ix_seq d_ix (ep_var (pv 2)) (ep_bin op_mod d_mod (ep_var (pv 4)) (ep_cb call_len d_len (by rfl) m_len (by decide +kernel) (ap_cons (ep_var (pv 2)) ap_nil))) (fun _ _ => rfl)) (ep_ix ix_seq d_ix (ep_var (pv 5)) (ep_bin op_mod d_mod (ep_var (pv 4)) ep_int) (fun _ _ => rfl)))))))
  (ss_seq (ss_set (by decide) nd rfl (Or.inl rfl) (eo_X (ex_P (ep_bin op_mod d_mod (ep_bin o_addA d_addA (ep_bin o_addA d_addA (ep_bin o_addA d_addA (ep_bin op_mul d_mul (ep_var (pv 6)) (ep_bin o_addA d_addA ep_int (ep_bin op_mul d_mul ep_int (ep_var (pv 4))))) (ep_bin op_mul d_mul (ep_bin op_mul d_mul ep_int (ep_var (pv 4))) (ep_var (pv 4)))) (ep_bin op_mul d_mul ep_int (ep_var (pv 4)))) ep_int) ep_int))))
  (ss_one (ss_ret (eo_X (ex_P (ep_bin op_mod d_mod (ep_bin op_fdivW d_div (ep_bin op_mod d_mod (ep_bin op_mul d_mul (ep_var (pv 7)) ep_int) ep_int) ep_int) (ep_var (pv 1)))))))))))))))
abbrev st_law_state : Stmt := top 25
abbrev N_law_state : List Str := ["_law_cells"]
theorem sc_law_state : FnScope N_law_state ["_law_cells"] (defScope st_law_state) := ⟨rfl, rfl, rfl, by decide +kernel, rfl, by decide +kernel, by decide +kernel⟩
def g_law_state : SF St2 :=
  (gRet (oDict4 "cells" "at" "cell" "left" (gVar 0) (0) (0) (0)))
def F_law_state : List D → Option (MO St2) := runP 1 g_law_state
theorem ok_law_state {P : Program} {w : World} {K : PySem.W.Frag} {mg : Str → Option Value} {base : Heap} {f : Addr} {fd : FuncData} (Fn : Fun K "_law_state" "_law_state" st_law_state f fd) :
    FnG P w K mg base CX0 1 f fd ["_law_cells"] (spP K R2i 1 F_law_state) := fn_P (k := 0) (N := N_law_state) (g := g_law_state) Fn sc_law_state fun cdv A outer s H E hr hgd => by
  have nd : N_law_state.Nodup := sc_law_state.nd
  unfold g_law_state
  exact (ss_one (ss_ret (eo_dict4 pe_str (ep_var (pv 0)) pe_str pe_int pe_str pe_int pe_str pe_int)))
abbrev st_law_rules : Stmt := top 26
abbrev N_law_rules : List Str := ["_law_state_here", "_law_earn", "_law_of", "_law_miss"]
theorem sc_law_rules : FnScope N_law_rules ["_law_state_here"] (defScope st_law_rules) := ⟨rfl, rfl, rfl, by decide +kernel, rfl, by decide +kernel, by decide +kernel⟩
def g_law_rules : SF St2 :=
  (gSeq (gAsg 1 (oX (xOp addA (xP (gC (.int 1))) (xO (oCallV 2 0 F_law_next (xCons (xOp ixD (xP (gL (gLst (gCons (gC (.int 3)) (gCons (gC (.int 20)) gNil))))) (xOp divD (xO (oCallV 2 0 F_law_next (xCons (xP (gC (.int 6))) xNil))) (xP (gC (.int 5))))) xNil))))))
  (gSeq (gAsg 2 (oX (xCall (xCons (xP (gC (.int 30))) (xCons (xOp addA (xP (gVar 1)) (xO (oCallV 2 0 F_law_next (xCons (xOp ixD (xP (gL (gLst (gCons (gC (.int 4)) (gCons (gC (.int 30)) gNil))))) (xOp divD (xO (oCallV 2 0 F_law_next (xCons (xP (gC (.int 6))) xNil))) (xP (gC (.int 5))))) xNil)))) xNil)) min2)))
  (gSeq (gAsg 3 (oX (xOp addA (xP (gC (.int 1))) (xO (oCallV 2 0 F_law_next (xCons (xOp ixD (xP (gL (gLst (gCons (gC (.int 3)) (gCons (gC (.int 10)) gNil))))) (xOp divD (xO (oCallV 2 0 F_law_next (xCons (xP (gC (.int 6))) xNil))) (xP (gC (.int 5))))) xNil))))))
  (gRet (oX (xTup (xCons (xP (gVar 1)) (xCons (xP (gVar 2)) (xCons (xP (gVar 3)) (xCons (xO (oCallV 2 0 F_law_next (xCons (xOp ixD (xP (gL (gLst (gCons (gC (.int 3)) (gCons (gC (.int 21)) gNil))))) (xOp divD (xO (oCallV 2 0 F_law_next (xCons (xP (gC (.int 6))) xNil))) (xP (gC (.int 5))))) xNil))) xNil))))))))))
def F_law_rules : List (Key × D) → List D → Option (MO St2 × List (Key × D)) := runV 4 g_law_rules
theorem ok_law_rules {P : Program} {w : World} {K : PySem.W.Frag} {mg : Str → Option Value} {base : Heap} {f : Addr} {fd : FuncData} (Fn : Fun K "_law_rules" "_law_rules" st_law_rules f fd) (c_law_next : Cl P w K mg base 1 "_law_next" (spV K R2i 2 F_law_next)) (m_min : mg "min" = none) :
    FnG P w K mg base CX0 2 f fd ["_law_state_here"] (spV K R2i 1 F_law_rules) := fn_V (k := 1) (N := N_law_rules) (g := g_law_rules) Fn sc_law_rules fun cdv A outer s H E hr hgd => by
  have nd : N_law_rules.Nodup := sc_law_rules.nd
  unfold g_law_rules
  exact (ss_seq (ss_set (by decide) nd rfl (Or.inl rfl) (eo_X (ex_bin o_addA d_addA (ex_P ep_int) (ex_O (co_callV c_law_next (by decide) hr hgd (by rfl) (pv 0) (ax_cons (ex_ix ix_seq d_ix (ex_P (ep_f (ef_lst (ap_cons ep_int (ap_cons ep_int ap_nil))))) (ex_bin op_fdivW d_div (ex_O (co_callV c_law_next (by decide) hr hgd (by rfl) (pv 0) (ax_cons (ex_P ep_int) ax_nil))) (ex_P ep_int)) (fun _ _ => rfl)) ax_nil))))))
  (ss_seq (ss_set (by decide) nd rfl (Or.inl rfl) (eo_X (ex_cb (call_min2 rfl) d_min2 (by rfl) m_min (by decide +kernel) (ax_cons (ex_P ep_int) (ax_cons (ex_bin o_addA d_addA (ex_P (ep_var (pv 1))) (ex_O (co_callV c_law_next (by decide) hr hgd (by rfl) (pv 0) (ax_cons (ex_ix ix_seq d_ix (ex_P (ep_f (ef_lst (ap_cons ep_int (ap_cons ep_int ap_nil))))) (ex_bin op_fdivW d_div (ex_O (co_callV c_law_next (by decide) hr hgd (by rfl) (pv 0) (ax_cons (ex_P ep_int) ax_nil))) (ex_P ep_int)) (fun _ _ => rfl)) ax_nil)))) ax_nil)))))
  (ss_seq (ss_set (by decide) nd rfl (Or.inl rfl) (eo_X (ex_bin o_addA d_addA (ex_P ep_int) (ex_O (co_callV c_law_next (by decide) hr hgd (by rfl) (pv 0) (ax_cons (ex_ix ix_seq d_ix (ex_P (ep_f (ef_lst (ap_cons ep_int (ap_cons ep_int ap_nil))))) (ex_bin op_fdivW d_div (ex_O (co_callV c_law_next (by decide) hr hgd (by rfl) (pv 0) (ax_cons (ex_P ep_int) ax_nil))) (ex_P ep_int)) (fun _ _ => rfl)) ax_nil))))))
  (ss_one (ss_ret (eo_X (ex_tup (ax_cons (ex_P (ep_var (pv 1))) (ax_cons (ex_P (ep_var (pv 2))) (ax_cons (ex_P (ep_var (pv 3))) (ax_cons (ex_O (co_callV c_law_next (by decide) hr hgd (by rfl) (pv 0) (ax_cons (ex_ix ix_seq d_ix (ex_P (ep_f (ef_lst (ap_cons ep_int (ap_cons ep_int ap_nil))))) (ex_bin op_fdivW d_div (ex_O (co_callV c_law_next (by decide) hr hgd (by rfl) (pv 0) (ax_cons (ex_P ep_int) ax_nil))) (ex_P ep_int)) (fun _ _ => rfl)) ax_nil))) ax_nil)))))))))))
abbrev st_law_stands : Stmt := top 27
abbrev N_law_stands : List Str := ["_law_rules_here", "_law_line_here", "_law_row"]
theorem sc_law_stands : FnScope N_law_stands ["_law_rules_here", "_law_line_here"] (defScope st_law_stands) := ⟨rfl, rfl, rfl, by decide +kernel, rfl, by decide +kernel, by decide +kernel⟩
def g_law_stands : SF St2 :=
  (gRet (oX (xP (gOp eqD (gSlA (gL (gLc (gSrc (gCallP 2 F_rows_by (gCons (gVar 0) (gCons (gVar 1) gNil)))) [2] (asgN 2) gYes (gOp ixD (gVar 2) (gC (.int 1))))) (gPart (gUn negD (gC (.int 1)))) gNoPart) (gL (gLst (gCons (gC (.str "earned")) gNil)))))))
def F_law_stands : List D → Option (MO St2) := runP 3 g_law_stands
theorem ok_law_stands {P : Program} {w : World} {K : PySem.W.Frag} {mg : Str → Option Value} {base : Heap} {f : Addr} {fd : FuncData} (Fn : Fun K "_law_stands" "_law_stands" st_law_stands f fd) (c_rows_by : Cl P w K mg base 4 "rows_by" (spP K R2i 2 F_rows_by)) :
    FnG P w K mg base CX0 5 f fd ["_law_rules_here", "_law_line_here"] (spP K R2i 2 F_law_stands) := fn_P (k := 4) (N := N_law_stands) (g := g_law_stands) Fn sc_law_stands fun cdv A outer s H E hr hgd => by
  have nd : N_law_stands.Nodup := sc_law_stands.nd
  unfold g_law_stands
  exact (ss_one (ss_ret (eo_X (ex_P (ep_cmp (o_eq (room_u hr (by decide))) d_eq (ep_slA (ep_f (ef_lc (own := [("_law_row", 2)]) tgd_name (own_name (by decide)) rfl nd (pi_any (cp_call c_rows_by (by decide) hr hgd (by rfl) (ap_cons (ep_var (pv 0)) (ap_cons (ep_var (pv 1)) ap_nil)))) (blkOk_by (N := N_law_stands) (sc := defScope st_law_stands) (by decide +kernel)) (fun _ _ _ _ _ => (pg_name (i := 2) nd rfl (Or.inl rfl))) (fun _ _ _ _ _ => pts_yes) (fun _ _ _ _ _ => (ep_ix ix_seq d_ix (ep_var (pv 2)) ep_int (fun _ _ => rfl))))) (op_part (ep_un un_neg d_neg ep_int)) op_no) (ep_f (ef_lst (ap_cons ep_str ap_nil))) rfl)))))
abbrev st_law_line : Stmt := top 28
abbrev N_law_line : List Str := ["_law_state_here", "_law_rules_here", "_law_many", "_law_found", "_law_mood", "_law_day", "_law_k", "_law_words"]
theorem sc_law_line : FnScope N_law_line ["_law_state_here", "_law_rules_here", "_law_many"] (defScope st_law_line) := ⟨rfl, rfl, rfl, by decide +kernel, rfl, by decide +kernel, by decide +kernel⟩
def g_law_line : SF St2 :=
  (gSeq (gAsgT (asgT [3, 4]) (xP (gTup (gCons (gTup gNil) (gCons (gC (.int 0)) gNil)))))
  (gSeq (gAsg 5 (oX (xO (oCallV 2 0 F_law_next (xCons (xOp ixD (xP (gL (gLst (gCons (gC (.int 4)) (gCons (gC (.int 2000)) gNil))))) (xOp divD (xO (oCallV 2 0 F_law_next (xCons (xP (gC (.int 6))) xNil))) (xP (gC (.int 5))))) xNil)))))
  (gSeq (gFor (xiP (gArgs (gCons (gVar 2) gNil) rng1)) (asgN 6)
  (gSeq (gIfS (xBool (xOp eqD (xO (oCallV 2 0 F_law_next (xCons (xP (gC (.int 5))) xNil))) (xP (gC (.int 0)))))
  (gAsg 4 (oX (xO (oCallV 2 0 F_law_next (xCons (xP (gC (.int 5))) xNil)))))
  gNext)
  (gSeq (gAsg 7 (oX (xP (gOp ixD (gL (gLst (gCons (gL (gLst (gCons (gC (.str "came")) gNil))) (gCons (gL (gLst (gCons (gC (.str "came")) (gCons (gC (.str "came")) (gCons (gC (.str "told")) gNil))))) (gCons (gL (gLst (gCons (gC (.str "told")) gNil))) (gCons (gL (gLst (gCons (gC (.str "missed")) gNil))) (gCons (gL (gLst (gCons (gC (.str "came")) (gCons (gC (.str "told")) (gCons (gC (.str "missed")) gNil))))) gNil))))))) (gVar 4)))))
  (gSeq (gIfS (xAnd (xBool (xOp eqD (xO (oCallV 2 0 F_law_next (xCons (xP (gC (.int 12))) xNil))) (xP (gC (.int 0))))) (xtP (gTr (gCallP 2 F_law_stands (gCons (gVar 1) (gCons (gVar 3) gNil))))))
  (gAsg 3 (oX (xP (gOp addA (gVar 3) (gTup (gCons (gTup (gCons (gVar 5) (gCons (gC (.str "given")) gNil))) gNil))))))
  gNext)
  (gSeq (gIfS (xOr (xtP (gB (gOp neD (gSlA (gVar 3) (gPart (gUn negD (gC (.int 1)))) gNoPart) (gTup (gCons (gTup (gCons (gVar 5) (gCons (gC (.str "given")) gNil))) gNil))))) (xBool (xOp gtD (xO (oCallV 2 0 F_law_next (xCons (xP (gC (.int 3))) xNil))) (xP (gC (.int 0))))))
  (gAsg 3 (oX (xOp addA (xP (gVar 3)) (xTup (xCons (xTup (xCons (xP (gVar 5)) (xCons (xOp ixD (xP (gVar 7)) (xO (oCallV 2 0 F_law_next (xCons (xP (gCall (gCons (gVar 7) gNil) lenD)) xNil)))) xNil))) xNil)))))
  gNext)
  (gAsg 5 (oX (xOp addA (xP (gOp addA (gVar 5) (gC (.int 1)))) (xO (oCallV 2 0 F_law_next (xCons (xOp ixD (xP (gL (gLst (gCons (gC (.int 1)) (gCons (gC (.int 3)) gNil))))) (xO (oCallV 2 0 F_law_next (xCons (xP (gC (.int 2))) xNil)))) xNil)))))))))))
  (gRet (oX (xOp addA (xP (gVar 3)) (xOp repTB (xP (gTup (gCons (gTup (gCons (gVar 5) (gCons (gC (.str "struck")) gNil))) gNil))) (xCall (xCons (xOp eqD (xO (oCallV 2 0 F_law_next (xCons (xP (gC (.int 4))) xNil))) (xP (gC (.int 0)))) xNil) intD))))))))
def F_law_line : List (Key × D) → List D → Option (MO St2 × List (Key × D)) := runV 8 g_law_line
theorem ok_law_line {P : Program} {w : World} {K : PySem.W.Frag} {mg : Str → Option Value} {base : Heap} {f : Addr} {fd : FuncData} (Fn : Fun K "_law_line" "_law_line" st_law_line f fd) (c_law_next : Cl P w K mg base 1 "_law_next" (spV K R2i 2 F_law_next)) (c_law_stands : Cl P w K mg base 5 "_law_stands" (spP K R2i 2 F_law_stands)) (m_int : mg "int" = none) (m_len : mg "len" = none) (m_range : mg "range" = none) :
    FnG P w K mg base CX0 6 f fd ["_law_state_here", "_law_rules_here", "_law_many"] (spV K R2i 3 F_law_line) := fn_V (k := 5) (N := N_law_line) (g := g_law_line) Fn sc_law_line fun cdv A outer s H E hr hgd => by
  have nd : N_law_line.Nodup := sc_law_line.nd
  unfold g_law_line
  exact (ss_seq (ss_asgT (tgd_tup (is := [3, 4])) (notin_own (own := [3, 4]) (own_tup (by decide)) (by decide)) (ex_P (ep_tup (ap_cons (ep_tup ap_nil) (ap_cons ep_int ap_nil)))) (pg_tup rfl (pgs_cons (pg_name (i := 3) nd rfl (Or.inl rfl)) (pgs_cons (pg_name (i := 4) nd rfl (Or.inl rfl)) pgs_nil))))
  (ss_seq (ss_set (by decide) nd rfl (Or.inl rfl) (eo_X (ex_O (co_callV c_law_next (by decide) hr hgd (by rfl) (pv 0) (ax_cons (ex_ix ix_seq d_ix (ex_P (ep_f (ef_lst (ap_cons ep_int (ap_cons ep_int ap_nil))))) (ex_bin op_fdivW d_div (ex_O (co_callV c_law_next (by decide) hr hgd (by rfl) (pv 0) (ax_cons (ex_P ep_int) ax_nil))) (ex_P ep_int)) (fun _ _ => rfl)) ax_nil)))))
  (ss_seq (ss_for tgd_name (notin_own (own := [6]) (own_name (by decide)) (by decide)) rfl (xi_P (pi_r1 (by rfl) m_range (ap_cons (ep_var (pv 2)) ap_nil))) (pg_name (i := 6) nd rfl (Or.inl rfl))
  (ss_seq (ss_if (xt_cmp (o_eq (room_u hr (by decide))) d_eq (ex_O (co_callV c_law_next (by decide) hr hgd (by rfl) (pv 0) (ax_cons (ex_P ep_int) ax_nil))) (ex_P ep_int) rfl)
  (ss_one (ss_set (by decide) nd rfl (Or.inl rfl) (eo_X (ex_O (co_callV c_law_next (by decide) hr hgd (by rfl) (pv 0) (ax_cons (ex_P ep_int) ax_nil))))))
  ss_nil)
  (ss_seq (ss_set (by decide) nd rfl (Or.inl rfl) (eo_X (ex_P (ep_ix ix_seq d_ix (ep_f (ef_lst (ap_cons (ep_f (ef_lst (ap_cons ep_str ap_nil))) (ap_cons (ep_f (ef_lst (ap_cons ep_str (ap_cons ep_str (ap_cons ep_str ap_nil))))) (ap_cons (ep_f (ef_lst (ap_cons ep_str ap_nil))) (ap_cons (ep_f (ef_lst (ap_cons ep_str ap_nil))) (ap_cons (ep_f (ef_lst (ap_cons ep_str (ap_cons ep_str (ap_cons ep_str ap_nil))))) ap_nil))))))) (ep_var (pv 4)) (fun _ _ => rfl)))))
  (ss_seq (ss_if (PW.pt (xw_and (xt_cmp (o_eq (room_u hr (by decide))) d_eq (ex_O (co_callV c_law_next (by decide) hr hgd (by rfl) (pv 0) (ax_cons (ex_P ep_int) ax_nil))) (ex_P ep_int) rfl) (xw_and1 (xt_P (tp_tr (cp_call c_law_stands (by decide) hr hgd (by rfl) (ap_cons (ep_var (pv 1)) (ap_cons (ep_var (pv 3)) ap_nil))))))))
  (ss_one (ss_set (by decide) nd rfl (Or.inl rfl) (eo_X (ex_P (ep_bin o_addA d_addA (ep_var (pv 3)) (ep_tup (ap_cons (ep_tup (ap_cons (ep_var (pv 5)) (ap_cons ep_str ap_nil))) ap_nil)))))))
  ss_nil)
  (ss_seq (ss_if (PW.pt (xw_or (xt_P (tp_cmp (o_ne (room_u hr (by decide))) d_ne (ep_slA (ep_var (pv 3)) (op_part (ep_un un_neg d_neg ep_int)) op_no) (ep_tup (ap_cons (ep_tup (ap_cons (ep_var (pv 5)) (ap_cons ep_str ap_nil))) ap_nil)) rfl)) (xw_or1 (xt_cmp o_gt d_gt (ex_O (co_callV c_law_next (by decide) hr hgd (by rfl) (pv 0) (ax_cons (ex_P ep_int) ax_nil))) (ex_P ep_int) rfl))))
  (ss_one (ss_set (by decide) nd rfl (Or.inl rfl) (eo_X (ex_bin o_addA d_addA (ex_P (ep_var (pv 3))) (ex_tup (ax_cons (ex_tup (ax_cons (ex_P (ep_var (pv 5))) (ax_cons (ex_ix ix_seq d_ix (ex_P (ep_var (pv 7))) (ex_O (co_callV c_law_next (by decide) hr hgd (by rfl) (pv 0) (ax_cons (ex_P (ep_cb call_len d_len (by rfl) m_len (by decide +kernel) (ap_cons (ep_var (pv 7)) ap_nil))) ax_nil))) (fun _ _ => rfl)) ax_nil))) ax_nil))))))
  ss_nil)
  (ss_one (ss_set (by decide) nd rfl (Or.inl rfl) (eo_X (ex_bin o_addA d_addA (ex_P (ep_bin o_addA d_addA (ep_var (pv 5)) ep_int)) (ex_O (co_callV c_law_next (by decide) hr hgd (by rfl) (pv 0) (ax_cons (ex_ix ix_seq d_ix (ex_P (ep_f (ef_lst (ap_cons ep_int (ap_cons ep_int ap_nil))))) (ex_O (co_callV c_law_next (by decide) hr hgd (by rfl) (pv 0) (ax_cons (ex_P ep_int) ax_nil))) (fun _ _ => rfl)) ax_nil))))))))))))
  (ss_one (ss_ret (eo_X (ex_bin o_addA d_addA (ex_P (ep_var (pv 3))) (ex_bin op_timesB d_repTB (ex_P (ep_tup (ap_cons (ep_tup (ap_cons (ep_var (pv 5)) (ap_cons ep_str ap_nil))) ap_nil))) (ex_ct call_int1 d_int (by rfl) m_int (by decide +kernel) (ax_cons (ex_cmp (o_eq (room_u hr (by decide))) d_eq (ex_O (co_callV c_law_next (by decide) hr hgd (by rfl) (pv 0) (ax_cons (ex_P ep_int) ax_nil))) (ex_P ep_int) rfl) ax_nil))))))))))
abbrev st_law_refused : Stmt := top 29
abbrev N_law_refused : List Str := ["_law_rules_here", "_law_line_here", "_law_rows", "_law_found", "e"]
theorem sc_law_refused : FnScope N_law_refused ["_law_rules_here", "_law_line_here", "_law_rows"] (defScope st_law_refused) := ⟨rfl, rfl, rfl, by decide +kernel, rfl, by decide +kernel, by decide +kernel⟩
def g_law_refused : SF Exc :=
  (gSeq (gAsg 3 (oX (xP (gUn negD (gC (.int 1))))))
  (gTryF ["BadHistory"] 4 3 "row"
  (gDropX 3 (fun as => (FX_check_rows as).bind toXE) (xCons (xP (gVar 0)) (xCons (xP (gVar 1)) (xCons (xP (gVar 2)) xNil))))
  (gRet (oX (xP (gVar 3))))))
def F_law_refused : List D → Option (MO St2) := fun as => (runP 5 g_law_refused as).bind toM2
theorem ok_law_refused {P : Program} {w : World} {K : PySem.W.Frag} {mg : Str → Option Value} {base : Heap} {f : Addr} {fd : FuncData} {c_BadHistory : Addr} (Fn : Fun K "_law_refused" "_law_refused" st_law_refused f fd) (cx_check_rows : ClX P w K R2i mg base 5 "check_rows" 3 FX_check_rows) (x_BadHistory : mg "BadHistory" = some (.ref c_BadHistory)) (fl_row : ∀ x ∈ (["BadHistory"] : List Str), FldT K mg "row" x) (kn_ok : ∀ e ∈ (["BadHistory"] : List Str), ∃ C, mg e = some (.ref C) ∧ PySem.W.exmOne K (.ref C) (.ref c_BadHistory) = some true) :
    FnG P w K mg base CX0 6 f fd ["_law_rules_here", "_law_line_here", "_law_rows"] (spP K R2i 3 F_law_refused) := fnE (fn_P (k := 5) (N := N_law_refused) (g := g_law_refused) Fn sc_law_refused fun cdv A outer s H E hr hgd => by
  have nd : N_law_refused.Nodup := sc_law_refused.nd
  unfold g_law_refused
  exact (ss_seq (ss_set (by decide) nd rfl (Or.inl rfl) (eo_X (ex_P (ep_un un_neg d_neg ep_int))))
  (ss_tryF (i := 4) (j := 3) rfl rfl nd rfl rfl ⟨by rfl, by decide +kernel, .inl x_BadHistory⟩ (by decide) kn_ok
  (fun W pn xe tk po => (sx_one (sx_drop (clXE cx_check_rows) (by decide) hr hgd (by rfl) tk (ax_cons (ex_P (ep_var (pv 0))) (ax_cons (ex_P (ep_var (pv 1))) (ax_cons (ex_P (ep_var (pv 2))) ax_nil))))))
  (fun a oe cls d pn hz hf => ss_set (by decide) nd rfl (Or.inl rfl) (eo_X (ex_fldE fl_row hz hf (.inl (List.mem_cons_self ..)) (pv 4))))
  (fun a oe cls d pn hz hf => (ss_one (ss_ret (eo_X (ex_P (ep_var (pv 3)))))))
  (ss_one (ss_ret (eo_X (ex_P (ep_var (pv 3)))))))))
abbrev st_law_is_no_line : Stmt := top 30
abbrev N_law_is_no_line : List Str := ["_law_rules_here", "_law_line_here"]
theorem sc_law_is_no_line : FnScope N_law_is_no_line ["_law_rules_here", "_law_line_here"] (defScope st_law_is_no_line) := ⟨rfl, rfl, rfl, by decide +kernel, rfl, by decide +kernel, by decide +kernel⟩
def g_law_is_no_line : SF St2 :=
  (gSeq (gTryC ["BadLineup"] (gDropX 2 FX_rows_by (xCons (xP (gVar 0)) (xCons (xP (gVar 1)) xNil)))
  (gRet (oX (xP (gC (.bool true))))))
  (gRet (oX (xP (gC (.bool false))))))
def F_law_is_no_line : List D → Option (MO St2) := runP 2 g_law_is_no_line
theorem ok_law_is_no_line {P : Program} {w : World} {K : PySem.W.Frag} {mg : Str → Option Value} {base : Heap} {f : Addr} {fd : FuncData} {c_BadLineup : Addr} (Fn : Fun K "_law_is_no_line" "_law_is_no_line" st_law_is_no_line f fd) (cx_rows_by : ClX P w K R2i mg base 4 "rows_by" 2 FX_rows_by) (x_BadLineup : mg "BadLineup" = some (.ref c_BadLineup)) (kn_ok : ∀ e ∈ (["BadLineup"] : List Str), ∃ C, mg e = some (.ref C) ∧ PySem.W.exmOne K (.ref C) (.ref c_BadLineup) = some true) :
    FnG P w K mg base CX0 5 f fd ["_law_rules_here", "_law_line_here"] (spP K R2i 2 F_law_is_no_line) := fn_P (k := 4) (N := N_law_is_no_line) (g := g_law_is_no_line) Fn sc_law_is_no_line fun cdv A outer s H E hr hgd => by
  have nd : N_law_is_no_line.Nodup := sc_law_is_no_line.nd
  unfold g_law_is_no_line
  exact (ss_seq (ss_tryC rfl rfl ⟨by rfl, by decide +kernel, .inl x_BadLineup⟩ kn_ok
  (fun W pn xe tk po => (sx_one (sx_drop cx_rows_by (by decide) hr hgd (by rfl) tk (ax_cons (ex_P (ep_var (pv 0))) (ax_cons (ex_P (ep_var (pv 1))) ax_nil)))))
  (fun a oe cls d pn => (ss_one (ss_ret (eo_X (ex_P ep_bl))))))
  (ss_one (ss_ret (eo_X (ex_P ep_bl)))))
abbrev st_law_cuts_right : Stmt := top 31
abbrev N_law_cuts_right : List Str := ["_law_state_here", "_law_rules_here", "_law_line_here", "_law_rows", "_law_cut", "_law_first", "_law_days", "_law_k", "_law_day", "_law_word", "_law_row"]
theorem sc_law_cuts_right : FnScope N_law_cuts_right ["_law_state_here", "_law_rules_here", "_law_line_here", "_law_rows"] (defScope st_law_cuts_right) := ⟨rfl, rfl, rfl, by decide +kernel, rfl, by decide +kernel, by decide +kernel⟩
def g_law_cuts_right : SF St2 :=
  (gSeq (gFor (xSrc (xOp addA (xP (gL (gLst (gCons (gCall (gCons (gVar 2) gNil) lenD) (gCons (gC (.int 0)) (gCons (gC (.int 1)) gNil)))))) (xO (xLc (xiP (gArgs (gCons (gC (.int 6)) gNil) rng1)) [7] (asgN 7) xYes (xO (oCallV 2 0 F_law_next (xCons (xP (gOp addA (gCall (gCons (gVar 2) gNil) lenD) (gC (.int 1)))) xNil))))))) (asgN 4)
  (gSeq (gAsg 5 (oX (xP (gCallP 2 F_rows_by (gCons (gVar 1) (gCons (gSlA (gVar 2) gNoPart (gPart (gVar 4))) gNil))))))
  (gSeq (gIfS (xtP (gB (gOp neD (gVar 5) (gSlA (gVar 3) gNoPart (gPart (gCall (gCons (gVar 5) gNil) lenD))))))
  (gRet (oX (xP (gC (.bool false)))))
  gNext)
  (gSeq (gAsg 6 (oX (xP (gL (gLc (gSrc (gSlA (gVar 2) gNoPart (gPart (gVar 4)))) [8, 9] (asgT [8, 9]) gYes (gVar 8))))))
  (gSeq (gIfS (xtP (gB (gOp neD (gL (gLc (gSrc (gVar 5)) [10] (asgN 10) (gB (gOp ninD (gOp ixD (gVar 10) (gC (.int 0))) (gVar 6))) (gVar 10))) (gL (gLst gNil)))))
  (gRet (oX (xP (gC (.bool false)))))
  gNext)
  (gIfS (xtP (gB (gOp neD (gL (gLc (gSrc (gSlA (gVar 3) (gPart (gCall (gCons (gVar 5) gNil) lenD)) gNoPart)) [10] (asgN 10) (gAnd (gB (gOp neD (gVar 6) (gL (gLst gNil)))) (gB (gOp ltD (gOp ixD (gVar 10) (gC (.int 0))) (gOp ixD (gVar 6) (gUn negD (gC (.int 1))))))) (gVar 10))) (gL (gLst gNil)))))
  (gRet (oX (xP (gC (.bool false)))))
  gNext))))))
  (gRet (oX (xP (gC (.bool true))))))
def F_law_cuts_right : List (Key × D) → List D → Option (MO St2 × List (Key × D)) := runV 11 g_law_cuts_right
theorem ok_law_cuts_right {P : Program} {w : World} {K : PySem.W.Frag} {mg : Str → Option Value} {base : Heap} {f : Addr} {fd : FuncData} (Fn : Fun K "_law_cuts_right" "_law_cuts_right" st_law_cuts_right f fd) (c_law_next : Cl P w K mg base 1 "_law_next" (spV K R2i 2 F_law_next)) (c_rows_by : Cl P w K mg base 4 "rows_by" (spP K R2i 2 F_rows_by)) (m_len : mg "len" = none) (m_range : mg "range" = none) :
    FnG P w K mg base CX0 5 f fd ["_law_state_here", "_law_rules_here", "_law_line_here", "_law_rows"] (spV K R2i 4 F_law_cuts_right) := fn_V (k := 4) (N := N_law_cuts_right) (g := g_law_cuts_right) Fn sc_law_cuts_right fun cdv A outer s H E hr hgd => by
  have nd : N_law_cuts_right.Nodup := sc_law_cuts_right.nd
  unfold g_law_cuts_right
  exact (ss_seq (ss_for tgd_name (notin_own (own := [4]) (own_name (by decide)) (by decide)) rfl (xi_any (ex_bin o_addA d_addA (ex_P (ep_f (ef_lst (ap_cons (ep_cb call_len d_len (by rfl) m_len (by decide +kernel) (ap_cons (ep_var (pv 2)) ap_nil)) (ap_cons ep_int (ap_cons ep_int ap_nil)))))) (ex_O (eo_lc (own := [("_law_k", 7)]) tgd_name (own_name (by decide)) rfl nd (xi_P (pi_r1 (by rfl) m_range (ap_cons ep_int ap_nil))) (blkOk_by (N := N_law_cuts_right) (sc := defScope st_law_cuts_right) (by decide +kernel)) (fun _ _ _ _ _ => (pg_name (i := 7) nd rfl (Or.inl rfl))) (fun _ _ _ _ _ => xts_yes) (fun _ _ _ _ _ => (ex_O (co_callV c_law_next (by decide) hr hgd (by rfl) (pv 0) (ax_cons (ex_P (ep_bin o_addA d_addA (ep_cb call_len d_len (by rfl) m_len (by decide +kernel) (ap_cons (ep_var (pv 2)) ap_nil)) ep_int)) ax_nil)))))))) (pg_name (i := 4) nd rfl (Or.inl rfl))
  (ss_seq (ss_set (by decide) nd rfl (Or.inl rfl) (eo_X (ex_P (cp_call c_rows_by (by decide) hr hgd (by rfl) (ap_cons (ep_var (pv 1)) (ap_cons (ep_slA (ep_var (pv 2)) op_no (op_part (ep_var (pv 4)))) ap_nil))))))
  (ss_seq (ss_if (xt_P (tp_cmp (o_ne (room_u hr (by decide))) d_ne (ep_var (pv 5)) (ep_slA (ep_var (pv 3)) op_no (op_part (ep_cb call_len d_len (by rfl) m_len (by decide +kernel) (ap_cons (ep_var (pv 5)) ap_nil)))) rfl))
  (ss_one (ss_ret (eo_X (ex_P ep_bl))))
  ss_nil)
  (ss_seq (ss_set (by decide) nd rfl (Or.inr rfl) (eo_X (ex_P (ep_f (ef_lc (own := [("_law_day", 8), ("_law_word", 9)]) (tgd_tup (is := [8, 9])) (own_tup (by decide)) rfl nd (pi_any (ep_slA (ep_var (pv 2)) op_no (op_part (ep_var (pv 4))))) (blkOk_by (N := N_law_cuts_right) (sc := defScope st_law_cuts_right) (by decide +kernel)) (fun _ _ _ _ _ => (pg_tup rfl (pgs_cons (pg_name (i := 8) nd rfl (Or.inl rfl)) (pgs_cons (pg_name (i := 9) nd rfl (Or.inl rfl)) pgs_nil)))) (fun _ _ _ _ _ => pts_yes) (fun _ _ _ _ _ => (ep_var (pv 8))))))))
  (ss_seq (ss_if (xt_P (tp_cmp (o_ne (room_u hr (by decide))) d_ne (ep_f (ef_lc (own := [("_law_row", 10)]) tgd_name (own_name (by decide)) rfl nd (pi_any (ep_var (pv 5))) (blkOk_by (N := N_law_cuts_right) (sc := defScope st_law_cuts_right) (by decide +kernel)) (fun _ _ _ _ _ => (pg_name (i := 10) nd rfl (Or.inl rfl))) (fun _ _ _ _ _ => (pts_one (tp_cmp (o_nin (room_u hr (by decide))) d_nin (ep_ix ix_seq d_ix (ep_var (pv 10)) ep_int (fun _ _ => rfl)) (ep_var (pv 6)) rfl))) (fun _ _ _ _ _ => (ep_var (pv 10))))) (ep_f (ef_lst ap_nil)) rfl))
  (ss_one (ss_ret (eo_X (ex_P ep_bl))))
  ss_nil)
  (ss_one (ss_if (xt_P (tp_cmp (o_ne (room_u hr (by decide))) d_ne (ep_f (ef_lc (own := [("_law_row", 10)]) tgd_name (own_name (by decide)) rfl nd (pi_any (ep_slA (ep_var (pv 3)) (op_part (ep_cb call_len d_len (by rfl) m_len (by decide +kernel) (ap_cons (ep_var (pv 5)) ap_nil))) op_no)) (blkOk_by (N := N_law_cuts_right) (sc := defScope st_law_cuts_right) (by decide +kernel)) (fun _ _ _ _ _ => (pg_name (i := 10) nd rfl (Or.inl rfl))) (fun _ _ _ _ _ => (pts_one (PW.pt (tw_and (tp_cmp (o_ne (room_u hr (by decide))) d_ne (ep_var (pv 6)) (ep_f (ef_lst ap_nil)) rfl) (tw_and1 (tp_cmp o_lt d_lt (ep_ix ix_seq d_ix (ep_var (pv 10)) ep_int (fun _ _ => rfl)) (ep_ix ix_seq d_ix (ep_var (pv 6)) (ep_un un_neg d_neg ep_int) (fun _ _ => rfl)) rfl)))))) (fun _ _ _ _ _ => (ep_var (pv 10))))) (ep_f (ef_lst ap_nil)) rfl))
  (ss_one (ss_ret (eo_X (ex_P ep_bl))))
  ss_nil)))))))
  (ss_one (ss_ret (eo_X (ex_P ep_bl)))))
abbrev st_law_rests_right : Stmt := top 32
abbrev N_law_rests_right : List Str := ["_law_rules_here", "_law_line_here", "_law_rows", "_law_at", "_law_day", "_law_word", "_law_shown", "_law_is_held", "_law_spots", "_law_k", "_law_pair"]
theorem sc_law_rests_right : FnScope N_law_rests_right ["_law_rules_here", "_law_line_here", "_law_rows"] (defScope st_law_rests_right) := ⟨rfl, rfl, rfl, by decide +kernel, rfl, by decide +kernel, by decide +kernel⟩
def g_law_rests_right : SF St2 :=
  (gSeq (gFor (xiP (gArgs (gCons (gVar 2) gNil) enum2)) (asg2 3 [4, 5, 6])
  (gIfS (xtP (gB (gOp neD (gVar 5) (gC (.str "earned")))))
  (gSeq (gAsg 7 (oX (xP (gOp inD (gVar 5) (gTup (gCons (gC (.str "missed")) (gCons (gC (.str "away")) gNil)))))))
  (gSeq (gAsg 8 (oX (xP (gL (gLc (gArgs (gCons (gVar 1) gNil) enum2) [9, 10] (asgT [9, 10]) (gAnd (gB (gOp eqD (gOp ixD (gVar 10) (gC (.int 0))) (gVar 4))) (gOr (gTr (gVar 7)) (gB (gOp eqD (gOp ixD (gVar 10) (gC (.int 1))) (gVar 5))))) (gVar 9))))))
  (gIfS (xtP (gB (gOp neD (gCallP 2 F_rows_by (gCons (gVar 0) (gCons (gSlA (gVar 1) (gPart (gOp addA (gOp ixD (gVar 8) (gC (.int 0))) (gC (.int 1)))) gNoPart) gNil))) (gSlA (gVar 2) (gPart (gOp addA (gVar 3) (gC (.int 1)))) gNoPart))))
  (gRet (oX (xP (gC (.bool false)))))
  gNext)))
  gNext))
  (gRet (oX (xP (gC (.bool true))))))
def F_law_rests_right : List D → Option (MO St2) := runP 11 g_law_rests_right
theorem ok_law_rests_right {P : Program} {w : World} {K : PySem.W.Frag} {mg : Str → Option Value} {base : Heap} {f : Addr} {fd : FuncData} (Fn : Fun K "_law_rests_right" "_law_rests_right" st_law_rests_right f fd) (c_rows_by : Cl P w K mg base 4 "rows_by" (spP K R2i 2 F_rows_by)) (m_enumerate : mg "enumerate" = none) :
    FnG P w K mg base CX0 5 f fd ["_law_rules_here", "_law_line_here", "_law_rows"] (spP K R2i 3 F_law_rests_right) := fn_P (k := 4) (N := N_law_rests_right) (g := g_law_rests_right) Fn sc_law_rests_right fun cdv A outer s H E hr hgd => by
  have nd : N_law_rests_right.Nodup := sc_law_rests_right.nd
  unfold g_law_rests_right
  exact (ss_seq (ss_for (tgd_2 (i := 3) (js := [4, 5, 6])) (notin_own (own := [3, 4, 5, 6]) (own_2 (by decide) (by decide)) (by decide)) rfl (xi_P (pi_en2 (by rfl) m_enumerate (ap_cons (ep_var (pv 2)) ap_nil))) (pg_tup rfl (pgs_cons (pg_name (i := 3) nd rfl (Or.inl rfl)) (pgs_cons (pg_tup rfl (pgs_cons (pg_name (i := 4) nd rfl (Or.inr rfl)) (pgs_cons (pg_name (i := 5) nd rfl (Or.inr rfl)) (pgs_cons (pg_name (i := 6) nd rfl (Or.inl rfl)) pgs_nil)))) pgs_nil)))
  (ss_one (ss_if (xt_P (tp_cmp (o_ne (room_u hr (by decide))) d_ne (ep_var (pv 5)) ep_str rfl))
  (ss_seq (ss_set (by decide) nd rfl (Or.inr rfl) (eo_X (ex_P (ep_cmp (o_in (room_u hr (by decide))) d_in (ep_var (pv 5)) (ep_tup (ap_cons ep_str (ap_cons ep_str ap_nil))) rfl))))
  (ss_seq (ss_lcP (i := 8) (own := [("_law_k", 9), ("_law_pair", 10)]) conv_PX (by decide) (tgd_tup (is := [9, 10])) (own_tup (by decide)) rfl nd rfl rfl (sw_true rfl rfl rfl (by decide +kernel)) (pi_en2 (by rfl) m_enumerate (ap_cons (ep_var (pv 1)) ap_nil)) (blkOk_by (N := N_law_rests_right) (sc := defScope st_law_rests_right) (by decide +kernel)) (fun _ _ _ _ _ => (pg_tup rfl (pgs_cons (pg_name (i := 9) nd rfl (Or.inl rfl)) (pgs_cons (pg_name (i := 10) nd rfl (Or.inl rfl)) pgs_nil)))) (fun _ _ _ _ _ => (pts_one (PW.pt (tw_and (tp_cmp (o_eq (room_u hr (by decide))) d_eq (ep_ix ix_seq d_ix (ep_var (pv 10)) ep_int (fun _ _ => rfl)) (ep_var (pv 4)) rfl) (tw_and1 (PW.pt (tw_or (tp_tr (ep_var (pv 7))) (tw_or1 (tp_cmp (o_eq (room_u hr (by decide))) d_eq (ep_ix ix_seq d_ix (ep_var (pv 10)) ep_int (fun _ _ => rfl)) (ep_var (pv 5)) rfl))))))))) (fun _ _ _ _ _ => (ep_var (pv 9))))
  (ss_one (ss_if (xt_P (tp_cmp (o_ne (room_u hr (by decide))) d_ne (cp_call c_rows_by (by decide) hr hgd (by rfl) (ap_cons (ep_var (pv 0)) (ap_cons (ep_slA (ep_var (pv 1)) (op_part (ep_bin o_addA d_addA (ep_ix ix_seq d_ix (ep_var (pv 8)) ep_int (fun _ _ => rfl)) ep_int)) op_no) ap_nil))) (ep_slA (ep_var (pv 2)) (op_part (ep_bin o_addA d_addA (ep_var (pv 3)) ep_int)) op_no) rfl))
  (ss_one (ss_ret (eo_X (ex_P ep_bl))))
  ss_nil))))
  ss_nil)))
  (ss_one (ss_ret (eo_X (ex_P ep_bl)))))
abbrev st_law_renamed_right : Stmt := top 33
abbrev N_law_renamed_right : List Str := ["_law_state_here", "_law_rules_here", "_law_line_here", "_law_rows", "_law_calls", "_law_far", "_law_day", "_law_word", "_law_called", "_law_due", "_law_shown", "_law_one"]
theorem sc_law_renamed_right : FnScope N_law_renamed_right ["_law_state_here", "_law_rules_here", "_law_line_here", "_law_rows"] (defScope st_law_renamed_right) := ⟨rfl, rfl, rfl, by decide +kernel, rfl, by decide +kernel, by decide +kernel⟩
def g_law_renamed_right : SF St2 :=
  (gSeq (gParN [4, 5] (oCons oDictNew (oCons (oX (xO (oCallV 2 0 F_law_next (xCons (xP (gC (.int 99))) xNil)))) oNil)))
  (gSeq (gFor (xiP (gSrc (gVar 2))) (asgT [6, 7])
  (gIfS (xtP (gB (gDIn false 4 (gVar 6))))
  (gSeq (gDPut 4 (xP (gVar 5)) (gVar 6))
  (gAsg 5 (oX (xOp addA (xP (gOp addA (gVar 5) (gC (.int 1)))) (xO (oCallV 2 0 F_law_next (xCons (xOp ixD (xP (gL (gLst (gCons (gC (.int 1)) (gCons (gC (.int 40)) gNil))))) (xO (oCallV 2 0 F_law_next (xCons (xP (gC (.int 2))) xNil)))) xNil)))))))
  gNext))
  (gSeq (gAsg 8 (oX (xB (gCall (gCons (gL (gLc (gSrc (gVar 2)) [6, 7] (asgT [6, 7]) gYes (gTup (gCons (gDGet 4 (gVar 6)) (gCons (gVar 7) gNil))))) gNil) tupleD))))
  (gSeq (gAsg 9 (oX (xO (oB (gLc (gSrc (gVar 3)) [6, 7, 10] (asgT [6, 7, 10]) gYes (gTup (gCons (gDGet 4 (gVar 6)) (gCons (gVar 7) (gCons (gCall (gCons (gL (gLc (gSrc (gVar 10)) [11] (asgN 11) gYes (gDGet 4 (gVar 11)))) gNil) tupleD) gNil)))))))))
  (gRet (oX (xP (gAndV (gOp eqD (gCall (gCons (gCallP 2 F_rows_by (gCons (gVar 1) (gCons (gVar 8) gNil))) gNil) reprD) (gCall (gCons (gVar 9) gNil) reprD)) (gOp eqD (gCall (gCons (gCallP 2 F_rows_by (gCons (gVar 1) (gCons (gVar 2) gNil))) gNil) reprD) (gCall (gCons (gVar 3) gNil) reprD))))))))))
def F_law_renamed_right : List (Key × D) → List D → Option (MO St2 × List (Key × D)) := runV 12 g_law_renamed_right
theorem ok_law_renamed_right {P : Program} {w : World} {K : PySem.W.Frag} {mg : Str → Option Value} {base : Heap} {f : Addr} {fd : FuncData} (Fn : Fun K "_law_renamed_right" "_law_renamed_right" st_law_renamed_right f fd) (c_law_next : Cl P w K mg base 1 "_law_next" (spV K R2i 2 F_law_next)) (c_rows_by : Cl P w K mg base 4 "rows_by" (spP K R2i 2 F_rows_by)) (m_repr : mg "repr" = none) (m_tuple : mg "tuple" = none) :
    FnG P w K mg base CX0 5 f fd ["_law_state_here", "_law_rules_here", "_law_line_here", "_law_rows"] (spV K R2i 4 F_law_renamed_right) := fn_V (k := 4) (N := N_law_renamed_right) (g := g_law_renamed_right) Fn sc_law_renamed_right fun cdv A outer s H E hr hgd => by
  have nd : N_law_renamed_right.Nodup := sc_law_renamed_right.nd
  unfold g_law_renamed_right
  exact (ss_seq (ss_parN (is := [4, 5]) (by decide) (ao_cons eo_dictNew (ao_cons (eo_X (ex_O (co_callV c_law_next (by decide) hr hgd (by rfl) (pv 0) (ax_cons (ex_P ep_int) ax_nil)))) ao_nil)) (pg_tup rfl (pgs_cons (pg_name (i := 4) nd rfl (Or.inr rfl)) (pgs_cons (pg_name (i := 5) nd rfl (Or.inl rfl)) pgs_nil))))
  (ss_seq (ss_for (tgd_tup (is := [6, 7])) (notin_own (own := [6, 7]) (own_tup (by decide)) (by decide)) rfl (xi_P (pi_any (ep_var (pv 2)))) (pg_tup rfl (pgs_cons (pg_name (i := 6) nd rfl (Or.inl rfl)) (pgs_cons (pg_name (i := 7) nd rfl (Or.inl rfl)) pgs_nil)))
  (ss_one (ss_if (xt_P (tp_dnin (room_u hr (by decide)) (ep_var (pv 6)) (pv 4)))
  (ss_seq (ss_dput (room_u hr (by decide)) (pv 4) (ep_var (pv 6)) (ex_P (ep_var (pv 5))) rfl)
  (ss_one (ss_set (by decide) nd rfl (Or.inl rfl) (eo_X (ex_bin o_addA d_addA (ex_P (ep_bin o_addA d_addA (ep_var (pv 5)) ep_int)) (ex_O (co_callV c_law_next (by decide) hr hgd (by rfl) (pv 0) (ax_cons (ex_ix ix_seq d_ix (ex_P (ep_f (ef_lst (ap_cons ep_int (ap_cons ep_int ap_nil))))) (ex_O (co_callV c_law_next (by decide) hr hgd (by rfl) (pv 0) (ax_cons (ex_P ep_int) ax_nil))) (fun _ _ => rfl)) ax_nil))))))))
  ss_nil)))
  (ss_seq (ss_set (by decide) nd rfl (Or.inl rfl) (eo_X (ex_B (ep_ct call_tupF d_tuple (by rfl) m_tuple (by decide +kernel) (ap_cons (ep_f (ef_lc (own := [("_law_day", 6), ("_law_word", 7)]) (tgd_tup (is := [6, 7])) (own_tup (by decide)) rfl nd (pi_any (ep_var (pv 2))) (blkOk_by (N := N_law_renamed_right) (sc := defScope st_law_renamed_right) (by decide +kernel)) (fun _ _ _ _ _ => (pg_tup rfl (pgs_cons (pg_name (i := 6) nd rfl (Or.inl rfl)) (pgs_cons (pg_name (i := 7) nd rfl (Or.inl rfl)) pgs_nil)))) (fun _ _ _ _ _ => pts_yes) (fun _ _ _ _ _ => (ep_tup (ap_cons (ep_dget (room_u hr (by decide)) (pv 4) (ep_var (pv 6)) (fun _ _ => rfl)) (ap_cons (ep_var (pv 7)) ap_nil)))))) ap_nil)))))
  (ss_seq (ss_lcP (i := 9) (own := [("_law_day", 6), ("_law_word", 7), ("_law_shown", 10)]) conv_BX (by decide) (tgd_tup (is := [6, 7, 10])) (own_tup (by decide)) rfl nd rfl rfl (sw_true rfl rfl rfl (by decide +kernel)) (pi_any (ep_var (pv 3))) (blkOk_by (N := N_law_renamed_right) (sc := defScope st_law_renamed_right) (by decide +kernel)) (fun _ _ _ _ _ => (pg_tup rfl (pgs_cons (pg_name (i := 6) nd rfl (Or.inl rfl)) (pgs_cons (pg_name (i := 7) nd rfl (Or.inl rfl)) (pgs_cons (pg_name (i := 10) nd rfl (Or.inl rfl)) pgs_nil))))) (fun _ _ _ _ _ => pts_yes) (fun _ _ _ _ _ => (ep_tup (ap_cons (ep_dget (room_u hr (by decide)) (pv 4) (ep_var (pv 6)) (fun _ _ => rfl)) (ap_cons (ep_var (pv 7)) (ap_cons (ep_ct call_tupF d_tuple (by rfl) m_tuple (by decide +kernel) (ap_cons (ep_f (ef_lc (own := [("_law_one", 11)]) tgd_name (own_name (by decide)) rfl nd (pi_any (ep_var (pv 10))) (blkOk_by (N := N_law_renamed_right) (sc := relS (mkS [(".0", .local), ("_law_day", .local), ("_law_word", .local), ("_law_shown", .local), ("tuple", .globalImplicit), ("_law_calls", .free)]) (defScope st_law_renamed_right)) (by decide +kernel)) (fun _ _ _ _ _ => (pg_name (i := 11) nd rfl (Or.inl rfl))) (fun _ _ _ _ _ => pts_yes) (fun _ _ _ _ _ => (ep_dget (room_u hr (by decide)) (pv 4) (ep_var (pv 11)) (fun _ _ => rfl))))) ap_nil)) ap_nil))))))
  (ss_one (ss_ret (eo_X (ex_P (ep_and (ep_cmp (o_eq (room_u hr (by decide))) d_eq (ep_cb (call_reprD (room_u hr (by decide)) hgd) d_repr (by rfl) m_repr (by decide +kernel) (ap_cons (cp_call c_rows_by (by decide) hr hgd (by rfl) (ap_cons (ep_var (pv 1)) (ap_cons (ep_var (pv 8)) ap_nil))) ap_nil)) (ep_cb (call_reprD (room_u hr (by decide)) hgd) d_repr (by rfl) m_repr (by decide +kernel) (ap_cons (ep_var (pv 9)) ap_nil)) rfl) (ep_one (ep_cmp (o_eq (room_u hr (by decide))) d_eq (ep_cb (call_reprD (room_u hr (by decide)) hgd) d_repr (by rfl) m_repr (by decide +kernel) (ap_cons (cp_call c_rows_by (by decide) hr hgd (by rfl) (ap_cons (ep_var (pv 1)) (ap_cons (ep_var (pv 2)) ap_nil))) ap_nil)) (ep_cb (call_reprD (room_u hr (by decide)) hgd) d_repr (by rfl) m_repr (by decide +kernel) (ap_cons (ep_var (pv 3)) ap_nil)) rfl)))))))))))
abbrev st_law_shown_right : Stmt := top 34
abbrev N_law_shown_right : List Str := ["_law_rules_here", "_law_line_here", "_law_rows", "_law_words", "_law_kinds", "_law_day", "_law_word", "_law_shown", "_law_least", "_law_most", "_law_told", "_law_one", "_law_row", "_law_k"]
theorem sc_law_shown_right : FnScope N_law_shown_right ["_law_rules_here", "_law_line_here", "_law_rows"] (defScope st_law_shown_right) := ⟨rfl, rfl, rfl, by decide +kernel, rfl, by decide +kernel, by decide +kernel⟩
def g_law_shown_right : SF St2 :=
  (gSeq (gAsg 3 (oDict (xP (gL (gLc (gSrc (gVar 1)) [5, 6] (asgT [5, 6]) (gB (gOp ninD (gVar 6) (gTup (gCons (gC (.str "given")) (gCons (gC (.str "struck")) gNil))))) (gTup (gCons (gVar 5) (gCons (gVar 6) gNil))))))))
  (gSeq (gAsg 4 (oX (xP (gDispV ["earned", "missed", "away"] (gCons (gC (.str "came")) (gCons (gC (.str "missed")) (gCons (gC (.str "told")) gNil)))))))
  (gSeq (gFor (xiP (gSrc (gVar 2))) (asgT [5, 6, 7])
  (gIfS (xtP (gB (gOp (inK true) (gVar 6) (gVar 4))))
  (gSeq (gIfS (xtP (gOr (gB (gOp neD (gL (gLc (gSrc (gVar 7)) [11] (asgN 11) (gB (gOp neD (gDGet2 3 (gVar 11) (gC (.str ""))) (gOp ixK (gVar 4) (gVar 6)))) (gVar 11))) (gL (gLst gNil)))) (gB (gOp neD (gL (gArgs (gCons (gVar 7) gNil) listD)) (gL (gArgs (gCons (gVar 7) gNil) sortedTD))))))
  (gRet (oX (xP (gC (.bool false)))))
  gNext)
  (gSeq (gAsg 8 (oX (xP (gOp ixK (gDispV ["earned", "missed", "away"] (gCons (gOp ixD (gVar 0) (gC (.int 0))) (gCons (gOp ixD (gVar 0) (gC (.int 2))) (gCons (gOp addA (gOp ixD (gVar 0) (gC (.int 3))) (gC (.int 1))) gNil)))) (gVar 6)))))
  (gSeq (gAsg 9 (oX (xP (gOp ixK (gDispV ["earned", "missed", "away"] (gCons (gOp ixD (gVar 0) (gC (.int 1))) (gCons (gOp ixD (gVar 0) (gC (.int 2))) (gCons (gOp ixD (gVar 0) (gC (.int 1))) gNil)))) (gVar 6)))))
  (gIfS (xtP (gOr (gNot (gB (gChain leD leD (gVar 8) (gCall (gCons (gVar 7) gNil) lenD) (gVar 9)))) (gOr (gB (gOp ltD (gLenSet (gVar 7)) (gCall (gCons (gVar 7) gNil) lenD))) (gB (gOp neD (gOp ixD (gVar 7) (gUn negD (gC (.int 1)))) (gVar 5))))))
  (gRet (oX (xP (gC (.bool false)))))
  gNext))))
  (gIfS (xtP (gOr (gB (gOp neD (gVar 7) (gTup gNil))) (gB (gOp ninD (gTup (gCons (gVar 5) (gCons (gVar 6) gNil))) (gVar 1)))))
  (gRet (oX (xP (gC (.bool false)))))
  gNext)))
  (gSeq (gAsg 10 (oX (xP (gL (gLc (gSrc (gVar 2)) [12] (asgN 12) gYes (gOp ixD (gVar 12) (gC (.int 1))))))))
  (gSeq (gIfS (xtP (gB (gOp neD (gL (gLc (gArgs (gCons (gCall (gCons (gVar 10) gNil) lenD) gNil) rng1) [13] (asgN 13) (gB (gOp neD (gOp eqD (gOp ixD (gVar 10) (gVar 13)) (gC (.str "earned"))) (gOp eqD (gOp modD (gVar 13) (gC (.int 2))) (gC (.int 0))))) (gVar 13))) (gL (gLst gNil)))))
  (gRet (oX (xP (gC (.bool false)))))
  gNext)
  (gSeq (gIfS (xtP (gOr (gAnd (gB (gInVals not 3 (gC (.str "told")))) (gB (gOp inD (gC (.str "away")) (gVar 10)))) (gAnd (gB (gInVals not 3 (gC (.str "missed")))) (gB (gOp inD (gC (.str "missed")) (gVar 10))))))
  (gRet (oX (xP (gC (.bool false)))))
  gNext)
  (gRet (oX (xB (gOrV (gInVals id 3 (gC (.str "came"))) (gOp eqD (gVar 10) (gL (gLst gNil)))))))))))))
def F_law_shown_right : List D → Option (MO St2) := runP 14 g_law_shown_right
theorem ok_law_shown_right {P : Program} {w : World} {K : PySem.W.Frag} {mg : Str → Option Value} {base : Heap} {f : Addr} {fd : FuncData} (Fn : Fun K "_law_shown_right" "_law_shown_right" st_law_shown_right f fd) (m_dict : mg "dict" = none) (m_len : mg "len" = none) (m_list : mg "list" = none) (m_range : mg "range" = none) (m_set : mg "set" = none) (m_sorted : mg "sorted" = none) :
    FnG P w K mg base CX0 1 f fd ["_law_rules_here", "_law_line_here", "_law_rows"] (spP K R2i 3 F_law_shown_right) := fn_P (k := 0) (N := N_law_shown_right) (g := g_law_shown_right) Fn sc_law_shown_right fun cdv A outer s H E hr hgd => by
  have nd : N_law_shown_right.Nodup := sc_law_shown_right.nd
  unfold g_law_shown_right
  exact (ss_seq (ss_set (by decide) nd rfl (Or.inr rfl) (eo_dict (by rfl) m_dict (ex_P (ep_f (ef_lc (own := [("_law_day", 5), ("_law_word", 6)]) (tgd_tup (is := [5, 6])) (own_tup (by decide)) rfl nd (pi_any (ep_var (pv 1))) (blkOk_by (N := N_law_shown_right) (sc := defScope st_law_shown_right) (by decide +kernel)) (fun _ _ _ _ _ => (pg_tup rfl (pgs_cons (pg_name (i := 5) nd rfl (Or.inl rfl)) (pgs_cons (pg_name (i := 6) nd rfl (Or.inl rfl)) pgs_nil)))) (fun _ _ _ _ _ => (pts_one (tp_cmp (o_nin (room_u hr (by decide))) d_nin (ep_var (pv 6)) (ep_tup (ap_cons ep_str (ap_cons ep_str ap_nil))) rfl))) (fun _ _ _ _ _ => (ep_tup (ap_cons (ep_var (pv 5)) (ap_cons (ep_var (pv 6)) ap_nil)))))))))
  (ss_seq (ss_set (by decide) nd rfl (Or.inr rfl) (eo_X (ex_P (ep_dispK (pk_cons pe_str ep_str (pk_cons pe_str ep_str (pk_cons pe_str ep_str pk_nil)))))))
  (ss_seq (ss_for (tgd_tup (is := [5, 6, 7])) (notin_own (own := [5, 6, 7]) (own_tup (by decide)) (by decide)) rfl (xi_P (pi_any (ep_var (pv 2)))) (pg_tup rfl (pgs_cons (pg_name (i := 5) nd rfl (Or.inl rfl)) (pgs_cons (pg_name (i := 6) nd rfl (Or.inr rfl)) (pgs_cons (pg_name (i := 7) nd rfl (Or.inl rfl)) pgs_nil))))
  (ss_one (ss_if (xt_P (tp_ink (room_u hr (by decide)) (ep_var (pv 6)) (ep_var (pv 4))))
  (ss_seq (ss_if (xt_P (PW.pt (tw_or (tp_cmp (o_ne (room_u hr (by decide))) d_ne (ep_f (ef_lc (own := [("_law_one", 11)]) tgd_name (own_name (by decide)) rfl nd (pi_any (ep_var (pv 7))) (blkOk_by (N := N_law_shown_right) (sc := defScope st_law_shown_right) (by decide +kernel)) (fun _ _ _ _ _ => (pg_name (i := 11) nd rfl (Or.inl rfl))) (fun _ _ _ _ _ => (pts_one (tp_cmp (o_ne (room_u hr (by decide))) d_ne (ep_dget2 (room_u hr (by decide)) (pv 3) (ep_var (pv 11)) ep_str ⟨by rfl, by rfl, by rfl, by rfl⟩) (ep_ixk (room_u hr (by decide)) (ep_var (pv 4)) (ep_var (pv 6)) (fun _ _ => rfl)) rfl))) (fun _ _ _ _ _ => (ep_var (pv 11))))) (ep_f (ef_lst ap_nil)) rfl) (tw_or1 (tp_cmp (o_ne (room_u hr (by decide))) d_ne (ep_f (ef_ct call_list_of d_list (by rfl) m_list (by decide +kernel) (ap_cons (ep_var (pv 7)) ap_nil))) (ep_f (ef_cb (cr_sortedAT (room_u hr (by decide))) d_sortedT (by rfl) m_sorted (by decide +kernel) (ap_cons (ep_var (pv 7)) ap_nil))) rfl)))))
  (ss_one (ss_ret (eo_X (ex_P ep_bl))))
  ss_nil)
  (ss_seq (ss_set (by decide) nd rfl (Or.inl rfl) (eo_X (ex_P (ep_ixk (room_u hr (by decide)) (ep_dispK (pk_cons pe_str (ep_ix ix_seq d_ix (ep_var (pv 0)) ep_int (fun _ _ => rfl)) (pk_cons pe_str (ep_ix ix_seq d_ix (ep_var (pv 0)) ep_int (fun _ _ => rfl)) (pk_cons pe_str (ep_bin o_addA d_addA (ep_ix ix_seq d_ix (ep_var (pv 0)) ep_int (fun _ _ => rfl)) ep_int) pk_nil)))) (ep_var (pv 6)) (fun _ _ => rfl)))))
  (ss_seq (ss_set (by decide) nd rfl (Or.inl rfl) (eo_X (ex_P (ep_ixk (room_u hr (by decide)) (ep_dispK (pk_cons pe_str (ep_ix ix_seq d_ix (ep_var (pv 0)) ep_int (fun _ _ => rfl)) (pk_cons pe_str (ep_ix ix_seq d_ix (ep_var (pv 0)) ep_int (fun _ _ => rfl)) (pk_cons pe_str (ep_ix ix_seq d_ix (ep_var (pv 0)) ep_int (fun _ _ => rfl)) pk_nil)))) (ep_var (pv 6)) (fun _ _ => rfl)))))
  (ss_one (ss_if (xt_P (PW.pt (tw_or (tp_not (tp_chain o_le d_le o_le d_le (ep_var (pv 8)) (ep_cb call_len d_len (by rfl) m_len (by decide +kernel) (ap_cons (ep_var (pv 7)) ap_nil)) (ep_var (pv 9)))) (tw_or (tp_cmp o_lt d_lt (ep_lenSet (by rfl) m_len (by rfl) m_set (ep_var (pv 7))) (ep_cb call_len d_len (by rfl) m_len (by decide +kernel) (ap_cons (ep_var (pv 7)) ap_nil)) rfl) (tw_or1 (tp_cmp (o_ne (room_u hr (by decide))) d_ne (ep_ix ix_seq d_ix (ep_var (pv 7)) (ep_un un_neg d_neg ep_int) (fun _ _ => rfl)) (ep_var (pv 5)) rfl))))))
  (ss_one (ss_ret (eo_X (ex_P ep_bl))))
  ss_nil)))))
  (ss_one (ss_if (xt_P (PW.pt (tw_or (tp_cmp (o_ne (room_u hr (by decide))) d_ne (ep_var (pv 7)) (ep_tup ap_nil) rfl) (tw_or1 (tp_cmp (o_nin (room_u hr (by decide))) d_nin (ep_tup (ap_cons (ep_var (pv 5)) (ap_cons (ep_var (pv 6)) ap_nil))) (ep_var (pv 1)) rfl)))))
  (ss_one (ss_ret (eo_X (ex_P ep_bl))))
  ss_nil)))))
  (ss_seq (ss_set (by decide) nd rfl (Or.inr rfl) (eo_X (ex_P (ep_f (ef_lc (own := [("_law_row", 12)]) tgd_name (own_name (by decide)) rfl nd (pi_any (ep_var (pv 2))) (blkOk_by (N := N_law_shown_right) (sc := defScope st_law_shown_right) (by decide +kernel)) (fun _ _ _ _ _ => (pg_name (i := 12) nd rfl (Or.inl rfl))) (fun _ _ _ _ _ => pts_yes) (fun _ _ _ _ _ => (ep_ix ix_seq d_ix (ep_var (pv 12)) ep_int (fun _ _ => rfl))))))))
  (ss_seq (ss_if (xt_P (tp_cmp (o_ne (room_u hr (by decide))) d_ne (ep_f (ef_lc (own := [("_law_k", 13)]) tgd_name (own_name (by decide)) rfl nd (pi_r1 (by rfl) m_range (ap_cons (ep_cb call_len d_len (by rfl) m_len (by decide +kernel) (ap_cons (ep_var (pv 10)) ap_nil)) ap_nil)) (blkOk_by (N := N_law_shown_right) (sc := defScope st_law_shown_right) (by decide +kernel)) (fun _ _ _ _ _ => (pg_name (i := 13) nd rfl (Or.inl rfl))) (fun _ _ _ _ _ => (pts_one (tp_cmp (o_ne (room_u hr (by decide))) d_ne (ep_cmp (o_eq (room_u hr (by decide))) d_eq (ep_ix ix_seq d_ix (ep_var (pv 10)) (ep_var (pv 13)) (fun _ _ => rfl)) ep_str rfl) (ep_cmp (o_eq (room_u hr (by decide))) d_eq (ep_bin op_mod d_mod (ep_var (pv 13)) ep_int) ep_int rfl) rfl))) (fun _ _ _ _ _ => (ep_var (pv 13))))) (ep_f (ef_lst ap_nil)) rfl))
  (ss_one (ss_ret (eo_X (ex_P ep_bl))))
  ss_nil)
  (ss_seq (ss_if (xt_P (PW.pt (tw_or (PW.pt (tw_and (tp_ninVals (room_u hr (by decide)) rfl ep_str (pv 3)) (tw_and1 (tp_cmp (o_in (room_u hr (by decide))) d_in ep_str (ep_var (pv 10)) rfl)))) (tw_or1 (PW.pt (tw_and (tp_ninVals (room_u hr (by decide)) rfl ep_str (pv 3)) (tw_and1 (tp_cmp (o_in (room_u hr (by decide))) d_in ep_str (ep_var (pv 10)) rfl))))))))
  (ss_one (ss_ret (eo_X (ex_P ep_bl))))
  ss_nil)
  (ss_one (ss_ret (eo_X (ex_B (ep_or (ep_inVals (room_u hr (by decide)) rfl ep_str (pv 3)) (ep_one (ep_cmp (o_eq (room_u hr (by decide))) d_eq (ep_var (pv 10)) (ep_f (ef_lst ap_nil)) rfl)))))))))))))
abbrev st_law_checked_right : Stmt := top 35
abbrev N_law_checked_right : List Str := ["_law_state_here", "_law_rules_here", "_law_line_here", "_law_rows", "_law_at", "_law_day", "_law_word", "_law_shown", "_law_other", "_law_less"]
theorem sc_law_checked_right : FnScope N_law_checked_right ["_law_state_here", "_law_rules_here", "_law_line_here", "_law_rows"] (defScope st_law_checked_right) := ⟨rfl, rfl, rfl, by decide +kernel, rfl, by decide +kernel, by decide +kernel⟩
def g_law_checked_right : SF St2 :=
  (gSeq (gIfS (xtP (gOr (gB (gOp neD (gCallP 3 F_law_refused (gCons (gVar 1) (gCons (gVar 2) (gCons (gVar 3) gNil)))) (gUn negD (gC (.int 1))))) (gB (gOp neD (gCallP 3 F_law_refused (gCons (gVar 1) (gCons (gVar 2) (gCons (gOp addA (gVar 3) (gL (gLst (gCons (gTup (gCons (gC (.int 0)) (gCons (gC (.str "given")) (gCons (gTup gNil) gNil)))) gNil)))) gNil)))) (gCall (gCons (gVar 3) gNil) lenD)))))
  (gRet (oX (xP (gC (.bool false)))))
  gNext)
  (gSeq (gIfS (xtP (gB (gOp eqD (gVar 3) (gL (gLst gNil)))))
  (gRet (oX (xP (gC (.bool true)))))
  gNext)
  (gSeq (gAsg 4 (oX (xO (oCallV 2 0 F_law_next (xCons (xP (gCall (gCons (gVar 3) gNil) lenD)) xNil)))))
  (gSeq (gAsgT (asgT [5, 6, 7]) (xP (gOp ixD (gVar 3) (gVar 4))))
  (gSeq (gAsg 8 (oX (xP (gOp addA (gOp addA (gSlA (gVar 3) gNoPart (gPart (gVar 4))) (gL (gLst (gCons (gTup (gCons (gOp addA (gVar 5) (gC (.int 1))) (gCons (gVar 6) (gCons (gVar 7) gNil)))) gNil)))) (gSlA (gVar 3) (gPart (gOp addA (gVar 4) (gC (.int 1)))) gNoPart)))))
  (gSeq (gIfS (xtP (gOr (gB (gOp neD (gCallP 3 F_law_refused (gCons (gVar 1) (gCons (gVar 2) (gCons (gVar 8) gNil)))) (gVar 4))) (gB (gOp neD (gCallP 3 F_law_refused (gCons (gVar 1) (gCons (gVar 2) (gCons (gSlA (gVar 3) gNoPart (gPart (gUn negD (gC (.int 1))))) gNil)))) (gOp subD (gCall (gCons (gVar 3) gNil) lenD) (gC (.int 1)))))))
  (gRet (oX (xP (gC (.bool false)))))
  gNext)
  (gSeq (gAsg 9 (oX (xP (gOp addA (gOp addA (gSlA (gVar 3) gNoPart (gPart (gVar 4))) (gL (gLst (gCons (gTup (gCons (gVar 5) (gCons (gVar 6) (gCons (gIf (gB (gOp neD (gVar 7) (gTup gNil))) (gSlA (gVar 7) (gPart (gC (.int 1))) gNoPart) (gTup (gCons (gVar 5) gNil))) gNil)))) gNil)))) (gSlA (gVar 3) (gPart (gOp addA (gVar 4) (gC (.int 1)))) gNoPart)))))
  (gRet (oX (xP (gOp eqD (gCallP 3 F_law_refused (gCons (gVar 1) (gCons (gVar 2) (gCons (gVar 9) gNil)))) (gVar 4))))))))))))
def F_law_checked_right : List (Key × D) → List D → Option (MO St2 × List (Key × D)) := runV 10 g_law_checked_right
theorem ok_law_checked_right {P : Program} {w : World} {K : PySem.W.Frag} {mg : Str → Option Value} {base : Heap} {f : Addr} {fd : FuncData} (Fn : Fun K "_law_checked_right" "_law_checked_right" st_law_checked_right f fd) (c_law_refused : Cl P w K mg base 6 "_law_refused" (spP K R2i 3 F_law_refused)) (c_law_next : Cl P w K mg base 1 "_law_next" (spV K R2i 2 F_law_next)) (m_len : mg "len" = none) :
    FnG P w K mg base CX0 7 f fd ["_law_state_here", "_law_rules_here", "_law_line_here", "_law_rows"] (spV K R2i 4 F_law_checked_right) := fn_V (k := 6) (N := N_law_checked_right) (g := g_law_checked_right) Fn sc_law_checked_right fun cdv A outer s H E hr hgd => by
  have nd : N_law_checked_right.Nodup := sc_law_checked_right.nd
  unfold g_law_checked_right
  exact (ss_seq (ss_if (xt_P (PW.pt (tw_or (tp_cmp (o_ne (room_u hr (by decide))) d_ne (cp_call c_law_refused (by decide) hr hgd (by rfl) (ap_cons (ep_var (pv 1)) (ap_cons (ep_var (pv 2)) (ap_cons (ep_var (pv 3)) ap_nil)))) (ep_un un_neg d_neg ep_int) rfl) (tw_or1 (tp_cmp (o_ne (room_u hr (by decide))) d_ne (cp_call c_law_refused (by decide) hr hgd (by rfl) (ap_cons (ep_var (pv 1)) (ap_cons (ep_var (pv 2)) (ap_cons (ep_bin o_addA d_addA (ep_var (pv 3)) (ep_f (ef_lst (ap_cons (ep_tup (ap_cons ep_int (ap_cons ep_str (ap_cons (ep_tup ap_nil) ap_nil)))) ap_nil)))) ap_nil)))) (ep_cb call_len d_len (by rfl) m_len (by decide +kernel) (ap_cons (ep_var (pv 3)) ap_nil)) rfl)))))
  (ss_one (ss_ret (eo_X (ex_P ep_bl))))
  ss_nil)
  (ss_seq (ss_if (xt_P (tp_cmp (o_eq (room_u hr (by decide))) d_eq (ep_var (pv 3)) (ep_f (ef_lst ap_nil)) rfl))
  (ss_one (ss_ret (eo_X (ex_P ep_bl))))
  ss_nil)
  (ss_seq (ss_set (by decide) nd rfl (Or.inl rfl) (eo_X (ex_O (co_callV c_law_next (by decide) hr hgd (by rfl) (pv 0) (ax_cons (ex_P (ep_cb call_len d_len (by rfl) m_len (by decide +kernel) (ap_cons (ep_var (pv 3)) ap_nil))) ax_nil)))))
  (ss_seq (ss_asgT (tgd_tup (is := [5, 6, 7])) (notin_own (own := [5, 6, 7]) (own_tup (by decide)) (by decide)) (ex_P (ep_ix ix_seq d_ix (ep_var (pv 3)) (ep_var (pv 4)) (fun _ _ => rfl))) (pg_tup rfl (pgs_cons (pg_name (i := 5) nd rfl (Or.inl rfl)) (pgs_cons (pg_name (i := 6) nd rfl (Or.inl rfl)) (pgs_cons (pg_name (i := 7) nd rfl (Or.inl rfl)) pgs_nil)))))
  (ss_seq (ss_set (by decide) nd rfl (Or.inl rfl) (eo_X (ex_P (ep_bin o_addA d_addA (ep_bin o_addA d_addA (ep_slA (ep_var (pv 3)) op_no (op_part (ep_var (pv 4)))) (ep_f (ef_lst (ap_cons (ep_tup (ap_cons (ep_bin o_addA d_addA (ep_var (pv 5)) ep_int) (ap_cons (ep_var (pv 6)) (ap_cons (ep_var (pv 7)) ap_nil)))) ap_nil)))) (ep_slA (ep_var (pv 3)) (op_part (ep_bin o_addA d_addA (ep_var (pv 4)) ep_int)) op_no)))))
  (ss_seq (ss_if (xt_P (PW.pt (tw_or (tp_cmp (o_ne (room_u hr (by decide))) d_ne (cp_call c_law_refused (by decide) hr hgd (by rfl) (ap_cons (ep_var (pv 1)) (ap_cons (ep_var (pv 2)) (ap_cons (ep_var (pv 8)) ap_nil)))) (ep_var (pv 4)) rfl) (tw_or1 (tp_cmp (o_ne (room_u hr (by decide))) d_ne (cp_call c_law_refused (by decide) hr hgd (by rfl) (ap_cons (ep_var (pv 1)) (ap_cons (ep_var (pv 2)) (ap_cons (ep_slA (ep_var (pv 3)) op_no (op_part (ep_un un_neg d_neg ep_int))) ap_nil)))) (ep_bin op_sub d_sub (ep_cb call_len d_len (by rfl) m_len (by decide +kernel) (ap_cons (ep_var (pv 3)) ap_nil)) ep_int) rfl)))))
  (ss_one (ss_ret (eo_X (ex_P ep_bl))))
  ss_nil)
  (ss_seq (ss_set (by decide) nd rfl (Or.inl rfl) (eo_X (ex_P (ep_bin o_addA d_addA (ep_bin o_addA d_addA (ep_slA (ep_var (pv 3)) op_no (op_part (ep_var (pv 4)))) (ep_f (ef_lst (ap_cons (ep_tup (ap_cons (ep_var (pv 5)) (ap_cons (ep_var (pv 6)) (ap_cons (ep_if (tp_cmp (o_ne (room_u hr (by decide))) d_ne (ep_var (pv 7)) (ep_tup ap_nil) rfl) (ep_slA (ep_var (pv 7)) (op_part ep_int) op_no) (ep_tup (ap_cons (ep_var (pv 5)) ap_nil))) ap_nil)))) ap_nil)))) (ep_slA (ep_var (pv 3)) (op_part (ep_bin o_addA d_addA (ep_var (pv 4)) ep_int)) op_no)))))
  (ss_one (ss_ret (eo_X (ex_P (ep_cmp (o_eq (room_u hr (by decide))) d_eq (cp_call c_law_refused (by decide) hr hgd (by rfl) (ap_cons (ep_var (pv 1)) (ap_cons (ep_var (pv 2)) (ap_cons (ep_var (pv 9)) ap_nil)))) (ep_var (pv 4)) rfl))))))))))))
abbrev st_law : Stmt := top 36
abbrev N_law : List Str := ["_law_script", "_law_state_here", "_law_turn", "_law_rules_here", "_law_line_here", "_law_rows"]
theorem sc_law : FnScope N_law ["_law_script"] (defScope st_law) := ⟨rfl, rfl, rfl, by decide +kernel, rfl, by decide +kernel, by decide +kernel⟩
def g_law : SF St2 :=
  (gSeq (gAsg 1 (oCallP 1 F_law_state (xCons (xO (oP (gScSl 0 gNoPart (gPart (gC (.int 63)))))) xNil)))
  (gSeq (gFor (xArgs (xCons (xOp addA (xP (gC (.int 2))) (xCall (xCons (xP (gC (.int 3))) (xCons (xOp divD (xScLen 0) (xP (gC (.int 8)))) xNil)) min2)) xNil) rng1) (asgN 2)
  (gSeq (gAsg 3 (oX (xO (oCallV 1 1 F_law_rules xNil))))
  (gSeq (gAsg 4 (oX (xO (oCallV 3 1 F_law_line (xCons (xP (gVar 3)) (xCons (xOp addA (xP (gC (.int 6))) (xO (oCallV 2 1 F_law_next (xCons (xOp ixD (xP (gL (gLst (gCons (gC (.int 30)) (gCons (gC (.int 85)) gNil))))) (xOp divD (xO (oCallV 2 1 F_law_next (xCons (xP (gC (.int 4))) xNil))) (xP (gC (.int 3))))) xNil)))) xNil))))))
  (gSeq (gAsg 5 (oX (xP (gCallP 2 F_rows_by (gCons (gVar 3) (gCons (gVar 4) gNil))))))
  (gSeq (gIfS (xtP (gOr (gB (gOp notND (gCallP 1 F_need_line (gCons (gVar 4) gNil)) (gC .none))) (gNot (gTr (gCallP 3 F_law_shown_right (gCons (gVar 3) (gCons (gVar 4) (gCons (gVar 5) gNil))))))))
  (gRet (oX (xP (gC (.bool false)))))
  gNext)
  (gSeq (gIfS (xOr (xNot (xTr (xO (oCallV 4 1 F_law_cuts_right (xCons (xP (gVar 3)) (xCons (xP (gVar 4)) (xCons (xP (gVar 5)) xNil))))))) (xtP (gNot (gTr (gCallP 3 F_law_rests_right (gCons (gVar 3) (gCons (gVar 4) (gCons (gVar 5) gNil))))))))
  (gRet (oX (xP (gC (.bool false)))))
  gNext)
  (gSeq (gIfS (xOr (xNot (xTr (xO (oCallV 4 1 F_law_renamed_right (xCons (xP (gVar 3)) (xCons (xP (gVar 4)) (xCons (xP (gVar 5)) xNil))))))) (xNot (xTr (xO (oCallV 4 1 F_law_checked_right (xCons (xP (gVar 3)) (xCons (xP (gVar 4)) (xCons (xP (gVar 5)) xNil))))))))
  (gRet (oX (xP (gC (.bool false)))))
  gNext)
  (gIfS (xtP (gAnd (gNot (gTr (gCallP 2 F_law_stands (gCons (gVar 3) (gCons (gSlA (gVar 4) gNoPart (gPart (gUn negD (gC (.int 1))))) gNil))))) (gNot (gTr (gCallP 2 F_law_is_no_line (gCons (gVar 3) (gCons (gOp addA (gSlA (gVar 4) gNoPart (gPart (gUn negD (gC (.int 1))))) (gTup (gCons (gTup (gCons (gC (.int 9999)) (gCons (gC (.str "given")) gNil))) gNil))) gNil)))))))
  (gRet (oX (xP (gC (.bool false)))))
  gNext))))))))
  (gRet (oX (xP (gC (.bool true)))))))
def F_law : List Int → List D → Option (MO St2) := runC 6 g_law
theorem ok_law {P : Program} {w : World} {K : PySem.W.Frag} {mg : Str → Option Value} {base : Heap} {f : Addr} {fd : FuncData} (Fn : Fun K "law" "law" st_law f fd) (c_law_state : Cl P w K mg base 1 "_law_state" (spP K R2i 1 F_law_state)) (c_law_rules : Cl P w K mg base 2 "_law_rules" (spV K R2i 1 F_law_rules)) (c_law_line : Cl P w K mg base 6 "_law_line" (spV K R2i 3 F_law_line)) (c_law_next : Cl P w K mg base 1 "_law_next" (spV K R2i 2 F_law_next)) (c_rows_by : Cl P w K mg base 4 "rows_by" (spP K R2i 2 F_rows_by)) (c_law_shown_right : Cl P w K mg base 1 "_law_shown_right" (spP K R2i 3 F_law_shown_right)) (c_need_line : Cl P w K mg base 3 "need_line" (spP K R2i 1 F_need_line)) (c_law_rests_right : Cl P w K mg base 5 "_law_rests_right" (spP K R2i 3 F_law_rests_right)) (c_law_cuts_right : Cl P w K mg base 5 "_law_cuts_right" (spV K R2i 4 F_law_cuts_right)) (c_law_checked_right : Cl P w K mg base 7 "_law_checked_right" (spV K R2i 4 F_law_checked_right)) (c_law_renamed_right : Cl P w K mg base 5 "_law_renamed_right" (spV K R2i 4 F_law_renamed_right)) (c_law_is_no_line : Cl P w K mg base 5 "_law_is_no_line" (spP K R2i 2 F_law_is_no_line)) (c_law_stands : Cl P w K mg base 5 "_law_stands" (spP K R2i 2 F_law_stands)) (m_len : mg "len" = none) (m_min : mg "min" = none) (m_range : mg "range" = none) :
    FnG P w K mg base CX0 8 f fd ["_law_script"] (spC K R2i 1 F_law) := fn_C (k := 7) (N := N_law) (g := g_law) Fn sc_law fun cdv A outer s H E hr hgd => by
  have nd : N_law.Nodup := sc_law.nd
  unfold g_law
  exact (ss_seq (ss_set (by decide) nd rfl (Or.inl rfl) (co_call c_law_state (by decide) hr hgd (by rfl) (ax_cons (ex_O (eo_P (ef_scSl (pv 0) op_no (op_part ep_int)))) ax_nil)))
  (ss_seq (ss_for tgd_name (notin_own (own := [2]) (own_name (by decide)) (by decide)) rfl (xi_r1 (by rfl) m_range (ax_cons (ex_bin o_addA d_addA (ex_P ep_int) (ex_cb (call_min2 rfl) d_min2 (by rfl) m_min (by decide +kernel) (ax_cons (ex_P ep_int) (ax_cons (ex_bin op_fdivW d_div (ex_scrLen (by rfl) m_len (pv 0)) (ex_P ep_int)) ax_nil)))) ax_nil)) (pg_name (i := 2) nd rfl (Or.inl rfl))
  (ss_seq (ss_set (by decide) nd rfl (Or.inl rfl) (eo_X (ex_O (co_callV c_law_rules (by decide) hr hgd (by rfl) (pv 1) ax_nil))))
  (ss_seq (ss_set (by decide) nd rfl (Or.inl rfl) (eo_X (ex_O (co_callV c_law_line (by decide) hr hgd (by rfl) (pv 1) (ax_cons (ex_P (ep_var (pv 3))) (ax_cons (ex_bin o_addA d_addA (ex_P ep_int) (ex_O (co_callV c_law_next (by decide) hr hgd (by rfl) (pv 1) (ax_cons (ex_ix ix_seq d_ix (ex_P (ep_f (ef_lst (ap_cons ep_int (ap_cons ep_int ap_nil))))) (ex_bin op_fdivW d_div (ex_O (co_callV c_law_next (by decide) hr hgd (by rfl) (pv 1) (ax_cons (ex_P ep_int) ax_nil))) (ex_P ep_int)) (fun _ _ => rfl)) ax_nil)))) ax_nil))))))
  (ss_seq (ss_set (by decide) nd rfl (Or.inl rfl) (eo_X (ex_P (cp_call c_rows_by (by decide) hr hgd (by rfl) (ap_cons (ep_var (pv 3)) (ap_cons (ep_var (pv 4)) ap_nil))))))
  (ss_seq (ss_if (xt_P (PW.pt (tw_or (tp_cmp op_notN d_notN (cp_call c_need_line (by decide) hr hgd (by rfl) (ap_cons (ep_var (pv 4)) ap_nil)) ep_non rfl) (tw_or1 (tp_not (tp_tr (cp_call c_law_shown_right (by decide) hr hgd (by rfl) (ap_cons (ep_var (pv 3)) (ap_cons (ep_var (pv 4)) (ap_cons (ep_var (pv 5)) ap_nil))))))))))
  (ss_one (ss_ret (eo_X (ex_P ep_bl))))
  ss_nil)
  (ss_seq (ss_if (PW.pt (xw_or (xt_not (xt_tr (ex_O (co_callV c_law_cuts_right (by decide) hr hgd (by rfl) (pv 1) (ax_cons (ex_P (ep_var (pv 3))) (ax_cons (ex_P (ep_var (pv 4))) (ax_cons (ex_P (ep_var (pv 5))) ax_nil))))))) (xw_or1 (xt_P (tp_not (tp_tr (cp_call c_law_rests_right (by decide) hr hgd (by rfl) (ap_cons (ep_var (pv 3)) (ap_cons (ep_var (pv 4)) (ap_cons (ep_var (pv 5)) ap_nil))))))))))
  (ss_one (ss_ret (eo_X (ex_P ep_bl))))
  ss_nil)
  (ss_seq (ss_if (PW.pt (xw_or (xt_not (xt_tr (ex_O (co_callV c_law_renamed_right (by decide) hr hgd (by rfl) (pv 1) (ax_cons (ex_P (ep_var (pv 3))) (ax_cons (ex_P (ep_var (pv 4))) (ax_cons (ex_P (ep_var (pv 5))) ax_nil))))))) (xw_or1 (xt_not (xt_tr (ex_O (co_callV c_law_checked_right (by decide) hr hgd (by rfl) (pv 1) (ax_cons (ex_P (ep_var (pv 3))) (ax_cons (ex_P (ep_var (pv 4))) (ax_cons (ex_P (ep_var (pv 5))) ax_nil))))))))))
  (ss_one (ss_ret (eo_X (ex_P ep_bl))))
  ss_nil)
  (ss_one (ss_if (xt_P (PW.pt (tw_and (tp_not (tp_tr (cp_call c_law_stands (by decide) hr hgd (by rfl) (ap_cons (ep_var (pv 3)) (ap_cons (ep_slA (ep_var (pv 4)) op_no (op_part (ep_un un_neg d_neg ep_int))) ap_nil))))) (tw_and1 (tp_not (tp_tr (cp_call c_law_is_no_line (by decide) hr hgd (by rfl) (ap_cons (ep_var (pv 3)) (ap_cons (ep_bin o_addA d_addA (ep_slA (ep_var (pv 4)) op_no (op_part (ep_un un_neg d_neg ep_int))) (ep_tup (ap_cons (ep_tup (ap_cons ep_int (ap_cons ep_str ap_nil))) ap_nil))) ap_nil)))))))))
  (ss_one (ss_ret (eo_X (ex_P ep_bl))))
  ss_nil)))))))))
  (ss_one (ss_ret (eo_X (ex_P ep_bl))))))
end LAW
set_option Elab.async false
set_option linter.all false
set_option maxRecDepth 100000
set_option maxHeartbeats 4000000
namespace DL
open PySem PySem.Spec PyProof.Rows L2
section
variable {S : Type} {ds ds1 ds2 : DS S} {α : Type}
theorem runP_ev {n : Nat} {g : SF S} {as : List D} {o : Out S} {p : MO S × DS S} (h : g (startD n (as.map .d)) = some o) (e : outM o = some p) : runP n g as = some p.1 := by
  unfold runP; rw [h, Option.bind_some, e]; rfl
theorem ret_ev {f : XF S (MO S)} {m : MO S} (e : f ds = some (m, ds1)) : gRet f ds = some (.rt m ds1) := by
  unfold gRet; rw [e]; rfl
theorem asg_ev {i : Nat} {f : XF S (MO S)} {m : MO S} (e : f ds = some (m, ds1)) : gAsg i f ds = some (.nx (ds1.set i (some m))) := by
  unfold gAsg; rw [e]; rfl
theorem drop_ev {f : XF S D} {d : D} (e : f ds = some (d, ds1)) : gDrop f ds = some (.nx ds1) := by
  unfold gDrop; rw [e]; rfl
theorem ifT_ev {c : XF S Bool} {g h : SF S} {o : Out S} (e : c ds = some (true, ds1)) (e2 : g ds1 = some o) : gIfS c g h ds = some o := by
  unfold gIfS; rw [e]; exact e2
theorem ifF_ev {c : XF S Bool} {g h : SF S} {o : Out S} (e : c ds = some (false, ds1)) (e2 : h ds1 = some o) : gIfS c g h ds = some o := by
  unfold gIfS; rw [e]; exact e2
theorem for_ev {src : XF S (List D)} {t : D → Option (List (Nat × D))} {b : SF S} {xs : List D} {o : Out S} (e : src ds = some (xs, ds1)) (e2 : forRun t b xs ds1 = some o) : gFor src t b ds = some o := by
  unfold gFor; rw [e]; exact e2
theorem xb_ev {β : Type} {f : XF S α} {k : α → XF S β} {x : α} {y : β × DS S} (e : f ds = some (x, ds1)) (e2 : k x ds1 = some y) : xb f k ds = some y := by
  unfold xb; rw [e]; exact e2
theorem xlift_ev {o : Option α} {x : α} (e : o = some x) : xlift o ds = some (x, ds) := by
  unfold xlift; rw [e]; rfl
theorem xP_ev {g : DS S → Option D} {d : D} (e : g (hideDS ds) = some d) : xP g ds = some (d, ds) := by unfold xP; rw [e]; rfl
theorem xB_ev {g : DS S → Option D} {d : D} (e : g ds = some d) (n : noList d = true) : xB g ds = some (d, ds) := by unfold xB; rw [e, Option.bind_some, if_pos n]
theorem oP_ev {g : DS S → Option (List D)} {xs : List D} (e : g (hideDS ds) = some xs) : oP g ds = some (.lst xs, ds) := by unfold oP; rw [e]; rfl
theorem oB_ev {g : DS S → Option (List D)} {xs : List D} (e : g ds = some xs) (n : noListAll xs = true) : oB g ds = some (.lst xs, ds) := by unfold oB; rw [e, Option.bind_some, if_pos n]
theorem oX_ev {f : XF S D} {d : D} (e : f ds = some (d, ds1)) : oX f ds = some (.d d, ds1) := by unfold oX; rw [e]; rfl
theorem xOl_ev {f : XF S (MO S)} {xs : List D} (e : f ds = some (.lst xs, ds1)) : xO f ds = some (.list xs, ds1) := by unfold xO; rw [e]
theorem xOd_ev {f : XF S (MO S)} {d : D} (e : f ds = some (.d d, ds1)) : xO f ds = some (d, ds1) := by unfold xO; rw [e]
theorem xtP_ev {h : DS S → Option Bool} {b : Bool} (e : h ds = some b) : xtP h ds = some (b, ds) := by unfold xtP; rw [e]; rfl
theorem xiP_ev {g : DS S → Option (List D)} {xs : List D} (e : g (hideDS ds) = some xs) : xiP g ds = some (xs, ds) := by unfold xiP; rw [e]; rfl
theorem op_ev {g : D → D → Option D} {a b : DS S → Option D} {x y z : D} (e1 : a ds = some x) (e2 : b ds = some y) (e3 : g x y = some z) : gOp g a b ds = some z := by unfold gOp; rw [e1, Option.bind_some, e2]; exact e3
theorem op2_ev {g : D → D → Option D} {a b : DS S → Option D} {x y z : D} (e1 : a ds = some x) (e2 : b ds = some y) (e3 : g x y = some z) : gOp2 g a b ds = some z := by unfold gOp2; rw [e1, Option.bind_some, e2]; exact e3
theorem un_ev {g : D → Option D} {a : DS S → Option D} {x z : D} (e1 : a ds = some x) (e3 : g x = some z) : gUn g a ds = some z := by unfold gUn; rw [e1]; exact e3
theorem L_ev {g : DS S → Option (List D)} {xs : List D} (e : g ds = some xs) : gL g ds = some (.list xs) := by unfold gL; rw [e]; rfl
theorem B_ev {g : DS S → Option D} {b : Bool} (e : g ds = some (.bool b)) : gB g ds = some b := by unfold gB; rw [e]
theorem Tr_ev {g : DS S → Option D} {d : D} {b : Bool} (e : g ds = some d) (e2 : truD d = some b) : gTr g ds = some b := by unfold gTr; rw [e]; exact e2
theorem Not_ev {g : DS S → Option Bool} {b : Bool} (e : g ds = some b) : gNot g ds = some (!b) := by unfold gNot; rw [e]; rfl
theorem Chain_ev {g g' : D → D → Option D} {a b c : DS S → Option D} {x y u : D} {p q : Bool} (e1 : a ds = some x) (e2 : b ds = some y) (e3 : g x y = some (.bool p)) (e4 : p = true → c ds = some u) (e5 : p = true → g' y u = some (.bool q)) (e6 : p = false → q = false) : gChain g g' a b c ds = some (.bool q) := by
  unfold gChain
  rw [e1, Option.bind_some, e2, Option.bind_some, e3, Option.bind_some]
  cases p with
  | true => dsimp only; rw [e4 rfl]; exact e5 rfl
  | false => rw [e6 rfl]
theorem Cons_ev {g : DS S → Option D} {r : DS S → Option (List D)} {x : D} {xs : List D} (e1 : g ds = some x) (e2 : r ds = some xs) : gCons g r ds = some (x :: xs) := by unfold gCons; rw [e1, Option.bind_some, e2]; rfl
theorem Tup_ev {g : DS S → Option (List D)} {xs : List D} (e : g ds = some xs) (z : xs.length ≤ sizeLine) : gTup g ds = some (.tuple xs) := by unfold gTup; rw [e, Option.bind_some, if_pos z]
theorem Lst_ev {g : DS S → Option (List D)} {xs : List D} (e : g ds = some xs) (z : xs.length ≤ sizeLine) : gLst g ds = some xs := by unfold gLst; rw [e, Option.bind_some, if_pos z]
theorem CallP_ev {n : Nat} {F : List D → Option (MO S)} {g : DS S → Option (List D)} {as : List D} {m : MO S} {d : D} (e : g ds = some as) (n1 : as.length = n) (e2 : F as = some m) (e3 : toD m = some d) : gCallP n F g ds = some d := by unfold gCallP; rw [e, Option.bind_some, if_pos n1, e2]; exact e3
theorem Call_ev {g : DS S → Option (List D)} {f : List D → Option D} {as : List D} {d : D} (e : g ds = some as) (e2 : f as = some d) : gCall g f ds = some d := by unfold gCall; rw [e]; exact e2
theorem Args_ev {g : DS S → Option (List D)} {f : List D → Option (List D)} {as xs : List D} (e : g ds = some as) (e2 : f as = some xs) : gArgs g f ds = some xs := by unfold gArgs; rw [e]; exact e2
theorem Src_ev {g : DS S → Option D} {d : D} {xs : List D} (e : g ds = some d) (e2 : srcD d = some xs) : gSrc g ds = some xs := by unfold gSrc; rw [e]; exact e2
theorem SlA_ev {a : DS S → Option D} {l h : DS S → Option (Option Int)} {x d : D} {lo hi : Option Int} (e : a ds = some x) (e1 : l ds = some lo) (e2 : h ds = some hi) (e3 : slA x lo hi = some d) : gSlA a l h ds = some d := by unfold gSlA; rw [e, Option.bind_some, e1, Option.bind_some, e2]; exact e3
theorem Part_ev {g : DS S → Option D} {i : Int} (e : g ds = some (.int i)) : gPart g ds = some (some i) := by unfold gPart; rw [e]
theorem asgT_ev {t : D → Option (List (Nat × D))} {f : XF S D} {d : D} {as : List (Nat × D)} (e : f ds = some (d, ds1)) (e2 : t d = some as) : gAsgT t f ds = some (.nx (setD ds1 as)) := by unfold gAsgT; rw [e, Option.bind_some]; dsimp only; rw [e2]; rfl
theorem NotV_ev {g : DS S → Option D} {d : D} {b : Bool} (e : g ds = some d) (e2 : truD d = some b) : gNotV g ds = some (.bool (!b)) := by unfold gNotV; rw [e, Option.bind_some, e2]; rfl
theorem parN_ev {is : List Nat} {f : XF S (List (MO S))} {ms : List (MO S)} (e : f ds = some (ms, ds1)) (n1 : ms.length = is.length) (n2 : ms.length ≤ sizeLine) : gParN is f ds = some (.nx (setM ds1 is ms)) := by unfold gParN; rw [e, Option.bind_some]; dsimp only; rw [if_pos ⟨n1, n2⟩]
theorem oCons_ev {f : XF S (MO S)} {r : XF S (List (MO S))} {m : MO S} {ms : List (MO S)} (e1 : f ds = some (m, ds1)) (e2 : r ds1 = some (ms, ds2)) : oCons f r ds = some (m :: ms, ds2) := xb_ev e1 (xb_ev e2 (xlift_ev rfl))
theorem xCons_ev {f : XF S D} {r : XF S (List D)} {m : D} {ms : List D} (e1 : f ds = some (m, ds1)) (e2 : r ds1 = some (ms, ds2)) : xCons f r ds = some (m :: ms, ds2) := xb_ev e1 (xb_ev e2 (xlift_ev rfl))
theorem par2_ev {i j : Nat} {f : XF S (List (MO S))} {x y : MO S} (e : f ds = some ([x, y], ds1)) : gPar2 i j f ds = some (.nx ((ds1.set i (some x)).set j (some y))) := by unfold gPar2; rw [e]; rfl
theorem par3_ev {i j l : Nat} {f : XF S (List (MO S))} {x y z : MO S} (e : f ds = some ([x, y, z], ds1)) : gPar3 i j l f ds = some (.nx (((ds1.set i (some x)).set j (some y)).set l (some z))) := by unfold gPar3; rw [e]; rfl
theorem xTup_ev {f : XF S (List D)} {xs : List D} (e : f ds = some (xs, ds1)) (z : xs.length ≤ sizeLine) : xTup f ds = some (.tuple xs, ds1) := xb_ev e (xlift_ev (by rw [if_pos z]))
theorem xLst_ev {f : XF S (List D)} {xs : List D} (e : f ds = some (xs, ds1)) (z : xs.length ≤ sizeLine) : xLst f ds = some (.lst xs, ds1) := xb_ev e (xlift_ev (by rw [if_pos z]))
theorem xOp_ev {g : D → D → Option D} {a b : XF S D} {x y z : D} (e1 : a ds = some (x, ds1)) (e2 : b ds1 = some (y, ds2)) (e3 : g x y = some z) : xOp g a b ds = some (z, ds2) := xb_ev e1 (xb_ev e2 (xlift_ev e3))
theorem xCall_ev {f : XF S (List D)} {g : List D → Option D} {as : List D} {d : D} (e : f ds = some (as, ds1)) (e2 : g as = some d) : xCall f g ds = some (d, ds1) := xb_ev e (xlift_ev e2)
theorem xBool_ev {f : XF S D} {b : Bool} (e : f ds = some (.bool b, ds1)) : xBool f ds = some (b, ds1) := xb_ev e (xlift_ev rfl)
theorem xMt_ev {i : Nat} {g : List D → List D → Option (D × List D)} {f : XF S (List D)} {xs0 xs as ys : List D} {d : D} (e0 : lstAt ds i = some xs0) (e : f ds = some (as, ds1)) (e1 : lstAt ds1 i = some xs) (e2 : g xs as = some (d, ys)) : xMt i g f ds = some (d, ds1.set i (some (.lst ys))) := by
  unfold xMt; rw [e0, Option.bind_some]; exact xb_ev e (by rw [e1, Option.bind_some, e2]; rfl)
theorem callP_ev {n : Nat} {F : List D → Option (MO S)} {f : XF S (List D)} {as : List D} {m : MO S} (e : f ds = some (as, ds1)) (n1 : as.length = n) (e2 : F as = some m) : oCallP n F f ds = some (m, ds1) := xb_ev e (xlift_ev (by rw [if_pos n1]; exact e2))
theorem callS_ev {n i : Nat} {F : S → List D → Option (MO S × S)} {f : XF S (List D)} {s0 s s' : S} {as : List D} {m : MO S} (e0 : stAt ds i = some s0) (e : f ds = some (as, ds1)) (e1 : stAt ds1 i = some s) (n1 : as.length + 1 = n) (e2 : F s as = some (m, s')) : oCallS n i F f ds = some (m, ds1.set i (some (.st s'))) := by
  unfold oCallS; rw [e0, Option.bind_some]; exact xb_ev e (by rw [e1, Option.bind_some, if_pos n1, e2]; rfl)
theorem lcRun_map {β : Type} {f : D → Option (Option D)} {enc : β → D} {h : β → Option D} : ∀ {es : List β}, (∀ e ∈ es, f (enc e) = some (h e)) → lcRun f (es.map enc) = some (es.filterMap h)
  | [], _ => rfl
  | e :: es, k => by
    rw [List.map_cons]
    unfold lcRun
    rw [k e (List.mem_cons_self ..), lcRun_map fun x hx => k x (List.mem_cons_of_mem _ hx)]
    simp only [Option.bind_some, List.filterMap_cons]
    cases h e <;> rfl
theorem Lc_ev {β : Type} {src : DS S → Option (List D)} {own : List Nat} {t : D → Option (List (Nat × D))} {h : DS S → Option Bool} {g : DS S → Option D} {es : List β} {enc : β → D} {k : β → Option D} (e : src ds = some (es.map enc)) (hk : ∀ b ∈ es, lcOne ds own t h g (enc b) = some (k b)) : gLc src own t h g ds = some (es.filterMap k) := by
  unfold gLc; rw [e]; exact lcRun_map hk
theorem One_ev {own : List Nat} {t : D → Option (List (Nat × D))} {h : DS S → Option Bool} {g : DS S → Option D} {x : D} {as : List (Nat × D)} {b : Bool} {y : D} (e1 : t x = some as) (e2 : h (setD (wipeD ds own) as) = some b) (e3 : b = true → g (setD (wipeD ds own) as) = some y) : lcOne ds own t h g x = some (if b then some y else none) := by
  unfold lcOne
  rw [e1, Option.bind_some, e2, Option.bind_some]
  cases b with
  | true => rw [if_pos rfl, e3 rfl]; rfl
  | false => rfl
theorem LcAll_ev {β : Type} {src : DS S → Option (List D)} {own : List Nat} {t : D → Option (List (Nat × D))} {g : DS S → Option D} {es : List β} {enc : β → D} {k : β → D} (e : src ds = some (es.map enc)) (ht : ∀ b ∈ es, ∃ as, t (enc b) = some as ∧ g (setD (wipeD ds own) as) = some (k b)) : gLc src own t gYes g ds = some (es.map k) := by
  rw [Lc_ev (k := fun b => some (k b)) e fun b hb => ?_]
  · rw [List.filterMap_eq_map']
  · obtain ⟨as, h1, h2⟩ := ht b hb
    exact One_ev (h := gYes) (b := true) h1 rfl fun _ => h2
theorem LcSome_ev {β : Type} {src : DS S → Option (List D)} {own : List Nat} {t : D → Option (List (Nat × D))} {h : DS S → Option Bool} {g : DS S → Option D} {es : List β} {enc : β → D} {p : β → Bool} {k : β → D} (e : src ds = some (es.map enc)) (ht : ∀ b ∈ es, ∃ as, t (enc b) = some as ∧ h (setD (wipeD ds own) as) = some (p b) ∧ (p b = true → g (setD (wipeD ds own) as) = some (k b))) : gLc src own t h g ds = some ((es.filter p).map k) := by
  rw [Lc_ev (k := fun b => if p b then some (k b) else none) e fun b hb => ?_]
  · clear ht e
    induction es with
    | nil => rfl
    | cons x xs ih =>
      rw [List.filterMap_cons, List.filter_cons]
      cases p x with
      | true => simp only [if_true, List.map_cons]; rw [Option.some.inj ih]
      | false => simp only [Bool.false_eq_true, if_false]; exact ih
  · obtain ⟨as, h1, h2, h3⟩ := ht b hb
    exact One_ev h1 h2 h3
end
set_option Elab.async false
set_option linter.all false
set_option maxRecDepth 100000
set_option maxHeartbeats 4000000
section
variable {S : Type} {α β γ : Type} {ds ds1 : DS S}
def OW (o : Option α) (Q : α → Prop) : Prop := ∃ x, o = some x ∧ Q x
def PW2 (o : Option (α × β)) (Q : α → β → Prop) : Prop := ∃ x y, o = some (x, y) ∧ Q x y
def XW (f : XF S α) (ds : DS S) (Q : α → DS S → Prop) : Prop := ∃ x ds1, f ds = some (x, ds1) ∧ Q x ds1
def SEndW (N : DS S → Prop) (R : MO S → DS S → Prop) (B C : DS S → Prop) : Out S → Prop
  | .nx ds => N ds
  | .rt m ds => R m ds
  | .bk ds => B ds
  | .ct ds => C ds
def SW (g : SF S) (ds : DS S) (N : DS S → Prop) (R : MO S → DS S → Prop) (B C : DS S → Prop) : Prop := ∃ o, g ds = some o ∧ SEndW N R B C o
def FW (t : D → Option (List (Nat × D))) (b : SF S) (xs : List D) (ds : DS S) (N : DS S → Prop) (R : MO S → DS S → Prop) : Prop := ∃ o, forRun t b xs ds = some o ∧ SEndW N R (fun _ => False) (fun _ => False) o
def IW (b : Bool) (P Q : Prop) : Prop := (b = true → P) ∧ (b = false → Q)
def BW (d : D) (Q : Bool → Prop) : Prop := ∃ b, d = .bool b ∧ Q b
def IntW (d : D) (Q : Int → Prop) : Prop := ∃ i, d = .int i ∧ Q i
def LsW (m : MO S) (Q : List D → Prop) : Prop := ∃ xs, m = .lst xs ∧ Q xs
def SetW (ds : DS S) (i : Nat) (m : Option (MO S)) (N : DS S → Prop) : Prop := N (ds.set i m)
def SetDW (ds : DS S) (as : List (Nat × D)) (N : DS S → Prop) : Prop := N (setD ds as)
def SetMW (ds : DS S) (is : List Nat) (ms : List (MO S)) (N : DS S → Prop) : Prop := N (setM ds is ms)
def AW (P Q : Prop) : Prop := P ∧ Q
def LetW (ds : DS S) (N : DS S → Prop) : Prop := N ds
theorem ow_eq {o : Option α} {x : α} {Q : α → Prop} (e : o = some x) (q : Q x) : OW o Q := ⟨x, e, q⟩
theorem ow_some {x : α} {Q : α → Prop} (q : Q x) : OW (some x) Q := ⟨x, rfl, q⟩
theorem ow_imp {o : Option α} {P Q : α → Prop} (h : OW o P) (i : ∀ x, P x → Q x) : OW o Q := by obtain ⟨x, e, p⟩ := h; exact ⟨x, e, i x p⟩
theorem sw_imp {g : SF S} {N N' : DS S → Prop} {R R' : MO S → DS S → Prop} {B B' C C' : DS S → Prop} (h : SW g ds N R B C) (n : ∀ d, N d → N' d) (r : ∀ m d, R m d → R' m d) (b : ∀ d, B d → B' d) (c : ∀ d, C d → C' d) : SW g ds N' R' B' C' := by
  obtain ⟨o, e, q⟩ := h
  refine ⟨o, e, ?_⟩
  cases o with
  | nx d => exact n d q
  | rt m d => exact r m d q
  | bk d => exact b d q
  | ct d => exact c d q
theorem iw_T {P Q : Prop} (p : P) : IW true P Q := ⟨fun _ => p, nofun⟩
theorem iw_F {P Q : Prop} (q : Q) : IW false P Q := ⟨nofun, fun _ => q⟩
theorem iw_t {b : Bool} {P Q : Prop} (e : b = true) (p : P) : IW b P Q := by subst e; exact iw_T p
theorem iw_f {b : Bool} {P Q : Prop} (e : b = false) (q : Q) : IW b P Q := by subst e; exact iw_F q
theorem iw_self {α : Type} [DecidableEq α] {x : α} {P Q : Prop} (p : P) : IW (decide (x = x)) P Q := iw_t (decide_eq_true rfl) p
theorem iw_nself {α : Type} [DecidableEq α] {x : α} {P Q : Prop} (q : Q) : IW (!decide (x = x)) P Q := iw_f (by rw [decide_eq_true rfl]; rfl) q
theorem aw_mk {P Q : Prop} (p : P) (q : Q) : AW P Q := ⟨p, q⟩
theorem le_size {n : Nat} (h : Nat.ble n sizeLine = true) : n ≤ sizeLine := Nat.le_of_ble_eq_true h
theorem bw_mk {b : Bool} {Q : Bool → Prop} (q : Q b) : BW (.bool b) Q := ⟨b, rfl, q⟩
theorem intw_mk {i : Int} {Q : Int → Prop} (q : Q i) : IntW (.int i) Q := ⟨i, rfl, q⟩
theorem lsw_mk {xs : List D} {Q : List D → Prop} (q : Q xs) : LsW (S := S) (.lst xs) Q := ⟨xs, rfl, q⟩
theorem setw0 {a m : Option (MO S)} {r : DS S} {N : DS S → Prop} (q : N (m :: r)) : SetW (a :: r) 0 m N := q
theorem setwS {a m : Option (MO S)} {r : DS S} {i : Nat} {N : DS S → Prop} (q : SetW r i m fun r' => N (a :: r')) : SetW (a :: r) (i + 1) m N := q
theorem setdw0 {N : DS S → Prop} (q : N ds) : SetDW ds [] N := q
theorem setdwS {i : Nat} {d : D} {r : List (Nat × D)} {N : DS S → Prop} (q : SetW ds i (some (.d d)) fun ds1 => SetDW ds1 r N) : SetDW ds ((i, d) :: r) N := q
theorem setdwZ {i : Nat} {d : D} {is : List Nat} {r : List D} {N : DS S → Prop} (q : SetW ds i (some (.d d)) fun ds1 => SetDW ds1 (is.zip r) N) : SetDW ds ((i :: is).zip (d :: r)) N := q
theorem setdwZ0 {r : List D} {N : DS S → Prop} (q : N ds) : SetDW ds (([] : List Nat).zip r) N := q
theorem setmw0 {N : DS S → Prop} (q : N ds) : SetMW ds [] [] N := q
theorem setmwS {i : Nat} {m : MO S} {is : List Nat} {ms : List (MO S)} {N : DS S → Prop} (q : SetW ds i (some m) fun ds1 => SetMW ds1 is ms N) : SetMW ds (i :: is) (m :: ms) N := q
variable {Q : D → Prop} {QL : List D → Prop} {QB : Bool → Prop} {g h a b c : DS S → Option D} {r : DS S → Option (List D)} {p p' : DS S → Option Bool}
theorem ow_var {i : Nat} {x : D} (e : gVar i ds = some x) (q : Q x) : OW (gVar i ds) Q := ⟨x, e, q⟩
theorem ow_C {d : D} (q : Q d) : OW (gC d ds) Q := ⟨d, rfl, q⟩
theorem ow_op {f : D → D → Option D} (k : OW (a ds) fun x => OW (b ds) fun y => OW (f x y) Q) : OW (gOp f a b ds) Q := by
  obtain ⟨x, e1, y, e2, z, e3, q⟩ := k; exact ⟨z, op_ev e1 e2 e3, q⟩
theorem ow_op2 {f : D → D → Option D} (k : OW (a ds) fun x => OW (b ds) fun y => OW (f x y) Q) : OW (gOp2 f a b ds) Q := by
  obtain ⟨x, e1, y, e2, z, e3, q⟩ := k; exact ⟨z, op2_ev e1 e2 e3, q⟩
theorem ow_opF {f : D → D → Option (List D)} (k : OW (a ds) fun x => OW (b ds) fun y => OW (f x y) QL) : OW (gOpF f a b ds) QL := by
  obtain ⟨x, e1, y, e2, z, e3, q⟩ := k; exact ⟨z, by unfold gOpF; rw [e1, Option.bind_some, e2]; exact e3, q⟩
theorem ow_un {f : D → Option D} (k : OW (a ds) fun x => OW (f x) Q) : OW (gUn f a ds) Q := by
  obtain ⟨x, e1, z, e3, q⟩ := k; exact ⟨z, un_ev e1 e3, q⟩
theorem ow_L (k : OW (r ds) fun xs => Q (.list xs)) : OW (gL r ds) Q := by
  obtain ⟨xs, e, q⟩ := k; exact ⟨_, L_ev e, q⟩
theorem ow_nil (q : QL []) : OW (gNil ds) QL := ⟨[], rfl, q⟩
theorem ow_cons (k : OW (g ds) fun x => OW (r ds) fun xs => QL (x :: xs)) : OW (gCons g r ds) QL := by
  obtain ⟨x, e1, xs, e2, q⟩ := k; exact ⟨_, Cons_ev e1 e2, q⟩
theorem ow_tup (k : OW (r ds) fun xs => AW (xs.length ≤ sizeLine) (Q (.tuple xs))) : OW (gTup r ds) Q := by
  obtain ⟨xs, e, z, q⟩ := k; exact ⟨_, Tup_ev e z, q⟩
theorem ow_lst (k : OW (r ds) fun xs => AW (xs.length ≤ sizeLine) (QL xs)) : OW (gLst r ds) QL := by
  obtain ⟨xs, e, z, q⟩ := k; exact ⟨_, Lst_ev e z, q⟩
theorem ow_tr (k : OW (g ds) fun x => OW (truD x) QB) : OW (gTr g ds) QB := by
  obtain ⟨x, e, b, e2, q⟩ := k; exact ⟨b, Tr_ev e e2, q⟩
theorem ow_B (k : OW (g ds) fun x => BW x QB) : OW (gB g ds) QB := by
  obtain ⟨x, e, b, rfl, q⟩ := k; exact ⟨b, B_ev e, q⟩
theorem ow_not (k : OW (p ds) fun b => QB (!b)) : OW (gNot p ds) QB := by
  obtain ⟨b, e, q⟩ := k; exact ⟨_, Not_ev e, q⟩
theorem ow_and (k : OW (p ds) fun b => IW b (OW (p' ds) QB) (QB false)) : OW (gAnd p p' ds) QB := by
  obtain ⟨b, e, k1, k2⟩ := k
  unfold gAnd; rw [e]
  cases b with
  | true => exact k1 rfl
  | false => exact ⟨false, rfl, k2 rfl⟩
theorem ow_or (k : OW (p ds) fun b => IW b (QB true) (OW (p' ds) QB)) : OW (gOr p p' ds) QB := by
  obtain ⟨b, e, k1, k2⟩ := k
  unfold gOr; rw [e]
  cases b with
  | true => exact ⟨true, rfl, k1 rfl⟩
  | false => exact k2 rfl
theorem ow_andV (k : OW (a ds) fun x => OW (truD x) fun t => IW t (OW (b ds) Q) (Q x)) : OW (gAndV a b ds) Q := by
  obtain ⟨x, e, t, e2, k1, k2⟩ := k
  unfold gAndV; rw [e, Option.bind_some, e2, Option.bind_some]
  cases t with
  | true => exact k1 rfl
  | false => exact ⟨x, rfl, k2 rfl⟩
theorem ow_orV (k : OW (a ds) fun x => OW (truD x) fun t => IW t (Q x) (OW (b ds) Q)) : OW (gOrV a b ds) Q := by
  obtain ⟨x, e, t, e2, k1, k2⟩ := k
  unfold gOrV; rw [e, Option.bind_some, e2, Option.bind_some]
  cases t with
  | true => exact ⟨x, rfl, k1 rfl⟩
  | false => exact k2 rfl
theorem ow_notV (k : OW (a ds) fun x => OW (truD x) fun t => Q (.bool (!t))) : OW (gNotV a ds) Q := by
  obtain ⟨x, e, t, e2, q⟩ := k; exact ⟨_, NotV_ev e e2, q⟩
theorem ow_if (k : OW (p ds) fun t => IW t (OW (a ds) Q) (OW (b ds) Q)) : OW (gIf p a b ds) Q := by
  obtain ⟨t, e, k1, k2⟩ := k
  unfold gIf; rw [e]
  cases t with
  | true => exact k1 rfl
  | false => exact k2 rfl
theorem ow_chain {f f' : D → D → Option D} (k : OW (a ds) fun x => OW (b ds) fun y => OW (f x y) fun z => BW z fun t => IW t (OW (c ds) fun u => OW (f' y u) Q) (Q (.bool false))) : OW (gChain f f' a b c ds) Q := by
  obtain ⟨x, e1, y, e2, z, e3, t, rfl, k1, k2⟩ := k
  unfold gChain; rw [e1, Option.bind_some, e2, Option.bind_some, e3, Option.bind_some]
  cases t with
  | true =>
    obtain ⟨u, e4, v, e5, q⟩ := k1 rfl
    exact ⟨v, by show (c ds).bind _ = _; rw [e4]; exact e5, q⟩
  | false => exact ⟨_, rfl, k2 rfl⟩
theorem ow_noPart {QP : Option Int → Prop} (q : QP none) : OW (gNoPart (S := S) ds) QP := ⟨none, rfl, q⟩
theorem ow_part {QP : Option Int → Prop} (k : OW (g ds) fun x => IntW x fun i => QP (some i)) : OW (gPart g ds) QP := by
  obtain ⟨x, e, i, rfl, q⟩ := k; exact ⟨_, Part_ev e, q⟩
theorem ow_slA {l u : DS S → Option (Option Int)} (k : OW (a ds) fun x => OW (l ds) fun lo => OW (u ds) fun hi => OW (slA x lo hi) Q) : OW (gSlA a l u ds) Q := by
  obtain ⟨x, e1, lo, e2, hi, e3, z, e4, q⟩ := k; exact ⟨z, SlA_ev e1 e2 e3 e4, q⟩
theorem ow_call {f : List D → Option D} (k : OW (r ds) fun xs => OW (f xs) Q) : OW (gCall r f ds) Q := by
  obtain ⟨xs, e, z, e2, q⟩ := k; exact ⟨z, Call_ev e e2, q⟩
theorem ow_args {f : List D → Option (List D)} (k : OW (r ds) fun xs => OW (f xs) QL) : OW (gArgs r f ds) QL := by
  obtain ⟨xs, e, z, e2, q⟩ := k; exact ⟨z, Args_ev e e2, q⟩
theorem ow_src (k : OW (g ds) fun x => OW (srcD x) QL) : OW (gSrc g ds) QL := by
  obtain ⟨x, e, z, e2, q⟩ := k; exact ⟨z, Src_ev e e2, q⟩
theorem ow_split {f : DS S → Option D} (k : OW (a ds) fun x => OW (b ds) fun y => OW (splitD x y) QL) : OW (gSplit a b ds) QL := by
  obtain ⟨x, e1, y, e2, z, e3, q⟩ := k; exact ⟨z, by unfold gSplit; rw [e1, Option.bind_some, e2]; exact e3, q⟩
theorem ow_callP {n : Nat} {F : List D → Option (MO S)} (k : OW (r ds) fun as => AW (as.length = n) (OW (F as) fun m => OW (toD m) Q)) : OW (gCallP n F r ds) Q := by
  obtain ⟨as, e, n1, m, e2, d, e3, q⟩ := k; exact ⟨d, CallP_ev e n1 e2 e3, q⟩
theorem ow_toD {d : D} (q : Q d) : OW (toD (S := S) (.d d)) Q := ⟨d, rfl, q⟩
theorem ow_toK {kvs : List (Key × D)} (q : Q (.dict ((.none, .bool true) :: encKs kvs))) : OW (toD (S := S) (.dic kvs)) Q := ⟨_, rfl, q⟩
theorem ow_toL {xs : List D} (q : Q (.list xs)) : OW (toD (S := S) (.lst xs)) Q := ⟨_, rfl, q⟩
theorem ow_yes (q : QB true) : OW (gYes ds) QB := ⟨true, rfl, q⟩
theorem ow_isi {T : String} (k : OW (g ds) fun d => OW (kitB (tyD d) T) fun t => Q (.bool t)) : OW (gIsi T g ds) Q := by
  obtain ⟨d, e, t, e2, q⟩ := k; exact ⟨_, by unfold gIsi; rw [e, Option.bind_some, e2]; rfl, q⟩
theorem ow_lcAll {β : Type} (es : List β) (enc : β → D) (k : β → D) {own : List Nat} {t : D → Option (List (Nat × D))} (w : OW (r ds) fun xs => xs = es.map enc ∧ (∀ e ∈ es, OW (t (enc e)) fun as => OW (g (setD (wipeD ds own) as)) fun y => y = k e) ∧ QL (es.map k)) : OW (gLc r own t gYes g ds) QL := by
  obtain ⟨xs, e, rfl, h1, q⟩ := w
  refine ⟨_, LcAll_ev (k := k) e fun b hb => ?_, q⟩
  obtain ⟨as, h2, y, h3, rfl⟩ := h1 b hb
  exact ⟨as, h2, h3⟩
theorem ow_lcSome {β : Type} (es : List β) (enc : β → D) (P : β → Bool) (k : β → D) {own : List Nat} {t : D → Option (List (Nat × D))} (w : OW (r ds) fun xs => xs = es.map enc ∧ (∀ e ∈ es, OW (t (enc e)) fun as => OW (p (setD (wipeD ds own) as)) fun b => b = P e ∧ (P e = true → OW (g (setD (wipeD ds own) as)) fun y => y = k e)) ∧ QL ((es.filter P).map k)) : OW (gLc r own t p g ds) QL := by
  obtain ⟨xs, e, rfl, h1, q⟩ := w
  refine ⟨_, LcSome_ev (p := P) (k := k) e fun b hb => ?_, q⟩
  obtain ⟨as, h2, b2, h3, rfl, h4⟩ := h1 b hb
  refine ⟨as, h2, h3, fun hp => ?_⟩
  obtain ⟨y, h5, rfl⟩ := h4 hp
  exact h5
variable {X : D → DS S → Prop} {XL : List D → DS S → Prop} {XB : Bool → DS S → Prop} {XM : MO S → DS S → Prop} {XMs : List (MO S) → DS S → Prop} {f f' : XF S D} {fl : XF S (List D)} {fb fb' : XF S Bool} {fm : XF S (MO S)} {fms : XF S (List (MO S))}
theorem xw_P (k : OW (g (hideDS ds)) fun d => X d ds) : XW (xP g) ds X := by
  obtain ⟨d, e, q⟩ := k; exact ⟨d, ds, xP_ev e, q⟩
theorem xw_B (k : OW (g ds) fun d => AW (noList d = true) (X d ds)) : XW (xB g) ds X := by
  obtain ⟨d, e, n, q⟩ := k; exact ⟨d, ds, xB_ev e n, q⟩
theorem xw_oP (k : OW (r (hideDS ds)) fun xs => XM (.lst xs) ds) : XW (oP r) ds XM := by
  obtain ⟨d, e, q⟩ := k; exact ⟨_, ds, oP_ev e, q⟩
theorem xw_oB (k : OW (r ds) fun xs => AW (noListAll xs = true) (XM (.lst xs) ds)) : XW (oB r) ds XM := by
  obtain ⟨d, e, n, q⟩ := k; exact ⟨_, ds, oB_ev e n, q⟩
theorem xw_iP (k : OW (r (hideDS ds)) fun xs => XL xs ds) : XW (xiP r) ds XL := by
  obtain ⟨d, e, q⟩ := k; exact ⟨_, ds, xiP_ev e, q⟩
theorem xw_tP (k : OW (p ds) fun b => XB b ds) : XW (xtP p) ds XB := by
  obtain ⟨d, e, q⟩ := k; exact ⟨_, ds, xtP_ev e, q⟩
theorem xw_oX (k : XW f ds fun d ds1 => XM (.d d) ds1) : XW (oX f) ds XM := by
  obtain ⟨d, ds1, e, q⟩ := k; exact ⟨_, _, oX_ev e, q⟩
def toD0 : MO S → Option D
  | .d x => some x
  | .lst xs => some (.list xs)
  | _ => none
theorem ow_toD0 {d : D} (q : Q d) : OW (toD0 (S := S) (.d d)) Q := ⟨d, rfl, q⟩
theorem ow_toL0 {xs : List D} (q : Q (.list xs)) : OW (toD0 (S := S) (.lst xs)) Q := ⟨_, rfl, q⟩
theorem xw_O (k : XW fm ds fun m ds1 => OW (toD0 m) fun d => X d ds1) : XW (xO fm) ds X := by
  obtain ⟨m, ds1, e, d, e2, q⟩ := k
  cases m with
  | d x => cases e2; exact ⟨_, _, xOd_ev e, q⟩
  | lst xs => cases e2; exact ⟨_, _, xOl_ev e, q⟩
  | _ => cases e2
theorem xw_op {o : D → D → Option D} (k : XW f ds fun x ds1 => XW f' ds1 fun y ds2 => OW (o x y) fun z => X z ds2) : XW (xOp o f f') ds X := by
  obtain ⟨x, ds1, e, y, ds2, e2, z, e3, q⟩ := k; exact ⟨z, ds2, xOp_ev e e2 e3, q⟩
theorem xw_opF {o : D → D → Option (List D)} (k : XW f ds fun x ds1 => XW f' ds1 fun y ds2 => OW (o x y) fun z => XM (.lst z) ds2) : XW (xOpF o f f') ds XM := by
  obtain ⟨x, ds1, e, y, ds2, e2, z, e3, q⟩ := k; exact ⟨_, ds2, xb_ev e (xb_ev e2 (xlift_ev (by rw [e3]; rfl))), q⟩
theorem xw_un {o : D → Option D} (k : XW f ds fun x ds1 => OW (o x) fun z => X z ds1) : XW (xUn o f) ds X := by
  obtain ⟨x, ds1, e, z, e3, q⟩ := k; exact ⟨z, ds1, xb_ev e (xlift_ev e3), q⟩
theorem xw_nil (q : XL [] ds) : XW xNil ds XL := ⟨_, _, rfl, q⟩
theorem xw_cons (k : XW f ds fun x ds1 => XW fl ds1 fun xs ds2 => XL (x :: xs) ds2) : XW (xCons f fl) ds XL := by
  obtain ⟨x, ds1, e, y, ds2, e2, q⟩ := k; exact ⟨_, ds2, xCons_ev e e2, q⟩
theorem xw_oNil (q : XMs [] ds) : XW oNil ds XMs := ⟨_, _, rfl, q⟩
theorem xw_oCons (k : XW fm ds fun x ds1 => XW fms ds1 fun xs ds2 => XMs (x :: xs) ds2) : XW (oCons fm fms) ds XMs := by
  obtain ⟨x, ds1, e, y, ds2, e2, q⟩ := k; exact ⟨_, ds2, oCons_ev e e2, q⟩
theorem xw_tup (k : XW fl ds fun xs ds1 => AW (xs.length ≤ sizeLine) (X (.tuple xs) ds1)) : XW (xTup fl) ds X := by
  obtain ⟨x, ds1, e, z, q⟩ := k; exact ⟨_, ds1, xTup_ev e z, q⟩
theorem xw_lst (k : XW fl ds fun xs ds1 => AW (xs.length ≤ sizeLine) (XM (.lst xs) ds1)) : XW (xLst fl) ds XM := by
  obtain ⟨x, ds1, e, z, q⟩ := k; exact ⟨_, ds1, xLst_ev e z, q⟩
theorem xw_call {o : List D → Option D} (k : XW fl ds fun xs ds1 => OW (o xs) fun z => X z ds1) : XW (xCall fl o) ds X := by
  obtain ⟨x, ds1, e, z, e2, q⟩ := k; exact ⟨_, ds1, xCall_ev e e2, q⟩
theorem xw_callF {o : List D → Option (List D)} (k : XW fl ds fun xs ds1 => OW (o xs) fun z => XM (.lst z) ds1) : XW (xCallF fl o) ds XM := by
  obtain ⟨x, ds1, e, z, e2, q⟩ := k; exact ⟨_, ds1, xb_ev e (xlift_ev (by rw [e2]; rfl)), q⟩
theorem xw_args {o : List D → Option (List D)} (k : XW fl ds fun xs ds1 => OW (o xs) fun z => XL z ds1) : XW (xArgs fl o) ds XL := by
  obtain ⟨x, ds1, e, z, e2, q⟩ := k; exact ⟨_, ds1, xb_ev e (xlift_ev e2), q⟩
theorem xw_src (k : XW f ds fun x ds1 => OW (srcD x) fun z => XL z ds1) : XW (xSrc f) ds XL := by
  obtain ⟨x, ds1, e, z, e2, q⟩ := k; exact ⟨_, ds1, xb_ev e (xlift_ev e2), q⟩
theorem xw_tr (k : XW f ds fun x ds1 => OW (truD x) fun z => XB z ds1) : XW (xTr f) ds XB := by
  obtain ⟨x, ds1, e, z, e2, q⟩ := k; exact ⟨_, ds1, xb_ev e (xlift_ev e2), q⟩
theorem xw_bool (k : XW f ds fun x ds1 => BW x fun z => XB z ds1) : XW (xBool f) ds XB := by
  obtain ⟨x, ds1, e, z, rfl, q⟩ := k; exact ⟨_, ds1, xBool_ev e, q⟩
theorem xw_not (k : XW fb ds fun b ds1 => XB (!b) ds1) : XW (xNot fb) ds XB := by
  obtain ⟨x, ds1, e, q⟩ := k; exact ⟨_, ds1, xb_ev e (xlift_ev rfl), q⟩
theorem xw_an (k : XW fb ds fun b ds1 => IW b (XW fb' ds1 XB) (XB false ds1)) : XW (xAnd fb fb') ds XB := by
  obtain ⟨b, ds1, e, k1, k2⟩ := k
  cases b with
  | true => obtain ⟨b2, ds2, e2, q⟩ := k1 rfl; exact ⟨b2, ds2, xb_ev e e2, q⟩
  | false => exact ⟨false, ds1, xb_ev e rfl, k2 rfl⟩
theorem xw_or0 (k : XW fb ds fun b ds1 => IW b (XB true ds1) (XW fb' ds1 XB)) : XW (xOr fb fb') ds XB := by
  obtain ⟨b, ds1, e, k1, k2⟩ := k
  cases b with
  | false => obtain ⟨b2, ds2, e2, q⟩ := k2 rfl; exact ⟨b2, ds2, xb_ev e e2, q⟩
  | true => exact ⟨true, ds1, xb_ev e rfl, k1 rfl⟩
theorem xw_if (k : XW fb ds fun b ds1 => IW b (XW f ds1 X) (XW f' ds1 X)) : XW (xIf fb f f') ds X := by
  obtain ⟨b, ds1, e, k1, k2⟩ := k
  cases b with
  | true => obtain ⟨b2, ds2, e2, q⟩ := k1 rfl; exact ⟨b2, ds2, xb_ev e e2, q⟩
  | false => obtain ⟨b2, ds2, e2, q⟩ := k2 rfl; exact ⟨b2, ds2, xb_ev e e2, q⟩
theorem xw_orV (k : XW f ds fun x ds1 => OW (truD x) fun b => IW b (X x ds1) (XW f' ds1 X)) : XW (xOrV f f') ds X := by
  obtain ⟨x, ds1, e, b, e1, k1, k2⟩ := k
  cases b with
  | true => exact ⟨x, ds1, xb_ev e (xb_ev (xlift_ev e1) rfl), k1 rfl⟩
  | false => obtain ⟨b2, ds2, e2, q⟩ := k2 rfl; exact ⟨b2, ds2, xb_ev e (xb_ev (xlift_ev e1) e2), q⟩
theorem xw_mt {i : Nat} {o : List D → List D → Option (D × List D)} {xs0 : List D} (e0 : lstAt ds i = some xs0) (k : XW fl ds fun as ds1 => OW (lstAt ds1 i) fun xs => PW2 (o xs as) fun d ys => SetW ds1 i (some (.lst ys)) fun ds2 => X d ds2) : XW (xMt i o fl) ds X := by
  obtain ⟨as, ds1, e, xs, e1, d, ys, e2, q⟩ := k; exact ⟨d, _, xMt_ev e0 e e1 e2, q⟩
theorem ow_lstAt {i : Nat} {xs : List D} (e : lstAt ds i = some xs) (q : QL xs) : OW (lstAt ds i) QL := ⟨xs, e, q⟩
theorem ow_stAt {i : Nat} {s : S} {Z : S → Prop} (e : stAt ds i = some s) (q : Z s) : OW (stAt ds i) Z := ⟨s, e, q⟩
theorem xw_cP {n : Nat} {F : List D → Option (MO S)} (k : XW fl ds fun as ds1 => AW (as.length = n) (OW (F as) fun m => XM m ds1)) : XW (oCallP n F fl) ds XM := by
  obtain ⟨as, ds1, e, n1, m, e2, q⟩ := k; exact ⟨m, _, callP_ev e n1 e2, q⟩
theorem xw_cS {n i : Nat} {F : S → List D → Option (MO S × S)} {s0 : S} (e0 : stAt ds i = some s0) (k : XW fl ds fun as ds1 => OW (stAt ds1 i) fun s => AW (as.length + 1 = n) (PW2 (F s as) fun m s' => SetW ds1 i (some (.st s')) fun ds2 => XM m ds2)) : XW (oCallS n i F fl) ds XM := by
  obtain ⟨as, ds1, e, s, e1, n1, m, s', e2, q⟩ := k; exact ⟨m, _, callS_ev e0 e e1 n1 e2, q⟩
theorem xw_cC {n i : Nat} {F : List Int → List D → Option (MO S)} {ns : List Int} (e0 : scrAt ds i = some ns) (k : XW fl ds fun as ds1 => AW (as.length + 1 = n) (OW (F ns as) fun m => XM m ds1)) : XW (oCallC n i F fl) ds XM := by
  obtain ⟨as, ds1, e, n1, m, e2, q⟩ := k
  exact ⟨m, ds1, by unfold oCallC; rw [e0, Option.bind_some]; exact xb_ev e (by rw [if_pos n1, e2]; rfl), q⟩
theorem xw_yes (q : XB true ds) : XW xYes ds XB := ⟨_, _, rfl, q⟩
variable {N : DS S → Prop} {R : MO S → DS S → Prop} {B C : DS S → Prop} {u v : SF S}
theorem sw_seq (k : SW u ds (fun ds1 => SW v ds1 N R B C) R B C) : SW (gSeq u v) ds N R B C := by
  obtain ⟨o, e, q⟩ := k
  unfold SW gSeq
  rw [e]
  cases o with
  | nx d => exact q
  | rt m d => exact ⟨_, rfl, q⟩
  | bk d => exact ⟨_, rfl, q⟩
  | ct d => exact ⟨_, rfl, q⟩
theorem sw_next (q : N ds) : SW gNext ds N R B C := ⟨_, rfl, q⟩
theorem sw_ret (k : XW fm ds R) : SW (gRet fm) ds N R B C := by
  obtain ⟨m, ds1, e, q⟩ := k; exact ⟨_, ret_ev e, q⟩
theorem sw_retN (q : R (.d .none) ds) : SW gRetN ds N R B C := ⟨_, rfl, q⟩
theorem sw_brk (q : B ds) : SW gBrk ds N R B C := ⟨_, rfl, q⟩
theorem sw_cnt (q : C ds) : SW gCnt ds N R B C := ⟨_, rfl, q⟩
theorem sw_asg {i : Nat} (k : XW fm ds fun m ds1 => SetW ds1 i (some m) N) : SW (gAsg i fm) ds N R B C := by
  obtain ⟨m, ds1, e, q⟩ := k; exact ⟨_, asg_ev e, q⟩
theorem sw_drop (k : XW f ds fun _ ds1 => N ds1) : SW (gDrop f) ds N R B C := by
  obtain ⟨m, ds1, e, q⟩ := k; exact ⟨_, drop_ev e, q⟩
theorem sw_if (k : XW fb ds fun b ds1 => IW b (SW u ds1 N R B C) (SW v ds1 N R B C)) : SW (gIfS fb u v) ds N R B C := by
  obtain ⟨b, ds1, e, k1, k2⟩ := k
  cases b with
  | true => obtain ⟨o, e2, q⟩ := k1 rfl; exact ⟨o, ifT_ev e e2, q⟩
  | false => obtain ⟨o, e2, q⟩ := k2 rfl; exact ⟨o, ifF_ev e e2, q⟩
theorem sw_asgT {t : D → Option (List (Nat × D))} (k : XW f ds fun d ds1 => OW (t d) fun as => SetDW ds1 as N) : SW (gAsgT t f) ds N R B C := by
  obtain ⟨d, ds1, e, as, e2, q⟩ := k; exact ⟨_, asgT_ev e e2, q⟩
theorem sw_par2 {i j : Nat} (k : XW fms ds fun ms ds1 => ∃ x y, ms = [x, y] ∧ SetW ds1 i (some x) fun ds2 => SetW ds2 j (some y) N) : SW (gPar2 i j fms) ds N R B C := by
  obtain ⟨ms, ds1, e, x, y, rfl, q⟩ := k; exact ⟨_, par2_ev e, q⟩
theorem sw_par3 {i j l : Nat} (k : XW fms ds fun ms ds1 => ∃ x y z, ms = [x, y, z] ∧ SetW ds1 i (some x) fun ds2 => SetW ds2 j (some y) fun ds3 => SetW ds3 l (some z) N) : SW (gPar3 i j l fms) ds N R B C := by
  obtain ⟨ms, ds1, e, x, y, z, rfl, q⟩ := k; exact ⟨_, par3_ev e, q⟩
theorem sw_parN {is : List Nat} (k : XW fms ds fun ms ds1 => AW (ms.length = is.length) (AW (ms.length ≤ sizeLine) (SetMW ds1 is ms N))) : SW (gParN is fms) ds N R B C := by
  obtain ⟨ms, ds1, e, h1, h2, q⟩ := k; exact ⟨_, parN_ev e h1 h2, q⟩
theorem ex2_mk {x y : MO S} {Z : MO S → MO S → Prop} (q : Z x y) : ∃ x' y', [x, y] = [x', y'] ∧ Z x' y' := ⟨x, y, rfl, q⟩
theorem ex3_mk {x y z : MO S} {Z : MO S → MO S → MO S → Prop} (q : Z x y z) : ∃ x' y' z', [x, y, z] = [x', y', z'] ∧ Z x' y' z' := ⟨x, y, z, rfl, q⟩
theorem sw_setI {j : Nat} {gi : DS S → Option D} (k : XW f ds fun d ds1 => OW (gi ds1) fun y => IntW y fun n => OW (lstAt ds1 j) fun xs => OW (ixN xs.length n) fun i => SetW ds1 j (some (.lst (xs.set i d))) N) : SW (gSetI j f gi) ds N R B C := by
  obtain ⟨d, ds1, e, y, e2, n, rfl, xs, e3, i, e4, q⟩ := k
  exact ⟨.nx (ds1.set j (some (.lst (xs.set i d)))), by unfold gSetI; rw [e, Option.bind_some]; dsimp only; rw [e2, Option.bind_some]; dsimp only; rw [e3, Option.bind_some, e4]; rfl, q⟩
theorem sw_for {src : XF S (List D)} {t : D → Option (List (Nat × D))} (k : XW src ds fun xs ds1 => FW t u xs ds1 N R) : SW (gFor src t u) ds N R B C := by
  obtain ⟨xs, ds1, e, o, e2, q⟩ := k
  refine ⟨o, DL.for_ev e e2, ?_⟩
  cases o with
  | nx d => exact q
  | rt m d => exact q
  | bk d => exact q.elim
  | ct d => exact q.elim
theorem fw_nil {t : D → Option (List (Nat × D))} (q : N ds) : FW t u [] ds N R := ⟨_, rfl, q⟩
theorem fw_cons {t : D → Option (List (Nat × D))} {x : D} {xs : List D} (k : OW (t x) fun as => SetDW ds as fun ds' => SW u ds' (fun d => FW t u xs d N R) R N (fun d => FW t u xs d N R)) : FW t u (x :: xs) ds N R := by
  obtain ⟨as, h1, o, h2, q⟩ := k
  unfold FW forRun
  rw [h1, Option.bind_some, h2, Option.bind_some]
  cases o with
  | nx d => exact q
  | ct d => exact q
  | rt m d => exact ⟨_, rfl, q⟩
  | bk d => exact ⟨_, rfl, q⟩
theorem fw_goK {t : D → Option (List (Nat × D))} {enc : γ → D} (Inv : Nat → DS S → Prop) : ∀ (es : List γ) (k : Nat) (ds : DS S), Inv k ds →
    (∀ n e, es[n]? = some e → ∀ ds, Inv (k + n) ds → OW (t (enc e)) fun as => SetDW ds as fun ds' => SW u ds' (Inv (k + n + 1)) R N (Inv (k + n + 1))) →
    (∀ ds, Inv (k + es.length) ds → N ds) → FW t u (es.map enc) ds N R
  | [], k, ds, h0, _, hN => fw_nil (hN ds h0)
  | e :: es, k, ds, h0, hs, hN => by
    refine fw_cons ?_
    have go : ∀ d, Inv (k + 1) d → FW t u (es.map enc) d N R := fun d hd => fw_goK Inv es (k + 1) d hd (fun n x hx ds hds => by
      have := hs (n + 1) x (by simpa using hx) ds (by rw [show k + (n + 1) = k + 1 + n from by omega]; exact hds)
      rw [show k + (n + 1) = k + 1 + n from by omega] at this
      exact this) fun d h => hN d (by rw [List.length_cons, show k + (es.length + 1) = k + 1 + es.length from by omega]; exact h)
    refine ow_imp (hs 0 e rfl ds h0) fun as h => ?_
    exact sw_imp (R := R) h (fun d h => go d h) (fun _ _ h => h) (fun _ h => h) fun d h => go d h
theorem fw_map {t : D → Option (List (Nat × D))} {enc : γ → D} {es : List γ} (Inv : Nat → DS S → Prop) (h0 : Inv 0 ds)
    (hs : ∀ n e, es[n]? = some e → ∀ ds, Inv n ds → OW (t (enc e)) fun as => SetDW ds as fun ds' => SW u ds' (Inv (n + 1)) R N (Inv (n + 1)))
    (hN : ∀ ds, Inv es.length ds → N ds) : FW t u (es.map enc) ds N R :=
  fw_goK Inv es 0 ds h0 (fun n e he ds h => by rw [Nat.zero_add] at h ⊢; exact hs n e he ds h) fun d h => hN d (by rw [Nat.zero_add] at h; exact h)
theorem fw_xs {t : D → Option (List (Nat × D))} {xs : List D} {enc : γ → D} (es : List γ) (ex : xs = es.map enc) (Inv : Nat → DS S → Prop) (h0 : Inv 0 ds)
    (hs : ∀ n e, es[n]? = some e → ∀ ds, Inv n ds → OW (t (enc e)) fun as => SetDW ds as fun ds' => SW u ds' (Inv (n + 1)) R N (Inv (n + 1)))
    (hN : ∀ ds, Inv es.length ds → N ds) : FW t u xs ds N R := by subst ex; exact fw_map Inv h0 hs hN
theorem ow_asgT {t : D → Option (List (Nat × D))} {d : D} {as : List (Nat × D)} {Z : List (Nat × D) → Prop} (e : t d = some as) (q : Z as) : OW (t d) Z := ⟨as, e, q⟩
theorem sw_while {n : Nat} {cnd : XF S Bool} (Inv : Nat → DS S → Prop) (m : Nat) (hm : m < n) (h0 : Inv m ds)
    (hs : ∀ k ds, Inv k ds → XW cnd ds fun b ds1 => IW b (SW u ds1 (fun d => ∃ j, j < k ∧ Inv j d) R N (fun d => ∃ j, j < k ∧ Inv j d)) (N ds1)) : SW (gWhile n cnd u) ds N R B C := by
  have go : ∀ (f k : Nat) (ds : DS S), k < f → Inv k ds → ∃ o, whileRun cnd u f ds = some o ∧ SEndW N R (fun _ => False) (fun _ => False) o := by
    intro f
    induction f with
    | zero => intro k ds h; omega
    | succ f ih =>
      intro k ds h hi
      obtain ⟨b, ds1, e, k1, k2⟩ := hs k ds hi
      unfold whileRun
      rw [e, Option.bind_some]
      cases b with
      | false => exact ⟨_, rfl, k2 rfl⟩
      | true =>
        obtain ⟨o, e2, q⟩ := k1 rfl
        rw [if_pos rfl]
        dsimp only
        rw [e2, Option.bind_some]
        cases o with
        | nx d => obtain ⟨j, h1, h2⟩ := q; exact ih j d (by omega) h2
        | ct d => obtain ⟨j, h1, h2⟩ := q; exact ih j d (by omega) h2
        | rt m d => exact ⟨_, rfl, q⟩
        | bk d => exact ⟨_, rfl, q⟩
  obtain ⟨o, e, q⟩ := go n m ds hm h0
  refine ⟨o, e, ?_⟩
  cases o with
  | nx d => exact q
  | rt m d => exact q
  | bk d => exact q.elim
  | ct d => exact q.elim
theorem ow_runP {n : Nat} {as : List D} {Z : MO S → Prop} (d0 : DS S) (e0 : startD n (as.map .d) = d0) (k : SW u d0 (fun _ => Z (.d .none)) (fun m _ => Z m) (fun _ => False) (fun _ => False)) : OW (runP n u as) Z := by
  subst e0
  obtain ⟨o, e, q⟩ := k
  unfold runP
  rw [e]
  cases o with
  | nx d => exact ⟨_, rfl, q⟩
  | rt m d => exact ⟨_, rfl, q⟩
  | bk d => exact q.elim
  | ct d => exact q.elim
theorem ow_runC {n : Nat} {ns : List Int} {as : List D} {Z : MO S → Prop} (d0 : DS S) (e0 : startD n (.scr ns :: as.map .d) = d0) (k : SW u d0 (fun _ => Z (.d .none)) (fun m _ => Z m) (fun _ => False) (fun _ => False)) : OW (runC n u ns as) Z := by
  subst e0
  obtain ⟨o, e, q⟩ := k
  unfold runC
  rw [e]
  cases o with
  | nx d => exact ⟨_, rfl, q⟩
  | rt m d => exact ⟨_, rfl, q⟩
  | bk d => exact q.elim
  | ct d => exact q.elim
theorem ow_get {o : Option α} {x : α} (h : OW o fun y => y = x) : o = some x := by obtain ⟨y, e, rfl⟩ := h; exact e
end
section
variable {Q : D → Prop} {QL : List D → Prop} {QB : Bool → Prop} {QP : D → List D → Prop}
theorem ow_add {i j : Int} (q : Q (.int (i + j))) : OW (addA (.int i) (.int j)) Q := ⟨_, rfl, q⟩
theorem ow_addL {xs ys : List D} (z : xs.length + ys.length ≤ sizeLine) (q : Q (.list (xs ++ ys))) : OW (addA (.list xs) (.list ys)) Q := ⟨_, by unfold addA; dsimp only; unfold addL; dsimp only; rw [if_pos z]; rfl, q⟩
theorem ow_sub {i j : Int} (q : Q (.int (i - j))) : OW (subD (.int i) (.int j)) Q := ⟨_, rfl, q⟩
theorem ow_mulL {i j : Int} (h : -(2 ^ 64) < i ∧ i < 2 ^ 64) (q : Q (.int (i * j))) : OW (mulD (.int i) (.int j)) Q := ⟨_, by unfold mulD; dsimp only; rw [if_pos (.inl h)], q⟩
theorem ow_mulR {i j : Int} (h : -(2 ^ 64) < j ∧ j < 2 ^ 64) (q : Q (.int (i * j))) : OW (mulD (.int i) (.int j)) Q := ⟨_, by unfold mulD; dsimp only; rw [if_pos (.inr h)], q⟩
theorem ow_mod {i j : Int} (h : 0 < j) (q : Q (.int (i % j))) : OW (modD (.int i) (.int j)) Q := ⟨_, by unfold modD; dsimp only; rw [if_pos h], q⟩
theorem ow_div {i j : Int} (h1 : 0 < j) (h2 : j < 2 ^ 100) (q : Q (.int (i / j))) : OW (divD (.int i) (.int j)) Q := by
  have h3 : j.natAbs < 2 ^ 100 := by omega
  have h4 : j.natAbs.log2 < 100 := (Nat.log2_lt (by omega)).mpr h3
  exact ⟨_, by unfold divD; dsimp only; rw [if_pos ⟨h1, Nat.lt_trans h4 (by decide)⟩], q⟩
theorem ow_neg {i : Int} (q : Q (.int (-i))) : OW (negD (.int i)) Q := ⟨_, rfl, q⟩
theorem ow_lt {i j : Int} (q : Q (.bool (decide (i < j)))) : OW (ltD (.int i) (.int j)) Q := ⟨_, rfl, q⟩
theorem ow_le {i j : Int} (q : Q (.bool (decide (i ≤ j)))) : OW (leD (.int i) (.int j)) Q := ⟨_, rfl, q⟩
theorem ow_gt {i j : Int} (q : Q (.bool (decide (j < i)))) : OW (gtD (.int i) (.int j)) Q := ⟨_, rfl, q⟩
theorem ow_ge {i j : Int} (q : Q (.bool (decide (j ≤ i)))) : OW (geD (.int i) (.int j)) Q := ⟨_, rfl, q⟩
theorem ow_eqI {i j : Int} (q : Q (.bool (decide (i = j)))) : OW (eqD (.int i) (.int j)) Q := ⟨_, by
  show some (PyData.bool (i == j)) = _
  rw [show (i == j) = decide (i = j) from by by_cases h : i = j <;> simp [h]], q⟩
theorem ow_neI {i j : Int} (q : Q (.bool (!decide (i = j)))) : OW (neD (.int i) (.int j)) Q := ⟨_, by
  show some (PyData.bool (!(i == j))) = _
  rw [show (i == j) = decide (i = j) from by by_cases h : i = j <;> simp [h]], q⟩
theorem ow_eqS {x y : Str} (q : Q (.bool (decide (x = y)))) : OW (eqD (.str x) (.str y)) Q := ⟨_, by
  show some (PyData.bool (x == y)) = _
  rw [show (x == y) = decide (x = y) from by by_cases h : x = y <;> simp [h]], q⟩
theorem ow_neS {x y : Str} (q : Q (.bool (!decide (x = y)))) : OW (neD (.str x) (.str y)) Q := ⟨_, by
  show some (PyData.bool (!(x == y))) = _
  rw [show (x == y) = decide (x = y) from by by_cases h : x = y <;> simp [h]], q⟩
theorem ow_isN_n (q : Q (.bool true)) : OW (isND .none .none) Q := ⟨_, rfl, q⟩
theorem ow_isN_i {i : Int} (q : Q (.bool false)) : OW (isND (.int i) .none) Q := ⟨_, rfl, q⟩
theorem ow_notN_n (q : Q (.bool false)) : OW (notND .none .none) Q := ⟨_, rfl, q⟩
theorem ow_notN_i {i : Int} (q : Q (.bool true)) : OW (notND (.int i) .none) Q := ⟨_, rfl, q⟩
theorem ow_notN_s {i : Str} (q : Q (.bool true)) : OW (notND (.str i) .none) Q := ⟨_, rfl, q⟩
theorem ow_ix {x y z : D} (e : ixD x y = some z) (q : Q z) : OW (ixD x y) Q := ⟨z, e, q⟩
theorem atI_0 {x : D} {xs : List D} : atI (x :: xs) 0 = some x := by
  unfold atI ixN
  rw [if_pos (Int.le_refl 0), if_pos (by simp only [List.length_cons]; omega)]
  rfl
theorem ow_ix0L {x : D} {xs : List D} (q : Q x) : OW (ixD (.list (x :: xs)) (.int 0)) Q := ⟨x, atI_0, q⟩
theorem ow_ix0T {x : D} {xs : List D} (q : Q x) : OW (ixD (.tuple (x :: xs)) (.int 0)) Q := ⟨x, atI_0, q⟩
theorem ow_lenLm {α : Type} {f : α → D} {l : List α} (q : Q (.int (l.length : Nat))) : OW (lenD [.list (l.map f)]) Q := ⟨_, by show some (PyData.int ((l.map f).length : Nat)) = _; rw [List.length_map], q⟩
theorem ow_lenTm {α : Type} {f : α → D} {l : List α} (q : Q (.int (l.length : Nat))) : OW (lenD [.tuple (l.map f)]) Q := ⟨_, by show some (PyData.int ((l.map f).length : Nat)) = _; rw [List.length_map], q⟩
theorem ow_lenL {l : List D} (q : Q (.int (l.length : Nat))) : OW (lenD [.list l]) Q := ⟨_, rfl, q⟩
theorem ow_lenT {l : List D} (q : Q (.int (l.length : Nat))) : OW (lenD [.tuple l]) Q := ⟨_, rfl, q⟩
theorem ow_lenS {x : Str} (q : Q (.int (x.length : Nat))) : OW (lenD [.str x]) Q := ⟨_, rfl, q⟩
theorem ow_tupleL {xs : List D} (q : Q (.tuple xs)) : OW (tupleD [.list xs]) Q := ⟨_, rfl, q⟩
theorem ow_tupleT {xs : List D} (q : Q (.tuple xs)) : OW (tupleD [.tuple xs]) Q := ⟨_, rfl, q⟩
theorem ow_listL {xs : List D} (q : QL xs) : OW (listD [.list xs]) QL := ⟨_, rfl, q⟩
theorem ow_listT {xs : List D} (q : QL xs) : OW (listD [.tuple xs]) QL := ⟨_, rfl, q⟩
theorem ow_srcL {xs : List D} (q : QL xs) : OW (srcD (.list xs)) QL := ⟨_, rfl, q⟩
theorem ow_srcT {xs : List D} (q : QL xs) : OW (srcD (.tuple xs)) QL := ⟨_, rfl, q⟩
theorem ow_truB {b : Bool} (q : QB b) : OW (truD (.bool b)) QB := ⟨_, rfl, q⟩
theorem ow_intB {b : Bool} (q : Q (.int (if b then 1 else 0))) : OW (intD [.bool b]) Q := ⟨_, by cases b <;> rfl, q⟩
theorem ow_min {i j : Int} (q : Q (.int (if j < i then j else i))) : OW (min2 [.int i, .int j]) Q := ⟨_, rfl, q⟩
theorem ow_max {i j : Int} (q : Q (.int (if j > i then j else i))) : OW (max2 [.int i, .int j]) Q := ⟨_, rfl, q⟩
theorem rngD0 (n : Nat) : rngD 0 n = (List.range n).map fun k : Nat => PyData.int (k : Nat) := by
  show (List.range n).map (fun k : Nat => PyData.int ((0 : Int) + (k : Int))) = _
  refine List.map_congr_left fun k _ => ?_
  rw [Int.zero_add]
theorem ow_rng1 {n : Nat} (h : n ≤ 1000000) (q : QL ((List.range n).map fun k : Nat => PyData.int (k : Nat))) : OW (rng1 [.int (n : Int)]) QL := ⟨_, by
  unfold rng1
  dsimp only
  have : (1000000 : Int) ≤ sizeLine := by decide
  rw [if_pos ⟨by omega, by omega⟩, Int.toNat_natCast, rngD0], q⟩
theorem ow_app {xs : List D} {x : D} (h : xs.length < sizeLine) (q : QP .none (xs ++ [x])) : PW2 (appD xs [x]) QP := ⟨_, _, by unfold appD; dsimp only; rw [if_pos h], q⟩
theorem ow_appm {α : Type} {f : α → D} {xs : List α} {x : D} (h : xs.length < 1000000) (q : QP .none (xs.map f ++ [x])) : PW2 (appD (xs.map f) [x]) QP := ow_app (by have : (1000000 : Nat) ≤ sizeLine := (by decide); rw [List.length_map]; omega) q
end
section
variable {S : Type} {ds ds1 ds2 : DS S} {Q : D → Prop} {X : D → DS S → Prop} {XM : MO S → DS S → Prop} {N : DS S → Prop} {R : MO S → DS S → Prop} {B C : DS S → Prop}
theorem ow_dget {j : Nat} {g : DS S → Option D} {kvs : List (Key × D)} (e0 : dicLs ds j = some kvs) (k : OW (g ds) fun x => OW (keyOf1 x) fun k => OW (lookD kvs k) Q) : OW (gDGet j g ds) Q := by
  obtain ⟨x, e1, k, e2, d, e3, q⟩ := k
  exact ⟨d, by unfold gDGet gDLook; rw [e0, Option.bind_some, e1, Option.bind_some, e2]; show (some (lookD kvs k)).bind id = _; rw [e3]; rfl, q⟩
theorem ow_din {j : Nat} {b : Bool} {g : DS S → Option D} {kvs : List (Key × D)} (e0 : dicLs ds j = some kvs) (k : OW (g ds) fun x => OW (keyOf1 x) fun k => Q (.bool (if b then (lookD kvs k).isSome else !(lookD kvs k).isSome))) : OW (gDIn b j g ds) Q := by
  obtain ⟨x, e1, k, e2, q⟩ := k
  exact ⟨_, by unfold gDIn gDLook; rw [e0, Option.bind_some, e1, Option.bind_some, e2]; rfl, q⟩
theorem ow_keyS {x : Str} {Z : Key → Prop} (q : Z (.inr x)) : OW (keyOf1 (.str x)) Z := ⟨_, rfl, q⟩
theorem ow_keyI {x : Int} {Z : Key → Prop} (q : Z (.inl x)) : OW (keyOf1 (.int x)) Z := ⟨_, rfl, q⟩
theorem xw_dict {f : XF S D} (k : XW f ds fun x ds1 => OW (dictD x) fun ms => XM (.dic ms) ds1) : XW (oDict f) ds XM := by
  obtain ⟨x, ds1, e, ms, e2, q⟩ := k; exact ⟨_, ds1, xb_ev e (xlift_ev (by rw [e2]; rfl)), q⟩
theorem xw_dictNew (q : XM (.dic []) ds) : XW oDictNew ds XM := ⟨_, _, rfl, q⟩
theorem xw_dItems {j : Nat} {kvs : List (Key × D)} (e0 : dicKs ds j = some kvs) (k : AW (kvs.length ≤ sizeLine) (XM (.lst (kvs.map encKV)) ds)) : XW (oDItems j) ds XM := ⟨_, ds, by unfold oDItems; rw [e0, Option.bind_some, if_pos k.1], k.2⟩
theorem sw_dput {j : Nat} {f : XF S D} {g : DS S → Option D} (k : XW f ds fun d ds1 => OW (dicKs ds1 j) fun kvs => OW (g (hideDS ds1)) fun x => OW (keyOf1 x) fun k => AW (kvs.length < sizeLine) (SetW ds1 j (some (.dic (putD kvs k d))) N)) : SW (gDPut j f g) ds N R B C := by
  obtain ⟨d, ds1, e, kvs, e1, x, e2, k, e3, z, q⟩ := k
  exact ⟨.nx (ds1.set j (some (.dic (putD kvs k d)))), by unfold gDPut; rw [e, Option.bind_some]; dsimp only; rw [e1, Option.bind_some, e2, Option.bind_some, e3, Option.bind_some, if_pos z], q⟩
theorem ow_dicKs {j : Nat} {kvs : List (Key × D)} {Z : List (Key × D) → Prop} (e : dicKs ds j = some kvs) (q : Z kvs) : OW (dicKs ds j) Z := ⟨kvs, e, q⟩
theorem xw_move {i : Nat} {xs : List D} (e : ds[i]? = some (some (.lst xs))) (k : SetW ds i none fun ds1 => XM (.lst xs) ds1) : XW (oMove i) ds XM := ⟨_, _, by unfold oMove; rw [e], k⟩
theorem ow_ext {xs ys : List D} {QP : D → List D → Prop} (z : xs.length + ys.length ≤ sizeLine) (q : QP .none (xs ++ ys)) : PW2 (extBD xs [.list ys]) QP := ⟨_, _, by unfold extBD; dsimp only; unfold extD; dsimp only; rw [if_pos z], q⟩
theorem xw_andV {f f' : XF S D} (k : XW f ds fun x ds1 => OW (truD x) fun t => IW t (XW f' ds1 X) (X x ds1)) : XW (xAndV f f') ds X := by
  obtain ⟨x, ds1, e, t, e1, k1, k2⟩ := k
  cases t with
  | true => obtain ⟨y, ds2, e2, q⟩ := k1 rfl; exact ⟨y, ds2, xb_ev e (xb_ev (xlift_ev e1) e2), q⟩
  | false => exact ⟨x, ds1, xb_ev e (xb_ev (xlift_ev e1) rfl), k2 rfl⟩
theorem iw_nT {P Q : Prop} (q : Q) : IW (!true) P Q := iw_f rfl q
theorem iw_nF {P Q : Prop} (p : P) : IW (!false) P Q := iw_t rfl p
end
theorem raiseF_ev {S : Type} {ds ds1 : DS S} {x f : Str} {fs : XF S (List D)} {y : D} (e : fs ds = some ([y], ds1)) : gRaiseF x f fs ds = some (.ex ⟨x, some (f, y)⟩ ds1) := by unfold gRaiseF; rw [e]; rfl
theorem put_new {kvs : List (Key × D)} {k : Key} {d : D} (h : ∀ p ∈ kvs, p.1 ≠ k) : putD kvs k d = kvs ++ [(k, d)] := by
  unfold putD
  rw [if_neg]
  intro z
  obtain ⟨p, hp, e⟩ := List.any_eq_true.mp z
  exact h p hp (of_decide_eq_true e)
section
variable {S : Type} {ds : DS S} {Q : D → Prop} {QL : List D → Prop} {g go a : DS S → Option D} {gs : DS S → Option (List D)} {x f m : Str} {i j n : Nat}
theorem ow_fld (k : OW (g ds) fun d => OW (fldD x f d) Q) : OW (gFld x f g ds) Q := by
  obtain ⟨d, e, y, e2, q⟩ := k; exact ⟨y, by unfold gFld; rw [e]; exact e2, q⟩
theorem ow_meth {F : List D → Option (MO S)} (k : OW (go ds) fun d => OW (gs ds) fun as => AW (meOk x m d = true) (AW (as.length + 1 = n) (OW (F (d :: as)) fun r => OW (toD r) Q))) : OW (gMeth n x m F go gs ds) Q := by
  obtain ⟨d, e, as, e2, h1, h2, r, e3, y, e4, q⟩ := k
  exact ⟨y, by unfold gMeth; rw [e, Option.bind_some, e2, Option.bind_some, if_pos ⟨h1, h2⟩, e3]; exact e4, q⟩
theorem ow_dgetN {kvs : List (Key × D)} (e0 : dicLs ds j = some kvs) (k : OW (g ds) fun x => OW (keyOf1 x) fun k => Q ((lookD kvs k).getD .none)) : OW (gDGetN j g ds) Q := by
  obtain ⟨x, e, kk, e2, q⟩ := k
  exact ⟨_, by unfold gDGetN gDLook; rw [e0, Option.bind_some, e, Option.bind_some, e2]; rfl, q⟩
theorem ow_ixk {kvs : List (Key × D)} {y : D} (k : OW (keyOf1 y) fun k => OW (lookD kvs k) Q) : OW (ixK (.dict ((.none, .bool true) :: encKs kvs)) y) Q := by
  obtain ⟨kk, e, d, e2, q⟩ := k
  exact ⟨d, by unfold ixK; dsimp only; rw [decK_enc, Option.bind_some, e]; exact e2, q⟩
theorem ow_ink {b : Bool} {kvs : List (Key × D)} {y : D} (k : OW (keyOf1 y) fun k => Q (.bool (if b then (lookD kvs k).isSome else !(lookD kvs k).isSome))) : OW (inK b y (.dict ((.none, .bool true) :: encKs kvs))) Q := by
  obtain ⟨kk, e, q⟩ := k
  refine ⟨_, ?_, q⟩
  unfold inK
  dsimp only
  rw [decK_enc, Option.bind_some, e]
  rfl
theorem ow_slF {l u : DS S → Option (Option Int)} (k : OW (a ds) fun x => OW (l ds) fun lo => OW (u ds) fun hi => OW (slL x lo hi) QL) : OW (gSlF a l u ds) QL := by
  obtain ⟨x, e, lo, e1, hi, e2, y, e3, q⟩ := k
  exact ⟨y, by unfold gSlF; rw [e, Option.bind_some, e1, Option.bind_some, e2]; exact e3, q⟩
theorem ow_slL {xs : List D} {lo hi : Option Int} (q : QL (cutD xs lo hi)) : OW (slL (.list xs) lo hi) QL := ⟨_, rfl, q⟩
theorem ow_zipTL {xs ys : List D} (q : QL (zipD xs ys)) : OW (zipTL [.tuple xs, .list ys]) QL := ⟨_, rfl, q⟩
theorem ow_zip2T {xs ys : List D} (q : QL (zipD xs ys)) : OW (zip2 [.tuple xs, .tuple ys]) QL := ⟨_, rfl, q⟩
theorem ow_zip2L {xs ys : List D} (q : QL (zipD xs ys)) : OW (zip2 [.list xs, .list ys]) QL := ⟨_, rfl, q⟩
variable {X : D → DS S → Prop} {XL : List D → DS S → Prop} {XB : Bool → DS S → Prop} {XM : MO S → DS S → Prop} {ff : XF S D} {fl : XF S (List D)} {fb : XF S Bool} {fa fc : XF S (MO S)} {fo : XF S (List (MO S))}
theorem xw_oMeth {F : List D → Option (MO S)} (k : OW (go ds) fun d => OW (gs ds) fun as => AW (meOk x m d = true) (AW (as.length + 1 = n) (OW (F (d :: as)) fun r => LsW r fun ys => AW (noListAll ys = true) (XM (.lst ys) ds)))) : XW (oMeth n x m F go gs) ds XM := by
  obtain ⟨d, e, as, e2, h1, h2, r, e3, ys, e4, h3, q⟩ := k
  subst e4
  exact ⟨_, ds, by unfold oMeth; rw [e, Option.bind_some, e2, Option.bind_some, if_pos ⟨h1, h2⟩, e3, Option.bind_some]; dsimp only; rw [if_pos h3], q⟩
theorem xw_mtF {o : List D → List D → Option (D × List D)} {fs : Fls} (e0 : objAt ds i x = some fs) (k : OW (lstF f fs) fun xs => OW (gs (hideDS ds)) fun as => PW2 (o xs as) fun d ys => SetW ds i (some (.obj x (putFV f (.l ys) fs))) fun ds2 => X d ds2) : XW (xMtF i x f o gs) ds X := by
  obtain ⟨xs, e, as, e2, d, ys, e3, q⟩ := k
  exact ⟨d, _, by unfold xMtF; rw [e0, Option.bind_some, e, Option.bind_some, e2, Option.bind_some, e3]; rfl, q⟩
theorem xw_cU {F : List D → List D → Option (MO S × List D)} {s0 : List D} (e0 : lstAt ds i = some s0) (k : XW fl ds fun as ds1 => OW (lstAt ds1 i) fun s => AW (as.length + 1 = n) (PW2 (F s as) fun r s' => SetW ds1 i (some (.lst s')) fun ds2 => XM r ds2)) : XW (oCallU n i F fl) ds XM := by
  obtain ⟨as, ds1, e, s, e1, n1, r, s', e2, q⟩ := k
  exact ⟨r, _, by unfold oCallU; rw [e0, Option.bind_some]; exact xb_ev e (by rw [e1, Option.bind_some, if_pos n1, e2]; rfl), q⟩
theorem xw_cM {F : List (MO S) → Option (MO S × List (MO S))} {s0 : List D} (e0 : lstAt ds i = some s0) (k : XW fo ds fun mos ds1 => OW (lstAt ds1 i) fun s => AW (mos.length + 1 = n) (PW2 (F (.lst s :: mos)) fun r ms => ∃ ys rest, ms = .lst ys :: rest ∧ SetW ds1 i (some (.lst ys)) fun ds2 => XM r ds2)) : XW (oCallM n i F fo) ds XM := by
  obtain ⟨as, ds1, e, s, e1, n1, r, ms, e2, ys, rest, e3, q⟩ := k
  subst e3
  exact ⟨r, _, by unfold oCallM; rw [e0, Option.bind_some]; exact xb_ev e (by rw [e1, Option.bind_some, if_pos n1, e2]; rfl), q⟩
theorem xw_cB {F : Fls → List D → Option (MO S × Fls)} {fs0 : Fls} (e0 : objAt ds i x = some fs0) (k : AW ((fldL m (fsD fs0)).isNone = true) (XW fl ds fun as ds1 => OW (objAt ds1 i x) fun fs => AW (as.length + 1 = n) (PW2 (F fs as) fun r fs' => SetW ds1 i (some (.obj x fs')) fun ds2 => XM r ds2))) : XW (oCallB n i x m F fl) ds XM := by
  obtain ⟨h, as, ds1, e, s, e1, n1, r, s', e2, q⟩ := k
  exact ⟨r, _, by unfold oCallB; rw [e0, Option.bind_some, if_pos h]; exact xb_ev e (by rw [e1, Option.bind_some, if_pos n1, e2]; rfl), q⟩
theorem ow_objAt {fs : Fls} {Z : Fls → Prop} (e : objAt ds i x = some fs) (q : Z fs) : OW (objAt ds i x) Z := ⟨fs, e, q⟩
theorem xw_make {F : Fls → List D → Option (MO S × Fls)} (k : XW fl ds fun as ds1 => AW (as.length + 1 = n) (PW2 (F [] as) fun r fs => r = .d .none ∧ XM (.obj x fs) ds1)) : XW (oMake x n F fl) ds XM := by
  obtain ⟨as, ds1, e, n1, r, fs, e2, e3, q⟩ := k
  subst e3
  exact ⟨_, ds1, by unfold oMake; exact xb_ev e (xlift_ev (by rw [if_pos n1, e2]; rfl)), q⟩
theorem xw_scLen {ns : List Int} (e0 : scrAt ds j = some ns) (q : X (.int (ns.length : Nat)) ds) : XW (xScLen j) ds X := ⟨_, ds, by unfold xScLen; rw [e0]; rfl, q⟩
theorem xw_scIx {ns0 : List Int} (e0 : scrAt ds j = some ns0) (k : XW ff ds fun d ds1 => IntW d fun i => OW (scrAt ds1 j) fun ns => OW (atI ns i) fun z => X (.int z) ds1) : XW (xScIx j ff) ds X := by
  obtain ⟨d, ds1, e, i, e1, ns, e2, z, e3, q⟩ := k
  subst e1
  exact ⟨_, ds1, by unfold xScIx; rw [e0, Option.bind_some, e, Option.bind_some]; dsimp only; rw [e2, Option.bind_some, e3]; rfl, q⟩
theorem ow_scrAt {ns : List Int} {Z : List Int → Prop} (e : scrAt ds j = some ns) (q : Z ns) : OW (scrAt ds j) Z := ⟨ns, e, q⟩
theorem xw_ixL {xs0 : List D} (e0 : lstAt ds j = some xs0) (k : XW ff ds fun d ds1 => IntW d fun i => OW (lstAt ds1 j) fun xs => OW (atI xs i) fun z => X z ds1) : XW (xIxL j ff) ds X := by
  obtain ⟨d, ds1, e, i, e1, ns, e2, z, e3, q⟩ := k
  subst e1
  exact ⟨_, ds1, by unfold xIxL; rw [e0, Option.bind_some, e, Option.bind_some]; dsimp only; rw [e2, Option.bind_some, e3]; rfl, q⟩
theorem xw_frz {xs : List D} (e : ds[i]? = some (some (.lst xs))) (k : SetW ds i (some (.d (.list xs))) fun ds1 => X (.list xs) ds1) : XW (xFrz i) ds X := ⟨_, _, by unfold xFrz; rw [e], k⟩
theorem xw_frzD {x : D} (e : ds[i]? = some (some (.d x))) (q : X x ds) : XW (xFrz i) ds X := ⟨_, _, by unfold xFrz; rw [e], q⟩
theorem xw_frzK {kvs : List (Key × D)} (e : ds[i]? = some (some (.dic kvs))) (k : SetW ds i (some (.d (.dict ((.none, .bool true) :: encKs kvs)))) fun ds1 => X (.dict ((.none, .bool true) :: encKs kvs)) ds1) : XW (xFrzK i) ds X := ⟨_, _, by unfold xFrzK; rw [e], k⟩
theorem xw_moveK {kvs : List (Key × D)} (e : ds[i]? = some (some (.dic kvs))) (k : SetW ds i none fun ds1 => XM (.dic kvs) ds1) : XW (oMove i) ds XM := ⟨_, _, by unfold oMove; rw [e], k⟩
theorem xw_noPart {XO : Option Int → DS S → Prop} (q : XO none ds) : XW (xNoPart (S := S)) ds XO := ⟨_, ds, rfl, q⟩
theorem xw_part {XO : Option Int → DS S → Prop} (k : XW ff ds fun d ds1 => IntW d fun i => XO (some i) ds1) : XW (xPart ff) ds XO := by
  obtain ⟨d, ds1, e, i, e1, q⟩ := k
  subst e1
  exact ⟨_, ds1, xb_ev e (xlift_ev rfl), q⟩
theorem xw_sl3 {fl fu : XF S (Option Int)} {o : D → Option Int → Option Int → Option D} (k : XW ff ds fun d ds1 => XW fl ds1 fun lo ds2 => XW fu ds2 fun hi ds3 => OW (o d lo hi) fun y => X y ds3) : XW (xSl3 ff fl fu o) ds X := by
  obtain ⟨d, ds1, e, lo, ds2, e1, hi, ds3, e2, y, e3, q⟩ := k
  exact ⟨y, ds3, xb_ev e (xb_ev e1 (xb_ev e2 (xlift_ev e3))), q⟩
theorem xw_step {fs : XF S (Option Int)} (k : XW ff ds fun d ds1 => XW fs ds1 fun o ds2 => OW (stepD d o) fun zs => XM (.lst zs) ds2) : XW (oStep ff fs) ds XM := by
  obtain ⟨d, ds1, e, o, ds2, e1, zs, e2, q⟩ := k
  exact ⟨_, ds2, xb_ev e (xb_ev e1 (xlift_ev (by rw [e2]; rfl))), q⟩
theorem xw_oIf (k : XW fb ds fun b ds1 => IW b (XW fa ds1 XM) (XW fc ds1 XM)) : XW (oIf fb fa fc) ds XM := by
  obtain ⟨b, ds1, e, k1, k2⟩ := k
  cases b with
  | true => obtain ⟨y, ds2, e2, q⟩ := k1 rfl; exact ⟨y, ds2, xb_ev e e2, q⟩
  | false => obtain ⟨y, ds2, e2, q⟩ := k2 rfl; exact ⟨y, ds2, xb_ev e e2, q⟩
theorem letw {ds0 : DS S} {N : DS S → Prop} (e : ds = ds0) (q : N ds0) : LetW ds N := by subst e; exact q
theorem lcX_go {γ : Type} {own : List Nat} {t : D → Option (List (Nat × D))} {h : XF S Bool} {e : XF S D} {enc : γ → D} (Inv : Nat → List D → DS S → Prop) : ∀ (es : List γ) (k : Nat) (acc : List D) (ds : DS S), Inv k acc ds →
    (∀ n c, es[n]? = some c → ∀ acc ds, Inv (k + n) acc ds → OW (t (enc c)) fun as => LetW (setD (wipeD ds own) as) fun ds1 => XW h ds1 fun b ds2 => IW b (XW e ds2 fun y ds3 => LetW (mergeD ds own ds3) (Inv (k + n + 1) (acc ++ [y]))) (LetW (mergeD ds own ds2) (Inv (k + n + 1) acc))) →
    ∃ ys ds', lcRunX (lcOneX own t h e) (es.map enc) ds = some (ys, ds') ∧ Inv (k + es.length) (acc ++ ys) ds'
  | [], k, acc, ds, h0, _ => ⟨[], ds, rfl, by rw [List.append_nil]; exact h0⟩
  | c :: es, k, acc, ds, h0, hs => by
    obtain ⟨as, e1, b, ds2, e2, k1, k2⟩ := hs 0 c rfl acc ds h0
    have more : ∀ (acc2 : List D) (ds4 : DS S), Inv (k + 1) acc2 ds4 → ∃ ys ds', lcRunX (lcOneX own t h e) (es.map enc) ds4 = some (ys, ds') ∧ Inv (k + (es.length + 1)) (acc2 ++ ys) ds' := fun acc2 ds4 hi => by
      obtain ⟨ys, ds', e5, hi2⟩ := lcX_go Inv es (k + 1) acc2 ds4 hi fun n x hx acc ds hds => by
        have := hs (n + 1) x (by simpa using hx) acc ds (by rw [show k + (n + 1) = k + 1 + n from by omega]; exact hds)
        rw [show k + (n + 1) = k + 1 + n from by omega] at this
        exact this
      exact ⟨ys, ds', e5, by rw [show k + (es.length + 1) = k + 1 + es.length from by omega]; exact hi2⟩
    cases b with
    | true =>
      obtain ⟨y, ds3, e3, hi⟩ := k1 rfl
      obtain ⟨ys, ds', e5, hi2⟩ := more (acc ++ [y]) (mergeD ds own ds3) hi
      refine ⟨y :: ys, ds', ?_, by rw [show acc ++ y :: ys = acc ++ [y] ++ ys from by simp]; exact hi2⟩
      show (lcOneX own t h e (enc c) ds).bind _ = _
      unfold lcOneX
      rw [e1, Option.bind_some, e2, Option.bind_some, if_pos rfl, e3, Option.bind_some, Option.bind_some]
      dsimp only
      rw [show lcRunX (fun x ds => (t x).bind fun as => (h (setD (wipeD ds own) as)).bind fun b => if b.1 = true then (e b.2).bind fun y => some (some y.1, mergeD ds own y.2) else some (none, mergeD ds own b.2)) (es.map enc) (mergeD ds own ds3) = some (ys, ds') from e5]
      rfl
    | false =>
      have hi := k2 rfl
      obtain ⟨ys, ds', e5, hi2⟩ := more acc (mergeD ds own ds2) hi
      refine ⟨ys, ds', ?_, hi2⟩
      show (lcOneX own t h e (enc c) ds).bind _ = _
      unfold lcOneX
      rw [e1, Option.bind_some, e2, Option.bind_some, if_neg Bool.false_ne_true, Option.bind_some]
      dsimp only
      rw [show lcRunX (fun x ds => (t x).bind fun as => (h (setD (wipeD ds own) as)).bind fun b => if b.1 = true then (e b.2).bind fun y => some (some y.1, mergeD ds own y.2) else some (none, mergeD ds own b.2)) (es.map enc) (mergeD ds own ds2) = some (ys, ds') from e5]
      rfl
theorem xw_lcX {γ : Type} (es : List γ) (enc : γ → D) (Inv : Nat → List D → DS S → Prop) {src : XF S (List D)} {own : List Nat} {t : D → Option (List (Nat × D))} {h : XF S Bool} {e : XF S D}
    (k : XW src ds fun xs ds1 => xs = es.map enc ∧ Inv 0 [] ds1 ∧ (∀ n c, es[n]? = some c → ∀ acc ds, Inv n acc ds → OW (t (enc c)) fun as => LetW (setD (wipeD ds own) as) fun ds1 => XW h ds1 fun b ds2 => IW b (XW e ds2 fun y ds3 => LetW (mergeD ds own ds3) (Inv (n + 1) (acc ++ [y]))) (LetW (mergeD ds own ds2) (Inv (n + 1) acc))) ∧ ∀ ys ds2, Inv es.length ys ds2 → XM (.lst ys) ds2) : XW (xLc src own t h e) ds XM := by
  obtain ⟨xs, ds1, e1, ex, h0, hs, hN⟩ := k
  subst ex
  obtain ⟨ys, ds', e2, hi⟩ := lcX_go Inv es 0 [] ds1 h0 fun n c hc acc ds hd => by
    rw [Nat.zero_add] at hd ⊢
    exact hs n c hc acc ds hd
  rw [Nat.zero_add] at hi
  exact ⟨_, ds', xb_ev e1 (by rw [e2]; rfl), hN ys ds' hi⟩
variable {N : DS S → Prop} {R : MO S → DS S → Prop} {B C : DS S → Prop} {u : SF S}
theorem sw_dputB {f : XF S D} (k : XW f ds fun d ds1 => OW (dicKs ds1 j) fun kvs => OW (g ds1) fun x => OW (keyOf1 x) fun k => AW (kvs.length < sizeLine) (SetW ds1 j (some (.dic (putD kvs k d))) N)) : SW (gDPutB j f g) ds N R B C := by
  obtain ⟨d, ds1, e, kvs, e1, x, e2, k, e3, z, q⟩ := k
  exact ⟨.nx (ds1.set j (some (.dic (putD kvs k d)))), by unfold gDPutB; rw [e, Option.bind_some]; dsimp only; rw [e1, Option.bind_some, e2, Option.bind_some, e3, Option.bind_some, if_pos z], q⟩
theorem sw_setFld (k : XW fa ds fun r ds1 => OW (objAt ds1 i x) fun fs => OW (toFV r) fun fv => AW (fs.length < 1000) (SetW ds1 i (some (.obj x (putFV f fv fs))) N)) : SW (gSetFld i x f fa) ds N R B C := by
  obtain ⟨r, ds1, e, fs, e1, fv, e2, h, q⟩ := k
  exact ⟨.nx (ds1.set i (some (.obj x (putFV f fv fs)))), by unfold gSetFld; rw [e, Option.bind_some]; dsimp only; rw [e1, Option.bind_some, e2, Option.bind_some, if_pos h], q⟩
theorem pw_runB {fs : Fls} {as : List D} {Z : MO S → Fls → Prop} (d0 : DS S) (e0 : startD n (.obj x fs :: as.map .d) = d0) (k : SW u d0 (fun ds => OW (objAt ds 0 x) fun s' => Z (.d .none) s') (fun m ds => OW (objAt ds 0 x) fun s' => Z m s') (fun _ => False) (fun _ => False)) : PW2 (runB x n u fs as) Z := by
  subst e0
  obtain ⟨o, e, q⟩ := k
  unfold runB
  rw [e]
  cases o with
  | nx d => obtain ⟨s', e2, q⟩ := q; exact ⟨_, s', by show (objAt d 0 x).map _ = _; rw [e2]; rfl, q⟩
  | rt m d => obtain ⟨s', e2, q⟩ := q; exact ⟨_, s', by show (objAt d 0 x).map _ = _; rw [e2]; rfl, q⟩
  | bk d => exact q.elim
  | ct d => exact q.elim
end
section
variable {S : Type} {ds : DS S} {N : DS S → Prop} {R : MO S → DS S → Prop} {B C : DS S → Prop}
theorem sw_forK {j : Nat} {t : D → Option (List (Nat × D))} {u : SF S} {kvs : List (Key × D)} (e0 : dicKs ds j = some kvs) (k : FW t u (kvs.map fun p => kD p.1) (ds.set j (some (.lk kvs))) (fun ds' => ∃ k2, lkAt ds' j = some k2 ∧ ((ds'.set j none).all noLkM) = true ∧ N (ds'.set j (some (.dic k2)))) (fun _ _ => False)) : SW (gForK j t u) ds N R B C := by
  obtain ⟨o, e, w⟩ := k
  cases o with
  | nx ds' =>
    obtain ⟨k2, e2, e3, q⟩ := w
    refine ⟨.nx (ds'.set j (some (.dic k2))), ?_, q⟩
    have eg : gFor (xKeysL j) t u (ds.set j (some (.lk kvs))) = some (.nx ds') := by
      unfold gFor xKeysL lkAt
      have ej := dicKs_some e0
      have jl := (List.getElem?_eq_some_iff.mp ej).1
      rw [List.getElem?_set_self jl]
      exact e
    unfold gForK gLock
    rw [e0, Option.bind_some, eg, Option.bind_some]
    dsimp only
    rw [e2, Option.bind_some, if_pos e3]
  | bk ds' => exact w.elim
  | ct ds' => exact w.elim
  | rt m ds' => exact w.elim
theorem xw_callA {n : Nat} {is : List Nat} {F : List D → Option (MO S)} {gs : DS S → Option (List D)} {XL : D → DS S → Prop} (k : OW (gs (keepI is ds)) fun as => ∃ xs, as.length = n ∧ F as = some (.lst xs) ∧ (apAll xs && (keepI is ds).all apS) = true ∧ XL (.list xs) ds) : XW (xCallA n is F gs) ds XL := by
  obtain ⟨as, ea, xs, hn, ef, hc, q⟩ := k
  exact ⟨.list xs, ds, by unfold xCallA; rw [ea, Option.bind_some, if_pos hn, ef, Option.bind_some]; dsimp only; rw [if_pos hc], q⟩
end
section
variable {S : Type} {ds : DS S}
def XEndW (N : DS S → Prop) (R : MO S → DS S → Prop) (E : Exc → DS S → Prop) : OX S → Prop
  | .out (.nx d) => N d
  | .out (.rt m d) => R m d
  | .out _ => False
  | .ex e d => E e d
def SXW (g : SFX S) (ds : DS S) (N : DS S → Prop) (R : MO S → DS S → Prop) (E : Exc → DS S → Prop) : Prop := ∃ o, g ds = some o ∧ XEndW N R E o
variable {g h : SFX S} {N : DS S → Prop} {R : MO S → DS S → Prop} {E : Exc → DS S → Prop} {B C : DS S → Prop}
theorem sxw_seq (k : SXW g ds (fun d => SXW h d N R E) R E) : SXW (gSeqX g h) ds N R E := by
  obtain ⟨o, e, q⟩ := k
  unfold SXW gSeqX
  rw [e, Option.bind_some]
  cases o with
  | ex x d => exact ⟨_, rfl, q⟩
  | out o =>
    cases o with
    | nx d => exact q
    | rt m d => exact ⟨_, rfl, q⟩
    | bk d => exact False.elim q
    | ct d => exact False.elim q
theorem sxw_next (q : N ds) : SXW gNextX ds N R E := ⟨_, rfl, q⟩
theorem sxw_lift {u : SF S} (k : SW u ds N R (fun _ => False) (fun _ => False)) : SXW (gLift u) ds N R E := by
  obtain ⟨o, e, q⟩ := k
  refine ⟨.out o, by unfold gLift; rw [e]; rfl, ?_⟩
  cases o with
  | nx d => exact q
  | rt m d => exact q
  | bk d => exact False.elim q
  | ct d => exact False.elim q
theorem sxw_if {c : XF S Bool} (k : XW c ds fun b d => IW b (SXW g d N R E) (SXW h d N R E)) : SXW (gIfX c g h) ds N R E := by
  obtain ⟨b, d, e, k1, k2⟩ := k
  unfold SXW gIfX
  rw [e, Option.bind_some]
  cases b with
  | true => exact k1 rfl
  | false => exact k2 rfl
theorem sxw_raiseF {x f : Str} {fs : XF S (List D)} (k : XW fs ds fun xs d => ∃ y, xs = [y] ∧ E ⟨x, some (f, y)⟩ d) : SXW (gRaiseF x f fs) ds N R E := by
  obtain ⟨xs, d, e, y, rfl, q⟩ := k
  exact ⟨_, raiseF_ev e, q⟩
theorem sxw_raise {e : Exc} (q : E e ds) : SXW (gRaise e) ds N R E := ⟨_, rfl, q⟩
theorem ex1_mk {y : D} {Z : D → Prop} (q : Z y) : ∃ z, [y] = [z] ∧ Z z := ⟨y, rfl, q⟩
def ExcW {α : Type} (r : Except Exc α) (N : α → Prop) (E : Exc → Prop) : Prop := match r with
  | .ok m => N m
  | .error e => E e
theorem excw_ok {α : Type} {m : α} {N : α → Prop} {E : Exc → Prop} (q : N m) : ExcW (.ok m) N E := q
theorem excw_er {α : Type} {e : Exc} {N : α → Prop} {E : Exc → Prop} (q : E e) : ExcW (.error e : Except Exc α) N E := q
theorem sxw_drop {n : Nat} {F : List D → Option (Except Exc (MO S))} {fs : XF S (List D)} (k : XW fs ds fun as d => AW (as.length = n) (OW (F as) fun r => ExcW r (fun _ => N d) (fun e => E e d))) : SXW (gDropX n F fs) ds N R E := by
  obtain ⟨as, d, e, hn, r, e2, q⟩ := k
  unfold SXW gDropX
  rw [e, Option.bind_some, if_pos hn, e2]
  cases r with
  | ok m => exact ⟨_, rfl, q⟩
  | error x => exact ⟨_, rfl, q⟩
theorem sw_tryC {kn : List Str} {v : SF S} (k : SXW g ds N R fun e d => AW (e.nm ∈ kn) (SW v d N R B C)) : SW (gTryC kn g v) ds N R B C := by
  obtain ⟨o, e, q⟩ := k
  unfold SW gTryC
  rw [e, Option.bind_some]
  cases o with
  | out o =>
    cases o with
    | nx d => exact ⟨_, rfl, q⟩
    | rt m d => exact ⟨_, rfl, q⟩
    | bk d => exact False.elim q
    | ct d => exact False.elim q
  | ex x d =>
    dsimp only
    rw [if_pos q.1]
    exact q.2
theorem ow_runPX {n : Nat} {as : List D} {Q : Except Exc (MO S) → Prop} (d0 : DS S) (e0 : startD n (as.map .d) = d0) (k : SXW g d0 (fun _ => Q (.ok (.d .none))) (fun m _ => Q (.ok m)) (fun e _ => Q (.error e))) : OW (runPX n g as) Q := by
  subst e0
  obtain ⟨o, e, q⟩ := k
  unfold OW runPX
  rw [e, Option.bind_some]
  cases o with
  | ex x d => exact ⟨_, rfl, q⟩
  | out o =>
    cases o with
    | nx d => exact ⟨_, rfl, q⟩
    | rt m d => exact ⟨_, rfl, q⟩
    | bk d => exact False.elim q
    | ct d => exact False.elim q
end
theorem ow_runE {n : Nat} {g : SF Exc} {as : List D} {Q : MO St2 → Prop} (d0 : DS Exc) (e0 : startD n (as.map .d) = d0) (k : SW g d0 (fun _ => Q (.d .none)) (fun m _ => OW (toM2 m) Q) (fun _ => False) (fun _ => False)) : OW ((runP n g as).bind toM2) Q := by
  subst e0
  obtain ⟨o, e, q⟩ := k
  unfold OW runP
  rw [e, Option.bind_some]
  cases o with
  | nx d => exact ⟨_, rfl, q⟩
  | rt m d => exact q
  | bk d => exact False.elim q
  | ct d => exact False.elim q
section
variable {S : Type} {ds : DS S}
def moD : MO S → Option D
  | .d x => some x
  | .lst xs => some (.list xs)
  | _ => none
theorem ow_moD {x : D} {Q : D → Prop} (q : Q x) : OW (moD (S := S) (.d x)) Q := ⟨x, rfl, q⟩
theorem ow_moL {xs : List D} {Q : D → Prop} (q : Q (.list xs)) : OW (moD (S := S) (.lst xs)) Q := ⟨_, rfl, q⟩
theorem sxw_asgC {i n : Nat} {F : List D → Option (Except Exc (MO S))} {fs : XF S (List D)} {N : DS S → Prop} {R : MO S → DS S → Prop} {E : Exc → DS S → Prop} (k : XW fs ds fun as d => AW (as.length = n) (OW (F as) fun r => ExcW r (fun m => OW (moD m) fun y => SetW d i (some (.d y)) N) (fun e => E e d))) : SXW (gAsgE i (eCall n F fs)) ds N R E := by
  obtain ⟨as, d, e, hn, r, e2, q⟩ := k
  cases r with
  | error x => exact ⟨.ex x d, by unfold gAsgE eCall; rw [e, Option.bind_some]; dsimp only; rw [if_pos hn, e2]; rfl, q⟩
  | ok m =>
    obtain ⟨y, ey, q⟩ := q
    cases m with
    | d x => cases ey; exact ⟨.out (.nx (d.set i (some (.d y)))), by unfold gAsgE eCall; rw [e, Option.bind_some]; dsimp only; rw [if_pos hn, e2]; rfl, q⟩
    | lst xs => cases ey; exact ⟨.out (.nx (d.set i (some (.d (.list xs))))), by unfold gAsgE eCall; rw [e, Option.bind_some]; dsimp only; rw [if_pos hn, e2]; rfl, q⟩
    | _ => cases ey
theorem okX_ok {o : Option (Except Exc (MO S))} {m : MO S} (h : o = some (.ok m)) : okX o = some m := by rw [h]; rfl
end
section
variable {S : Type} {ds : DS S} {Q : D → Prop} {QL : List D → Prop} {g : DS S → Option D} {x : Str} {i j n : Nat}
variable {X : D → DS S → Prop} {XM : MO S → DS S → Prop} {fl : XF S (List D)} {u : SF S}
theorem xw_cV {F : List (Key × D) → List D → Option (MO S × List (Key × D))} {s0 : List (Key × D)} (e0 : dicKs ds i = some s0) (k : XW fl ds fun as ds1 => OW (dicKs ds1 i) fun s => AW (as.length + 1 = n) (PW2 (F s as) fun r s' => SetW ds1 i (some (.dic s')) fun ds2 => XM r ds2)) : XW (oCallV n i F fl) ds XM := by
  obtain ⟨as, ds1, e, s, e1, n1, r, s', e2, q⟩ := k
  exact ⟨r, _, by unfold oCallV; rw [e0, Option.bind_some]; exact xb_ev e (by rw [e1, Option.bind_some, if_pos n1, e2]; rfl), q⟩
theorem pw_runV {xs : List (Key × D)} {as : List D} {Z : MO S → List (Key × D) → Prop} (d0 : DS S) (e0 : startD n (.dic xs :: as.map .d) = d0) (k : SW u d0 (fun ds => OW (dicKs ds 0) fun s' => Z (.d .none) s') (fun m ds => OW (dicKs ds 0) fun s' => Z m s') (fun _ => False) (fun _ => False)) : PW2 (runV n u xs as) Z := by
  subst e0
  obtain ⟨o, e, q⟩ := k
  unfold runV
  rw [e]
  cases o with
  | nx d => obtain ⟨s', e2, q⟩ := q; exact ⟨_, s', by show (dicKs d 0).map _ = _; rw [e2]; rfl, q⟩
  | rt m d => obtain ⟨s', e2, q⟩ := q; exact ⟨_, s', by show (dicKs d 0).map _ = _; rw [e2]; rfl, q⟩
  | bk d => exact q.elim
  | ct d => exact q.elim
theorem xw_dgetG {kvs : List (Key × D)} (e0 : dicKs ds j = some kvs) (k : OW (g (hideDS ds)) fun x => OW (keyOf1 x) fun k => OW (lookD kvs k) fun d => X d ds) : XW (xDGetG j g) ds X := by
  obtain ⟨x, e1, kk, e2, d, e3, q⟩ := k
  exact ⟨d, ds, by unfold xDGetG; rw [e0, Option.bind_some, e1, Option.bind_some, e2, Option.bind_some, e3]; rfl, q⟩
theorem xw_dict4 {s1 s2 s3 s4 : Str} {i1 i2 i3 : Int} (k : OW (g (hideDS ds)) fun x => XM (.dic (putD (putD (putD (putD [] (.inr s1) x) (.inr s2) (.int i1)) (.inr s3) (.int i2)) (.inr s4) (.int i3))) ds) : XW (oDict4 s1 s2 s3 s4 g i1 i2 i3) ds XM := by
  obtain ⟨x, e, q⟩ := k
  exact ⟨_, ds, by unfold oDict4; rw [e]; rfl, q⟩
theorem ow_scSl {gl gh : DS S → Option (Option Int)} {ns : List Int} (e0 : ds[j]? = some (some (.scr ns))) (hz : ns.length ≤ sizeLine) (k : OW (gl ds) fun l => OW (gh ds) fun h => QL (cutD (ns.map .int) l h)) : OW (gScSl j gl gh ds) QL := by
  obtain ⟨l, e1, h, e2, q⟩ := k
  exact ⟨_, by unfold gScSl; rw [e0]; dsimp only; rw [if_pos hz, e1, Option.bind_some, e2]; rfl, q⟩
theorem ow_asg2 {js : List Nat} {y z : D} {Z : List (Nat × D) → Prop} (k : OW (asgT js z) fun l => Z ((i, y) :: l)) : OW (asg2 i js (.tuple [y, z])) Z := by
  obtain ⟨l, e, q⟩ := k
  exact ⟨_, by show (asgT js z).map _ = _; rw [e]; rfl, q⟩
theorem sxw_for {γ : Type} {enc : γ → D} {t : D → Option (List (Nat × D))} {b : SFX S} {src : XF S (List D)} {N : DS S → Prop} {R : MO S → DS S → Prop} {E : Exc → DS S → Prop} (es : List γ) (Inv : Nat → DS S → Prop)
    (k : XW src ds fun xs ds1 => xs = es.map enc ∧ Inv 0 ds1) (hs : ∀ n e, es[n]? = some e → ∀ ds, Inv n ds → OW (t (enc e)) fun as => SetDW ds as fun ds' => SXW b ds' (Inv (n + 1)) R E) (hN : ∀ ds, Inv es.length ds → N ds) : SXW (gForX (eL src) t b) ds N R E := by
  have go : ∀ (es : List γ) (k : Nat) (ds : DS S), Inv k ds → (∀ n e, es[n]? = some e → ∀ ds, Inv (k + n) ds → OW (t (enc e)) fun as => SetDW ds as fun ds' => SXW b ds' (Inv (k + n + 1)) R E) → ∃ o, forRunX t b (es.map enc) ds = some o ∧ XEndW (Inv (k + es.length)) R E o := by
    intro es
    induction es with
    | nil => intro k ds h _; exact ⟨_, rfl, h⟩
    | cons c es ih =>
      intro k ds h hs
      obtain ⟨as, e1, o, e2, q⟩ := hs 0 c rfl ds h
      rw [List.map_cons]
      unfold forRunX
      rw [e1, Option.bind_some, e2, Option.bind_some]
      cases o with
      | ex e d => exact ⟨_, rfl, q⟩
      | out o =>
        cases o with
        | nx d =>
          obtain ⟨o, e3, q3⟩ := ih (k + 1) d q fun n e he ds hd => by
            have := hs (n + 1) e (by simpa using he) ds (by rw [show k + (n + 1) = k + 1 + n by omega]; exact hd)
            rw [show k + (n + 1) = k + 1 + n by omega] at this
            exact this
          exact ⟨o, e3, by rw [List.length_cons, show k + (es.length + 1) = k + 1 + es.length by omega]; exact q3⟩
        | rt m d => exact ⟨_, rfl, q⟩
        | bk d => exact False.elim q
        | ct d => exact False.elim q
  obtain ⟨xs, ds1, e, rfl, h0⟩ := k
  obtain ⟨o, e2, q⟩ := go es 0 ds1 h0 fun n e he ds hd => by
    rw [Nat.zero_add] at hd ⊢
    exact hs n e he ds hd
  refine ⟨o, ?_, ?_⟩
  · unfold gForX eL
    rw [e]
    exact e2
  · rw [Nat.zero_add] at q
    cases o with
    | ex e d => exact q
    | out o =>
      cases o with
      | nx d => exact hN d q
      | rt m d => exact q
      | bk d => exact q
      | ct d => exact q
end
end DL
set_option Elab.async false
set_option linter.all false
set_option maxRecDepth 100000
set_option maxHeartbeats 4000000
namespace LAW
open PySem PySem.Spec L2 DL PyProof.Rows
structure Pitch where
  name : Str
  size : Int
  marks : List Str
  sorts : List Str
structure Gd where
  ps : List Pitch
  close : List (Nat × Nat)
  bars : List D
inductive Ev where
  | shut (d : Int) (p : Str) (t : Int)
  | joined (d : Int) (a b : Str) (t : Int)
  | other (w : Str) (rest : List D)
theorem strNe {x y : Str} (h : x ≠ y) : (x == y) = false := by simpa using h
theorem leD_int (a b : Int) : leD (.int a) (.int b) = some (.bool (decide (a ≤ b))) := rfl
theorem anyEq_strs (x : Str) : ∀ ys : List Str, anyEq (.str x) (ys.map .str) = decide (x ∈ ys)
  | [] => rfl
  | y :: r => by
    show (y == x || anyEq (.str x) (r.map .str)) = _
    rw [anyEq_strs x r]
    by_cases h : y = x
    · subst h; simp
    · rw [strNe h]; simp [Ne.symm h]
theorem depth_strs : ∀ ys : List Str, PyData.depthAll (ys.map .str) ≤ 1
  | [] => by decide
  | y :: r => by
    have := depth_strs r
    simp only [List.map_cons, PyData.depthAll, PyData.depth]
    omega
theorem inT (x : Str) (ys : List Str) : inD (.str x) (.tuple (ys.map .str)) = some (.bool (decide (x ∈ ys))) := by
  show (if min (PyData.depthAll (ys.map .str)) (PyData.depth (.str x)) ≤ 64 ∧ noD (.str x) = true ∧ noDAll (ys.map .str) = true then some (PyData.bool (anyEq (.str x) (ys.map .str))) else none) = _
  rw [if_pos ⟨Nat.le_trans (Nat.min_le_left _ _) (Nat.le_trans (depth_strs ys) (by decide)), rfl, noD_strs _⟩, anyEq_strs]
theorem inL (x : Str) (ys : List Str) : inD (.str x) (.list (ys.map .str)) = some (.bool (decide (x ∈ ys))) := by
  show (if min (PyData.depthAll (ys.map .str)) (PyData.depth (.str x)) ≤ 64 ∧ noD (.str x) = true ∧ noDAll (ys.map .str) = true then some (PyData.bool (anyEq (.str x) (ys.map .str))) else none) = _
  rw [if_pos ⟨Nat.le_trans (Nat.min_le_left _ _) (Nat.le_trans (depth_strs ys) (by decide)), rfl, noD_strs _⟩, anyEq_strs]
theorem ixN_nat {n i : Nat} (h : i < n) : ixN n (i : Int) = some i := by
  unfold ixN
  rw [if_pos (by omega), if_pos (by omega)]
  rfl
theorem atI_nat' {xs : List D} {i : Nat} {x : D} (h : xs[i]? = some x) : atI xs (i : Int) = some x := by
  have hi := (List.getElem?_eq_some_iff.mp h).1
  unfold atI
  rw [ixN_nat hi, Option.bind_some]
  exact h
theorem ixL_nat {xs : List D} {i : Nat} {x : D} (h : xs[i]? = some x) : ixD (.list xs) (.int (i : Int)) = some x := atI_nat' h
theorem anyEq_ints (x : Int) : ∀ ys : List Int, anyEq (.int x) (ys.map .int) = decide (x ∈ ys)
  | [] => rfl
  | y :: r => by
    show (y == x || anyEq (.int x) (r.map .int)) = _
    rw [anyEq_ints x r]
    by_cases h : y = x
    · subst h; simp
    · have h' : (y == x) = false := by simpa using h
      rw [h']; simp [Ne.symm h]
theorem depth_ints : ∀ ys : List Int, PyData.depthAll (ys.map .int) ≤ 1
  | [] => by decide
  | y :: r => by
    have := depth_ints r
    simp only [List.map_cons, PyData.depthAll, PyData.depth]
    omega
theorem ninI (x : Int) (ys : List Int) : ninD (.int x) (.list (ys.map .int)) = some (.bool (!decide (x ∈ ys))) := by
  show (if min (PyData.depthAll (ys.map .int)) (PyData.depth (.int x)) ≤ 64 ∧ noD (.int x) = true ∧ noDAll (ys.map .int) = true then some (PyData.bool (!anyEq (.int x) (ys.map .int))) else none) = _
  rw [if_pos ⟨Nat.le_trans (Nat.min_le_left _ _) (Nat.le_trans (depth_ints ys) (by decide)), rfl, noD_ints _⟩, anyEq_ints]
set_option Elab.async false
set_option linter.all false
set_option maxRecDepth 100000
set_option maxHeartbeats 4000000
def GoodS (x : Str) : Prop := x.length ≤ 8 ∧ PyData.strOk x = true
def Lw (c : Nat) : Prop := 97 ≤ c ∧ c ≤ 122
def IsW (x : Str) : Prop := 1 ≤ x.length ∧ ∀ c ∈ x.cps.toList, Lw c
theorem app_ok {x y : Str} (h1 : PyData.strOk x = true) (h2 : PyData.strOk y = true) : PyData.strOk (x ++ y) = true := by
  unfold PyData.strOk at *
  show (x.cps ++ y.cps).all _ = true
  rw [Array.all_append, h1, h2]
  rfl
def Sd (l : List Str) : Prop := sortD (l.map .str) = l.map .str
theorem cut_take (xs : List D) (n : Nat) : DL.cutD xs none (some (n : Int)) = xs.take n := by
  unfold DL.cutD
  rw [HT.sIx_nat]
  show (xs.drop 0).take (min n xs.length - 0) = _
  rw [List.drop_zero, Nat.sub_zero]
  rcases Nat.le_total n xs.length with h | h
  · rw [Nat.min_eq_left h]
  · rw [Nat.min_eq_right h, List.take_of_length_le h, List.take_of_length_le (Nat.le_refl _)]
theorem andV_ev {ds : DS2} {a b : DS2 → Option D} {p q : Bool} (e1 : a ds = some (.bool p)) (e2 : b ds = some (.bool q)) : gAndV a b ds = some (.bool (p && q)) := by
  unfold gAndV
  rw [e1, Option.bind_some]
  cases p with
  | true => exact e2
  | false => rfl
def GP (p : Pitch) : Prop := GoodS p.name ∧ 1 ≤ p.size ∧ p.size ≤ 4 ∧ (∀ x ∈ p.marks, GoodS x) ∧ p.marks.length ≤ 4 ∧ (∀ x ∈ p.sorts, GoodS x) ∧ p.sorts.length ≤ 4 ∧ p.sorts ≠ []
def IsPair (d : D) : Prop := ∃ a b : Str, d = .tuple [.str a, .str b] ∧ GoodS a ∧ GoodS b
def meetB (x y : Str) (p q : Pitch) : Bool := (decide (x ∈ p.sorts) && decide (y ∈ q.sorts)) || (decide (y ∈ p.sorts) && decide (x ∈ q.sorts))
theorem boolsOf_map : ∀ l : List Bool, boolsOf (l.map PyData.bool) = some l
  | [] => rfl
  | b :: r => by
    rw [List.map_cons]
    unfold boolsOf
    rw [boolsOf_map r]
    rfl
theorem all_map (l : List Bool) : allD [.list (l.map PyData.bool)] = some (.bool (l.all fun b => b)) := by
  unfold allD
  dsimp only
  rw [boolsOf_map]
  rfl
def encB (b : Str × Str) : D := .tuple [.str b.1, .str b.2]
def BLt (a b : Str × Str) : Prop := PySem.W.dataLt (encB a) (encB b) = true
def PM (p : Pitch) : Prop := (p.marks.Nodup ∧ Sd p.marks ∧ p.marks.length ≤ 3) ∧ (p.sorts.Nodup ∧ Sd p.sorts) ∧ IsW p.name ∧ (∀ x ∈ p.marks, IsW x) ∧ ∀ x ∈ p.sorts, IsW x
def Lx (a b : Nat × Nat) : Prop := a.1 < b.1 ∨ (a.1 = b.1 ∧ a.2 < b.2)
def gnames (g : Gd) : List Str := g.ps.map (·.name)
structure GG (g : Gd) : Prop where
  nd : (gnames g).Nodup
  len : 1 ≤ g.ps.length
  len2 : g.ps.length ≤ 8
  gp : ∀ p ∈ g.ps, GP p
  cl : ∀ c ∈ g.close, c.1 < c.2 ∧ c.2 < g.ps.length
  cl2 : g.close.length ≤ 64
  br : ∀ d ∈ g.bars, IsPair d
  br2 : g.bars.length ≤ 6
  pm : ∀ p ∈ g.ps, PM p
  cp : g.close.Pairwise Lx
  cl3 : g.close.length ≤ 28
  bw : ∃ bl : List (Str × Str), g.bars = bl.map encB ∧ (∀ b ∈ bl, IsW b.1 ∧ IsW b.2 ∧ strLt b.2 b.1 = false) ∧ bl.Pairwise BLt ∧ ∀ b ∈ bl, ∀ c ∈ g.close, ∀ p q, g.ps[c.1]? = some p → g.ps[c.2]? = some q → meetB b.1 b.2 p q = false
theorem addL_l {xs ys : List D} (h : xs.length + ys.length ≤ sizeLine) : addA (.list xs) (.list ys) = some (.list (xs ++ ys)) := by
  show (addL (.list xs) (.list ys)).map PyData.list = _
  unfold addL
  dsimp only
  rw [if_pos h]
  rfl
theorem ok_iff {x : Str} : PyData.strOk x = true ↔ ∀ c ∈ x.cps.toList, c < 0x110000 := by
  unfold PyData.strOk
  rw [Array.all_eq_true_iff_forall_mem]
  constructor
  · intro h c hc
    simpa using h c (by simpa using hc)
  · intro h c hc
    simpa using h c (by simpa using hc)
theorem char_lt (c : Char) : c.toNat < 0x110000 := by
  rcases c.valid with h | h
  · have : c.toNat < 0xd800 := h
    omega
  · exact h.2
theorem ok_of (s : String) : PyData.strOk (Str.ofString s) = true := by
  rw [ok_iff, Str.ofString_eq_toList]
  intro c hc
  simp at hc
  obtain ⟨ch, _, rfl⟩ := hc
  exact char_lt ch
theorem ok_char (q c : Nat) (hc : c < 0x110000) : ∀ d ∈ Builtin.Str.reprChar q c, d < 0x110000 := by
  have hx : ∀ (n : Nat) (d : Nat), d ∈ (List.replicate n 48 ++ (Nat.toDigits 16 c).map Char.toNat) → d < 0x110000 := by
    intro n d hd
    rcases List.mem_append.mp hd with z | z
    · rw [(List.mem_replicate.mp z).2]; omega
    · obtain ⟨ch, _, rfl⟩ := List.mem_map.mp z
      exact char_lt ch
  intro d hd
  unfold Builtin.Str.reprChar at hd
  dsimp only at hd
  have two : ∀ a b : Nat, a < 0x110000 → b < 0x110000 → d ∈ [a, b] → d < 0x110000 := by
    intro a b ha hb h
    simp at h
    omega
  split at hd
  · exact two _ _ (by omega) hc hd
  · split at hd
    · exact two _ _ (by omega) (by omega) hd
    · split at hd
      · exact two _ _ (by omega) (by omega) hd
      · split at hd
        · exact two _ _ (by omega) (by omega) hd
        · split at hd
          · simp at hd; omega
          · split at hd
            · rcases List.mem_append.mp hd with z | z
              · exact two _ _ (by omega) (by omega) z
              · exact hx _ _ z
            · split at hd
              · rcases List.mem_append.mp hd with z | z
                · exact two _ _ (by omega) (by omega) z
                · exact hx _ _ z
              · rcases List.mem_append.mp hd with z | z
                · exact two _ _ (by omega) (by omega) z
                · exact hx _ _ z
theorem ok_repr {x : Str} (h : PyData.strOk x = true) : PyData.strOk (reprText x) = true := by
  have hq : reprQuote x < 0x110000 := by
    unfold reprQuote
    split <;> omega
  have key : ∀ (l : List Nat) (acc : Array Nat), (∀ c ∈ l, c < 0x110000) → (∀ c ∈ acc.toList, c < 0x110000) → ∀ c ∈ (l.foldl (fun out c => out ++ (Builtin.Str.reprChar (reprQuote x) c).toArray) acc).toList, c < 0x110000 := by
    intro l
    induction l with
    | nil => intro acc _ ha; exact ha
    | cons z r ih =>
      intro acc hl ha
      rw [List.foldl_cons]
      refine ih _ (fun c hc => hl c (List.mem_cons_of_mem _ hc)) fun c hc => ?_
      rw [Array.toList_append] at hc
      rcases List.mem_append.mp hc with y | y
      · exact ha c y
      · exact ok_char _ z (hl z (by simp)) c (by simpa using y)
  rw [ok_iff] at h ⊢
  intro c hc
  unfold reprText at hc
  rw [← Array.foldl_toList] at hc
  simp only [Array.toList_push, List.mem_append, List.mem_singleton] at hc
  rcases hc with z | z
  · exact key _ _ h (fun c hc => by simp at hc; omega) c z
  · omega
theorem ok_join (sep : Str) (hs : PyData.strOk sep = true) : ∀ ts : List Str, (∀ t ∈ ts, PyData.strOk t = true) → PyData.strOk (Str.join sep ts) = true
  | [], _ => by show PyData.strOk Str.empty = true; decide +kernel
  | [x], h => h x (by simp)
  | x :: y :: r, h => app_ok (app_ok (h x (by simp)) hs) (ok_join sep hs (y :: r) fun t ht => h t (List.mem_cons_of_mem _ ht))
theorem ok_from : ∀ (ts : List Str) (k : Nat) (acc : Str), PyData.strOk acc = true → (∀ t ∈ ts, PyData.strOk t = true) → PyData.strOk (textFrom k acc ts) = true
  | [], _, _, h, _ => h
  | t :: ts, k, acc, h, ht => ok_from ts (k + 1) _ (app_ok (app_ok h (ok_of _)) (ht t (by simp))) fun z hz => ht z (List.mem_cons_of_mem _ hz)
mutual
theorem ok_shown : ∀ d : D, d.canLay0 = true → PyData.strOk d.shown = true
  | .none, _ => ok_of _
  | .bool b, _ => by cases b <;> exact ok_of _
  | .int i, _ => ok_of _
  | .str x, h => ok_repr h
  | .list xs, h => app_ok (ok_from _ _ _ (ok_of _) (ok_shownAll xs h)) (ok_of _)
  | .tuple xs, h => app_ok (app_ok (ok_of _) (ok_join _ (ok_of _) _ (ok_shownAll xs h))) (ok_of _)
  | .dict _, h => by cases h
theorem ok_shownAll : ∀ ds : List D, PyData.canLayAll0 ds = true → ∀ t ∈ PyData.shownAll ds, PyData.strOk t = true
  | [], _ => fun t z => by cases z
  | x :: xs, h => by
    have h' : (x.canLay0 && PyData.canLayAll0 xs) = true := h
    obtain ⟨h1, h2⟩ := Bool.and_eq_true_iff.mp h'
    intro t ht
    rcases List.mem_cons.mp (show t ∈ x.shown :: PyData.shownAll xs from ht) with z | z
    · rw [z]; exact ok_shown x h1
    · exact ok_shownAll xs h2 t z
end
structure Nc (k w : Nat) (d : D) : Prop where
  lay : d.canLay0 = true
  dep : d.depth ≤ k
  wt : d.weight ≤ w
  sh : d.intsShort 20 = true
  ok : d.showable = true
theorem Nc.mono {k k' w w' : Nat} {d : D} (h : Nc k w d) (h1 : k ≤ k') (h2 : w ≤ w') : Nc k' w' d := ⟨h.lay, Nat.le_trans h.dep h1, Nat.le_trans h.wt h2, h.sh, h.ok⟩
theorem nc_int {i : Int} (h : i.natAbs < 10 ^ 19) : Nc 0 70 (.int i) := by
  have l : i.natAbs ≠ 0 → i.natAbs.log2 < 64 := fun z => (Nat.log2_lt z).mpr (by omega)
  have l2 : i.natAbs.log2 < 64 := by
    by_cases z : i.natAbs = 0
    · rw [z]; decide
    · exact l z
  refine ⟨rfl, Nat.le_refl _, ?_, ?_, ?_⟩
  · show (if i == 0 then 0 else i.natAbs.log2 + 1) ≤ 70
    split <;> omega
  · have e := int_text_length_le10 (a := i) (k := 19) (by decide) h
    show decide ((Str.ofString (toString i)).length ≤ 20) = true
    rw [PySem.ofString_length]
    exact decide_eq_true e
  · show decide (i.natAbs.log2 < 1920) = true
    exact decide_eq_true (by omega)
theorem nc_str {x : Str} (h : GoodS x) : Nc 0 8 (.str x) := ⟨h.2, Nat.le_refl _, h.1, rfl, rfl⟩
theorem nc_all {k w : Nat} : ∀ {xs : List D}, (∀ x ∈ xs, Nc k w x) → PyData.canLayAll0 xs = true ∧ PyData.depthAll xs ≤ k + 1 ∧ PyData.weightAll xs ≤ xs.length * (w + 1) ∧ PyData.intsShortAll 20 xs = true ∧ PyData.showableAll xs = true
  | [], _ => ⟨rfl, by simp [PyData.depthAll], by simp [PyData.weightAll], rfl, rfl⟩
  | x :: r, h => by
    obtain ⟨h1, h2, h3, h4, h5⟩ := nc_all fun z hz => h z (List.mem_cons_of_mem _ hz)
    have hx := h x (by simp)
    refine ⟨?_, ?_, ?_, ?_, ?_⟩
    · show (x.canLay0 && PyData.canLayAll0 r) = true; rw [hx.lay, h1]; rfl
    · have := hx.dep
      simp only [PyData.depthAll] at h2 ⊢
      omega
    · have := hx.wt
      show x.weight + 1 + PyData.weightAll r ≤ (r.length + 1) * (w + 1)
      rw [Nat.add_mul]
      omega
    · show (x.intsShort 20 && PyData.intsShortAll 20 r) = true; rw [hx.sh, h4]; rfl
    · show (x.showable && PyData.showableAll r) = true; rw [hx.ok, h5]; rfl
theorem nc_tup {k w n : Nat} {xs : List D} (h : ∀ x ∈ xs, Nc k w x) (l : xs.length ≤ n) : Nc (k + 2) (n * (w + 1)) (.tuple xs) := by
  obtain ⟨h1, h2, h3, h4, h5⟩ := nc_all h
  exact ⟨h1, by simp only [PyData.depth]; omega, Nat.le_trans h3 (Nat.mul_le_mul_right _ l), h4, h5⟩
theorem nc_lst {k w n : Nat} {xs : List D} (h : ∀ x ∈ xs, Nc k w x) (l : xs.length ≤ n) : Nc (k + 2) (n * (w + 1)) (.list xs) := by
  obtain ⟨h1, h2, h3, h4, h5⟩ := nc_all h
  exact ⟨h1, by simp only [PyData.depth]; omega, Nat.le_trans h3 (Nat.mul_le_mul_right _ l), h4, h5⟩
theorem repr_ok {d : D} (h : Nc 60 700000 d) : reprD [d] = some (.str d.shown) := by
  have l := PyData.shown_le 20 (by decide) d (PyData.leavesShort_of_canLay0 20 d h.lay h.sh)
  have z : d.shown.length ≤ sizeLine := by
    rw [sizeLine_eq]
    have h2 := h.wt
    omega
  unfold reprD
  dsimp only
  rw [if_pos ⟨h.ok, Nat.le_trans h.dep (by decide), z, ok_shown d h.lay, noD_lay h.lay⟩]
theorem ne_self {d : D} (lay : d.canLay0 = true) (dep : d.depth ≤ 64) : neD d d = some (.bool false) := by
  unfold neD
  rw [if_pos ⟨by omega, noD_lay lay, noD_lay lay⟩, PySem.SeqAt.eqv_refl d lay]
  rfl
theorem ow_neSelf {d : D} {Q : D → Prop} (lay : d.canLay0 = true) (dep : d.depth ≤ 64) (q : Q (.bool false)) : OW (neD d d) Q := ⟨_, ne_self lay dep, q⟩
theorem ow_neNc {k w : Nat} {d : D} {Q : D → Prop} (h : Nc k w d) (hk : k ≤ 64) (q : Q (.bool false)) : OW (neD d d) Q := ow_neSelf h.lay (Nat.le_trans h.dep hk) q
theorem ow_repr {d : D} {Q : D → Prop} (h : Nc 60 700000 d) (q : Q (.str d.shown)) : OW (reprD [d]) Q := ⟨_, repr_ok h, q⟩
theorem isi_ev {T U : String} {g : DS2 → Option D} {ds : DS2} {d : D} {b : Bool} (e : g ds = some d) (t : tyD d = U) (k : kitB U T = some b) : gIsi T g ds = some (.bool b) := by
  unfold gIsi
  rw [e, Option.bind_some, t, k]
  rfl
theorem k_tt : kitB "tuple" "tuple" = some true := by decide +kernel
theorem k_ss : kitB "str" "str" = some true := by decide +kernel
theorem k_ii : kitB "int" "int" = some true := by decide +kernel
theorem k_ib : kitB "int" "bool" = some false := by decide +kernel
theorem isi_int {g : DS2 → Option D} {ds : DS2} {x : Int} (e : g ds = some (.int x)) : gIsi "int" g ds = some (.bool true) := isi_ev (U := "int") e rfl k_ii
theorem isb_int {g : DS2 → Option D} {ds : DS2} {x : Int} (e : g ds = some (.int x)) : gIsi "bool" g ds = some (.bool false) := isi_ev (U := "int") e rfl k_ib
theorem chain_le {ds : DS2} {a b c : DS2 → Option D} {x y z : Int} (e1 : a ds = some (.int x)) (e2 : b ds = some (.int y)) (e3 : c ds = some (.int z)) (h1 : x ≤ y) (h2 : y ≤ z) : gChain leD leD a b c ds = some (.bool true) := by
  have q1 : leD (.int x) (.int y) = some (.bool true) := by rw [leD_int, decide_eq_true h1]
  have q2 : leD (.int y) (.int z) = some (.bool true) := by rw [leD_int, decide_eq_true h2]
  exact Chain_ev (p := true) e1 e2 q1 (fun _ => e3) (fun _ => q2) nofun
theorem andV_t {ds : DS2} {a b : DS2 → Option D} (e1 : a ds = some (.bool true)) (e2 : b ds = some (.bool true)) : gAndV a b ds = some (.bool true) := andV_ev (p := true) (q := true) e1 e2
theorem whole_ok {i lo hi : Int} (h1 : lo ≤ i) (h2 : i ≤ hi) : F_is_whole [.int i, .int lo, .int hi] = some (.d (.bool true)) := by
  unfold F_is_whole g_is_whole
  exact runP_ev (ret_ev (oX_ev (xP_ev (andV_t (isi_int rfl) (andV_t (NotV_ev (b := false) (isb_int rfl) rfl) (chain_le rfl rfl rfl h1 h2)))))) rfl
theorem all_true {l : List Bool} (h : ∀ b ∈ l, b = true) : allD [.list (l.map PyData.bool)] = some (.bool true) := by
  rw [all_map]
  congr 2
  rw [List.all_eq_true]
  exact h
theorem distKn (ks : List Key) : (distK ks).Nodup := by
  unfold distK
  suffices h : ∀ (ks acc : List Key), acc.Nodup → (ks.foldl addK acc).Nodup from h ks [] .nil
  intro ks
  induction ks with
  | nil => intro acc h; exact h
  | cons k r ih =>
    intro acc h
    rw [List.foldl_cons]
    refine ih _ ?_
    unfold addK
    by_cases hk : hasK acc k = true
    · rw [if_pos hk]; exact h
    · rw [if_neg hk]
      refine List.nodup_append.mpr ⟨h, by simp, fun a ha b hb e => ?_⟩
      rw [List.mem_singleton.mp hb] at e
      subst e
      apply hk
      unfold hasK
      rw [List.any_eq_true]
      exact ⟨a, ha, decide_eq_true rfl⟩
theorem distK_len {ks : List Key} (h : ks.Nodup) : (distK ks).length = ks.length := ((List.perm_ext_iff_of_nodup (distKn ks) h).mpr fun _ => mem_distK).length_eq
theorem keysI : ∀ l : List Int, keysD (l.map .int) = some (l.map Sum.inl)
  | [] => rfl
  | x :: r => by
    rw [List.map_cons]
    unfold keysD
    rw [keysI r]
    rfl
theorem lenSetI {l : List Int} (nd : l.Nodup) (h : l.length ≤ 1000) : lenSetD (.list (l.map .int)) = some (.int (l.length : Nat)) ∧ lenSetD (.tuple (l.map .int)) = some (.int (l.length : Nat)) := by
  unfold lenSetD onKeys
  dsimp only
  rw [keysI, Option.bind_some, if_pos (by rw [List.length_map]; exact h), distK_len (List.pairwise_map.mpr (nd.imp fun {a b} ne e => ne (Sum.inl.inj e))), List.length_map]
  exact ⟨rfl, rfl⟩
theorem lenSet_ev {ds : DS2} {g : DS2 → Option D} {x d : D} (e : g ds = some x) (h : lenSetD x = some d) : gLenSet g ds = some d := by unfold gLenSet; rw [e]; exact h
structure Tr where
  name : Str
  sort : Str
  size : Int
  marks : List Str
structure Cm where
  tr : Tr
  rank : Option Int
  wishes : List Nat
structure Dy where
  g : Gd
  cs : List Cm
  holds : List (Nat × Str)
  lent : List (Nat × Str)
  last : List (Nat × Str)
  draw : Int
structure TV (t : Tr) : Prop where
  nm : IsW t.name ∧ t.name.length ≤ 8
  so : IsW t.sort ∧ t.sort.length ≤ 8
  sz : 1 ≤ t.size ∧ t.size ≤ 4
  mw : ∀ x ∈ t.marks, IsW x ∧ x.length ≤ 8
  sd : Sd t.marks
  nd : t.marks.Nodup
  ml : t.marks.length ≤ 3
structure CV (N : Nat) (c : Cm) : Prop where
  tr : TV c.tr
  rk : ∀ r, c.rank = some r → 1 ≤ r ∧ r ≤ 99999
  wn : c.wishes.Nodup
  wl : c.wishes.length ≤ 8
  wb : ∀ n ∈ c.wishes, n < N
structure PNV (N : Nat) (l : List (Nat × Str)) : Prop where
  ok : ∀ p ∈ l, p.1 < N ∧ IsW p.2 ∧ p.2.length ≤ 8
  len : l.length ≤ 24
  up : l.Pairwise fun a b => a.1 < b.1
  nd : (l.map (·.2)).Nodup
theorem mapD_id : ∀ {ms acc : List (Key × D)}, (ms.map (·.1)).Nodup → (∀ p ∈ ms, ∀ q ∈ acc, q.1 ≠ p.1) → mapD acc ms = acc ++ ms
  | [], acc, _, _ => by rw [List.append_nil]; rfl
  | p :: r, acc, nd, dj => by
    have e : putD acc p.1 p.2 = acc ++ [p] := by
      unfold putD
      have : ¬ (acc.any fun q => decide (q.1 = p.1)) = true := by
        rw [List.any_eq_true]
        rintro ⟨q, hq, h⟩
        exact dj p (by simp) q hq (of_decide_eq_true h)
      rw [if_neg this]
    rw [List.map_cons, List.nodup_cons] at nd
    show mapD (putD acc p.1 p.2) r = _
    rw [e, mapD_id nd.2 fun x hx q hq => ?_, List.append_assoc]
    · rfl
    · rcases List.mem_append.mp hq with z | z
      · exact dj x (List.mem_cons_of_mem _ hx) q z
      · rw [List.mem_singleton.mp z]
        exact fun y => nd.1 (by rw [y]; exact List.mem_map.mpr ⟨x, hx, rfl⟩)
theorem look_of {kvs : List (Key × D)} (nd : (kvs.map (·.1)).Nodup) {k : Key} {d : D} (h : (k, d) ∈ kvs) : lookD kvs k = some d := by
  induction kvs with
  | nil => cases h
  | cons p r ih =>
    rw [List.map_cons, List.nodup_cons] at nd
    unfold lookD
    rw [List.find?_cons]
    by_cases e : p.1 = k
    · rw [decide_eq_true e]
      rcases List.mem_cons.mp h with z | z
      · rw [← z]; rfl
      · exact absurd (List.mem_map.mpr ⟨(k, d), z, rfl⟩) (by rw [← e]; exact nd.1)
    · rw [decide_eq_false e]
      rcases List.mem_cons.mp h with z | z
      · exact absurd (by rw [← z]) e
      · exact ih nd.2 z
theorem look_mem {kvs : List (Key × D)} {k : Key} {d : D} (h : lookD kvs k = some d) : (k, d) ∈ kvs := by
  unfold lookD at h
  cases e : kvs.find? fun p => decide (p.1 = k) with
  | none => rw [e] at h; cases h
  | some p =>
    rw [e] at h
    cases h
    have h1 := List.mem_of_find?_eq_some e
    have h2 : p.1 = k := by
      have := List.find?_some e
      exact of_decide_eq_true this
    rw [← h2]
    exact h1
theorem look_none {kvs : List (Key × D)} {k : Key} (h : ∀ p ∈ kvs, p.1 ≠ k) : lookD kvs k = none := by
  cases e : lookD kvs k with
  | none => rfl
  | some d => exact absurd rfl (h _ (look_mem e))
theorem pairsD_map {β : Type} {f : β → D} {kf : β → Key} {vf : β → D} (h : ∀ b, f b = .tuple [kD (kf b), vf b]) : ∀ l : List β, pairsD (l.map f) = some (l.map fun b => (kf b, vf b))
  | [] => rfl
  | b :: r => by
    rw [List.map_cons, h b]
    unfold pairsD
    have : keyOf1 (kD (kf b)) = some (kf b) := by cases kf b <;> rfl
    rw [this, Option.bind_some, pairsD_map h r]
    rfl
local macro_rules | `(tactic| walk_at "ws") => `(tactic| with_reducible first | refine sw_seq ?_ | refine sw_asg ?_ | refine sw_drop ?_ | refine sw_if ?_ | refine sw_next ?_ | refine sw_ret ?_ | refine sw_for ?_ | refine sw_asgT ?_ | refine sw_par2 ?_ | refine sw_par3 ?_ | refine sw_parN ?_ | refine sw_setI ?_ | refine sw_dput ?_ | refine sw_dputB ?_ | refine fw_nil ?_ | refine sw_retN ?_ | refine sw_brk ?_ | refine sw_cnt ?_)
local macro_rules | `(tactic| walk_at "wx") => `(tactic| first | (with_reducible first | refine xw_P ?_ | refine xw_oX ?_ | refine xw_O ?_ | refine xw_cons ?_ | refine xw_nil ?_ | refine xw_B ?_ | refine xw_oP ?_ | refine xw_oB ?_ | refine xw_iP ?_ | refine xw_tP ?_ | refine xw_op ?_ | refine xw_opF ?_ | refine xw_un ?_ | refine xw_tup ?_ | refine xw_lst ?_ | refine xw_call ?_ | refine xw_callF ?_ | refine xw_args ?_ | refine xw_src ?_ | refine xw_bool ?_ | refine xw_tr ?_ | refine xw_not ?_ | refine xw_an ?_ | refine xw_or0 ?_ | refine xw_if ?_ | refine xw_orV ?_ | refine xw_cP ?_ | refine xw_oCons ?_ | refine xw_oNil ?_ | refine xw_yes ?_ | refine xw_dict ?_ | refine xw_dictNew ?_ | refine xw_andV ?_) | ((with_reducible refine' xw_dItems ?ee _); (case ee => exact rfl)) | ((with_reducible refine' xw_move ?ee _); (case ee => exact rfl)) | ((with_reducible refine' xw_mt ?ee _); (case ee => exact rfl)) | ((with_reducible refine' xw_cS ?ee _); (case ee => exact rfl)) | ((with_reducible refine' xw_cC ?ee _); (case ee => exact rfl)))
local macro_rules | `(tactic| walk_at "wo") => `(tactic| first | (with_reducible first | refine ow_op ?_ | refine ow_C ?_ | refine ow_cons ?_ | refine ow_nil ?_ | refine ow_call ?_ | refine ow_callP ?_ | refine ow_toD ?_ | refine ow_toL ?_ | refine ow_toK ?_ | refine ow_toD0 ?_ | refine ow_toL0 ?_ | refine ow_args ?_ | refine ow_src ?_ | refine ow_L ?_ | refine ow_B ?_ | refine ow_tr ?_ | refine ow_tup ?_ | refine ow_lst ?_ | refine ow_and ?_ | refine ow_or ?_ | refine ow_not ?_ | refine ow_andV ?_ | refine ow_orV ?_ | refine ow_notV ?_ | refine ow_if ?_ | refine ow_chain ?_ | refine ow_slA ?_ | refine ow_part ?_ | refine ow_noPart ?_ | refine ow_un ?_ | refine ow_op2 ?_ | refine ow_opF ?_ | refine ow_isi ?_ | refine ow_split ?_ | refine ow_yes ?_) | ((with_reducible refine' ow_var ?ee _); (case ee => exact rfl)) | ((with_reducible refine' ow_dget ?ee _); (case ee => exact rfl)) | ((with_reducible refine' ow_din ?ee _); (case ee => exact rfl)))
local macro_rules | `(tactic| walk_at "wl") => `(tactic| first | (with_reducible first | refine bw_mk ?_ | refine intw_mk ?_ | refine iw_T ?_ | refine iw_F ?_ | refine iw_self ?_ | refine iw_nself ?_ | refine iw_nT ?_ | refine iw_nF ?_ | refine setwS ?_ | refine setw0 ?_ | refine setdwS ?_ | refine setdw0 ?_ | refine setdwZ ?_ | refine setdwZ0 ?_ | refine setmwS ?_ | refine setmw0 ?_ | refine ex2_mk ?_ | refine ex3_mk ?_ | refine ow_some ?_ | refine ow_add ?_ | refine ow_sub ?_ | refine ow_lt ?_ | refine ow_le ?_ | refine ow_gt ?_ | refine ow_ge ?_ | refine ow_eqI ?_ | refine ow_neI ?_ | refine ow_eqS ?_ | refine ow_neS ?_ | refine ow_truB ?_ | refine ow_lenLm ?_ | refine ow_lenTm ?_ | refine ow_lenL ?_ | refine ow_lenT ?_ | refine ow_lenS ?_ | refine ow_tupleL ?_ | refine ow_tupleT ?_ | refine ow_listL ?_ | refine ow_listT ?_ | refine ow_srcL ?_ | refine ow_srcT ?_ | refine ow_intB ?_ | refine ow_min ?_ | refine ow_max ?_ | refine ow_isN_n ?_ | refine ow_isN_i ?_ | refine ow_notN_n ?_ | refine ow_notN_i ?_ | refine ow_notN_s ?_ | refine ow_neg ?_ | refine ow_ix0L ?_ | refine ow_ix0T ?_ | refine ow_keyS ?_ | refine ow_keyI ?_) | ((with_reducible refine' ow_lstAt ?ee _); (case ee => exact rfl)) | ((with_reducible refine' ow_stAt ?ee _); (case ee => exact rfl)) | ((with_reducible refine' ow_dicKs ?ee _); (case ee => exact rfl)) | ((with_reducible refine aw_mk ?ee ?_); (case ee => first | exact rfl | exact le_size rfl)) | (with_reducible refine ow_mod (by decide) ?_) | (with_reducible refine ow_div (by decide) (by decide) ?_) | (with_reducible refine ow_mulR (by decide) ?_) | (with_reducible refine ow_mulL (by decide) ?_) | (with_reducible refine ow_appm (by omega) ?_) | ((with_reducible refine' ow_ix (y := PyData.int (OfNat.ofNat _)) ?ee _); (case ee => exact rfl)) | ((with_reducible refine' ow_asgT ?ee _); (case ee => exact rfl)))
local macro_rules | `(tactic| walk_at "w") => `(tactic| repeat (first | walk_at "wx" | walk_at "wo" | walk_at "wl" | walk_at "ws"))
theorem alike_of {β : Type} {enc : β → D} (h : ∀ a b, PySem.W.alike (enc a) (enc b) = true) (l : List β) : allAlikeB (l.map enc) = true := by
  unfold allAlikeB
  rw [List.all_eq_true]
  intro a ha
  obtain ⟨x, _, rfl⟩ := List.mem_map.mp ha
  rw [List.all_eq_true]
  intro b hb
  obtain ⟨y, _, rfl⟩ := List.mem_map.mp hb
  exact h x y
theorem sorted_int (l : List Int) : sortedD [.list (l.map .int)] = some ((l.mergeSort fun a b => decide (a ≤ b)).map .int) := by
  have hs : sortableB (l.map .int) = true := by
    unfold sortableB
    rw [Bool.or_eq_true]
    right
    rw [List.all_eq_true]
    intro a ha
    obtain ⟨x, _, rfl⟩ := List.mem_map.mp ha
    rfl
  unfold sortedD
  dsimp only
  rw [if_pos ⟨alike_of (fun a b => by simp [PySem.W.alike]) l, hs, Nat.le_trans (depth_ints l) (by decide)⟩]
  unfold sortD
  rw [List.map_mergeSort (s := PySem.W.dataLe false fun d => d) fun a ha b hb => (congrFun (congrFun (PySem.W.dataLe_int (fun x : Int => x)) a) b).symm]
theorem ow_addT {xs ys : List D} {Q : D → Prop} (z : xs.length + ys.length ≤ sizeLine) (q : Q (.tuple (xs ++ ys))) : OW (addA (.tuple xs) (.tuple ys)) Q := ⟨_, by unfold addA; dsimp only; unfold addD; dsimp only; rw [if_pos z], q⟩
local macro_rules | `(tactic| walk_at "wq") => `(tactic| first | (with_reducible first | refine sw_forK rfl ?_ | refine xw_callA ?_ | refine ow_fld ?_ | refine ow_meth ?_ | refine ow_slF ?_ | refine ow_slL ?_ | refine ow_zipTL ?_ | refine ow_zip2T ?_ | refine ow_zip2L ?_ | refine xw_oMeth ?_ | refine xw_make ?_ | refine xw_noPart ?_ | refine xw_part ?_ | refine xw_sl3 ?_ | refine xw_step ?_ | refine xw_oIf ?_ | refine sw_setFld ?_ | refine ow_ixk ?_ | refine ow_ink ?_ | refine lsw_mk ?_) | ((with_reducible refine' xw_mtF ?ee _); (case ee => exact rfl)) | ((with_reducible refine' xw_frz ?ee _); (case ee => exact rfl)) | ((with_reducible refine' xw_moveK ?ee _); (case ee => exact rfl)) | ((with_reducible refine' xw_frzK ?ee _); (case ee => exact rfl)) | ((with_reducible refine' xw_frzD ?ee _); (case ee => exact rfl)) | ((with_reducible refine' xw_cU ?ee _); (case ee => exact rfl)) | ((with_reducible refine' xw_cM ?ee _); (case ee => exact rfl)) | ((with_reducible refine' xw_cB ?ee _); (case ee => exact rfl)) | ((with_reducible refine' xw_scLen ?ee _); (case ee => exact rfl)) | ((with_reducible refine' xw_scIx ?ee _); (case ee => exact rfl)) | ((with_reducible refine' xw_ixL ?ee _); (case ee => exact rfl)) | ((with_reducible refine' ow_objAt ?ee _); (case ee => exact rfl)) | ((with_reducible refine' ow_scrAt ?ee _); (case ee => exact rfl)) | ((with_reducible refine' ow_dgetN ?ee _); (case ee => exact rfl)))
local macro_rules | `(tactic| walk_at "w") => `(tactic| repeat (first | walk_at "wx" | walk_at "wo" | walk_at "wl" | walk_at "ws" | walk_at "wq"))
local macro_rules | `(tactic| walk_at "wy") => `(tactic| first | (with_reducible first | refine xw_P ?_ | refine xw_oX ?_ | refine xw_O ?_ | refine xw_cons ?_ | refine xw_nil ?_ | refine xw_B ?_ | refine xw_oP ?_ | refine xw_oB ?_ | refine xw_iP ?_ | refine xw_tP ?_ | refine xw_op ?_ | refine xw_opF ?_ | refine xw_un ?_ | refine xw_tup ?_ | refine xw_lst ?_ | refine xw_call ?_ | refine xw_callF ?_ | refine xw_args ?_ | refine xw_src ?_ | refine xw_bool ?_ | refine xw_tr ?_ | refine xw_not ?_ | refine xw_an ?_ | refine xw_or0 ?_ | refine xw_if ?_ | refine xw_cP ?_ | refine xw_oCons ?_ | refine xw_oNil ?_ | refine xw_yes ?_ | refine xw_dict ?_ | refine xw_dictNew ?_ | refine xw_andV ?_) | ((with_reducible refine' xw_dItems ?ee _); (case ee => exact rfl)) | ((with_reducible refine' xw_move ?ee _); (case ee => exact rfl)) | ((with_reducible refine' xw_mt ?ee _); (case ee => exact rfl)) | ((with_reducible refine' xw_cS ?ee _); (case ee => exact rfl)) | ((with_reducible refine' xw_cC ?ee _); (case ee => exact rfl)))
local macro_rules | `(tactic| walk_at "w0") => `(tactic| repeat (first | walk_at "wy" | walk_at "wo" | walk_at "wl" | walk_at "ws" | walk_at "wq"))
local macro_rules | `(tactic| walk_at "wt") => `(tactic| with_reducible first | refine sw_seq ?_ | refine sw_asg ?_ | refine sw_drop ?_ | refine sw_next ?_ | refine sw_ret ?_ | refine sw_for ?_ | refine sw_asgT ?_ | refine sw_par2 ?_ | refine sw_par3 ?_ | refine sw_parN ?_ | refine sw_setI ?_ | refine sw_dput ?_ | refine sw_dputB ?_ | refine fw_nil ?_ | refine sw_retN ?_ | refine sw_brk ?_ | refine sw_cnt ?_)
local macro_rules | `(tactic| walk_at "w1") => `(tactic| repeat (first | walk_at "wy" | walk_at "wo" | walk_at "wl" | walk_at "wt" | walk_at "wq"))
local macro_rules | `(tactic| walk_at "wn") => `(tactic| first | (with_reducible first | refine ow_op ?_ | refine ow_C ?_ | refine ow_cons ?_ | refine ow_nil ?_ | refine ow_call ?_ | refine ow_callP ?_ | refine ow_toD ?_ | refine ow_toL ?_ | refine ow_toK ?_ | refine ow_toD0 ?_ | refine ow_toL0 ?_ | refine ow_args ?_ | refine ow_src ?_ | refine ow_L ?_ | refine ow_B ?_ | refine ow_tr ?_ | refine ow_tup ?_ | refine ow_lst ?_ | refine ow_and ?_ | refine ow_or ?_ | refine ow_not ?_ | refine ow_andV ?_ | refine ow_orV ?_ | refine ow_notV ?_ | refine ow_chain ?_ | refine ow_slA ?_ | refine ow_part ?_ | refine ow_noPart ?_ | refine ow_un ?_ | refine ow_op2 ?_ | refine ow_opF ?_ | refine ow_isi ?_ | refine ow_split ?_ | refine ow_yes ?_) | ((with_reducible refine' ow_var ?ee _); (case ee => exact rfl)) | ((with_reducible refine' ow_dget ?ee _); (case ee => exact rfl)) | ((with_reducible refine' ow_din ?ee _); (case ee => exact rfl)))
local macro_rules | `(tactic| walk_at "w2") => `(tactic| repeat (first | walk_at "wy" | walk_at "wn" | walk_at "wl" | walk_at "wt" | walk_at "wq"))
local macro_rules | `(tactic| walk_at "wX") => `(tactic| with_reducible first | refine sxw_seq ?_ | refine sxw_lift ?_ | refine sxw_if ?_ | refine sxw_next ?_ | refine sxw_raiseF ?_ | refine sxw_raise ?_ | refine sxw_drop ?_ | refine sxw_asgC ?_ | refine sw_tryC ?_ | refine ex1_mk ?_ | refine excw_ok ?_ | refine excw_er ?_ | refine ow_moD ?_ | refine ow_moL ?_)
local macro_rules | `(tactic| walk_at "wX1") => `(tactic| repeat (first | walk_at "wy" | walk_at "wo" | walk_at "wl" | walk_at "wt" | walk_at "wq" | walk_at "wX"))
local macro_rules | `(tactic| walk_at "wv") => `(tactic| first | (with_reducible first | refine xw_dict4 ?_ | refine ow_asg2 ?_) | (first | refine xw_cV rfl ?_ | refine xw_dgetG rfl ?_ | refine ow_dicKs rfl ?_ | refine ow_dget rfl ?_))
local macro_rules | `(tactic| walk_at "wY1") => `(tactic| repeat (first | walk_at "wy" | walk_at "wo" | walk_at "wl" | walk_at "wt" | walk_at "wq" | walk_at "wX" | walk_at "wv"))
local macro_rules | `(tactic| walk_at "wY2") => `(tactic| repeat (first | walk_at "wy" | walk_at "wn" | walk_at "wl" | walk_at "wt" | walk_at "wq" | walk_at "wX" | walk_at "wv"))
def stK (cells : List Int) (k c l : Int) : List (Key × D) := [(.inr "cells", .list (cells.map .int)), (.inr "at", .int k), (.inr "cell", .int c), (.inr "left", .int l)]
def SK (b : Nat) (s : List (Key × D)) : Prop := ∃ cells k c l, s = stK cells k c l ∧ 0 ≤ k ∧ k + b ≤ 2 ^ 40 ∧ 0 ≤ c ∧ 0 ≤ l ∧ cells.length ≤ 63
theorem SK.mono {a b : Nat} {s : List (Key × D)} (h : SK b s) (l : a ≤ b) : SK a s := by
  obtain ⟨cells, k, c, l, e, h1, h2, h3⟩ := h
  exact ⟨cells, k, c, l, e, h1, by omega, h3⟩
theorem st_cells {cells : List Int} {k c l : Int} : lookD (stK cells k c l) (.inr "cells") = some (.list (cells.map .int)) := rfl
theorem st_at {cells : List Int} {k c l : Int} : lookD (stK cells k c l) (.inr "at") = some (.int k) := rfl
theorem st_cell {cells : List Int} {k c l : Int} : lookD (stK cells k c l) (.inr "cell") = some (.int c) := rfl
theorem st_left {cells : List Int} {k c l : Int} : lookD (stK cells k c l) (.inr "left") = some (.int l) := rfl
theorem pu_at {cells : List Int} {k c l z : Int} : putD (stK cells k c l) (.inr "at") (.int z) = stK cells z c l := rfl
theorem pu_left {cells : List Int} {k c l z : Int} : putD (stK cells k c l) (.inr "left") (.int z) = stK cells k c z := rfl
theorem noD_ints : ∀ ns : List Int, noDAll (ns.map .int) = true
  | [] => rfl
  | n :: r => by
    show (true && noDAll (r.map .int)) = true
    rw [noD_ints r]
    rfl
theorem eq_nilL {xs : List D} (h : noDAll xs = true) : eqD (.list xs) (.list []) = some (.bool xs.isEmpty) := by
  unfold eqD
  rw [if_pos ⟨Nat.le_trans (Nat.min_le_right _ _) (by decide), h, rfl⟩]
  cases xs <;> rfl
theorem cell_at {cells : List Int} {i : Int} (h0 : 0 ≤ i) (h1 : i < cells.length) : ∃ z : Int, ixD (.list (cells.map .int)) (.int i) = some (.int z) := by
  obtain ⟨j, rfl⟩ := Int.eq_ofNat_of_zero_le h0
  have hj : j < cells.length := by omega
  exact ⟨cells[j], ixL_nat (by rw [List.getElem?_map, List.getElem?_eq_getElem hj]; rfl)⟩
theorem xw_imp {S α : Type} {f : XF S α} {ds : DS S} {P Q : α → DS S → Prop} (h : XW f ds P) (i : ∀ x d, P x d → Q x d) : XW f ds Q := by
  obtain ⟨x, d, e, p⟩ := h
  exact ⟨x, d, e, i x d p⟩
def g_next_rest : SF St2 := (gSeq (gIfS (xtP (gB (gOp gtD (gDGet 0 (gC (.str "left"))) (gC (.int 0)))))
  (gSeq (gAsg 3 (oX (xB (gOp modD (gDGet 0 (gC (.str "left"))) (gVar 1)))))
  (gSeq (gDPut 0 (xB (gOp divD (gDGet 0 (gC (.str "left"))) (gVar 1))) (gC (.str "left")))
  (gRet (oX (xP (gVar 3))))))
  gNext)
  (gSeq (gAsg 4 (oX (xB (gDGet 0 (gC (.str "at"))))))
  (gSeq (gDPut 0 (xP (gOp addA (gVar 4) (gC (.int 1)))) (gC (.str "at")))
  (gSeq (gAsg 5 (oX (xP (gL (gLst (gCons (gC (.int 2147483629)) (gCons (gC (.int 2147483587)) (gCons (gC (.int 2147483579)) (gCons (gC (.int 2147483563)) (gCons (gC (.int 2147483549)) (gCons (gC (.int 2147483543)) (gCons (gC (.int 2147483497)) gNil))))))))))))
  (gSeq (gAsg 6 (oX (xP (gIf (gB (gOp eqD (gVar 2) (gL (gLst gNil)))) (gC (.int 5)) (gOp modD (gOp ixD (gVar 2) (gOp modD (gVar 4) (gCall (gCons (gVar 2) gNil) lenD))) (gOp ixD (gVar 5) (gOp modD (gVar 4) (gC (.int 7)))))))))
  (gSeq (gAsg 7 (oX (xP (gOp modD (gOp addA (gOp addA (gOp addA (gOp mulD (gVar 6) (gOp addA (gC (.int 48271)) (gOp mulD (gC (.int 2)) (gVar 4)))) (gOp mulD (gOp mulD (gC (.int 69621)) (gVar 4)) (gVar 4))) (gOp mulD (gC (.int 7919)) (gVar 4))) (gC (.int 104729))) (gC (.int 2147483647))))))
  (gRet (oX (xP (gOp modD (gOp divD (gOp modD (gOp mulD (gVar 7) (gC (.int 40692))) (gC (.int 2147483629))) (gC (.int 7))) (gVar 1)))))))))))
theorem prime7 {i : Int} (h0 : 0 ≤ i) (h1 : i < 7) : ∃ p : Int, ixD (.list [.int 2147483629, .int 2147483587, .int 2147483579, .int 2147483563, .int 2147483549, .int 2147483543, .int 2147483497]) (.int i) = some (.int p) ∧ 0 < p ∧ p < 2 ^ 31 := by
  have : i = 0 ∨ i = 1 ∨ i = 2 ∨ i = 3 ∨ i = 4 ∨ i = 5 ∨ i = 6 := by omega
  rcases this with rfl | rfl | rfl | rfl | rfl | rfl | rfl <;> exact ⟨_, rfl, by decide, by decide⟩
theorem w_next {b : Nat} {s : List (Key × D)} {n : Int} {Q : MO St2 → List (Key × D) → Prop} (w : SK (b + 1) s) (h : 0 < n) (h2 : n < 2 ^ 90) (q : ∀ (r : Int) s', 0 ≤ r → r < n → SK b s' → Q (.d (.int r)) s') : PW2 (F_law_next s [.int n]) Q := by
  obtain ⟨cells, k, c, l, rfl, k0, kb, c0, l0, c63⟩ := w
  unfold F_law_next g_law_next
  refine pw_runV [some (.dic (stK cells k c l)), some (.d (.int n)), none, none, none, none, none, none] rfl ?_
  walk_at "wY1"
  refine ow_eq st_cells ?_
  walk_at "wY1"
  have after : ∀ c l : Int, 0 ≤ c → 0 ≤ l → ∀ ds : DS2, ds = [some (.dic (stK cells k c l)), some (.d (.int n)), some (.d (.list (cells.map .int))), none, none, none, none, none] → SW g_next_rest ds (fun ds => OW (dicKs ds 0) fun s' => Q (.d .none) s') (fun m ds => OW (dicKs ds 0) fun s' => Q m s') (fun _ => False) (fun _ => False) := by
    rintro c l c0 l0 ds rfl
    unfold g_next_rest
    walk_at "wY1"
    refine sw_if ?_
    walk_at "wY1"
    refine ow_eq st_left ?_
    walk_at "wY1"
    refine ⟨fun hl => ?_, fun hl => ?_⟩
    · walk_at "wY1"
      refine ow_eq st_left ?_
      walk_at "wY1"
      refine ow_mod h ?_
      walk_at "wY1"
      refine ow_eq st_left ?_
      walk_at "wY1"
      refine ow_div h (by omega) ?_
      walk_at "wY1"
      rw [pu_left]
      exact q _ _ (Int.emod_nonneg _ (by omega)) (Int.emod_lt_of_pos _ h) ⟨cells, k, c, l / n, rfl, k0, by omega, c0, Int.ediv_nonneg l0 (by omega), c63⟩
    · walk_at "wY1"
      refine ow_eq st_at ?_
      walk_at "wY2"
      rw [pu_at]
      walk_at "wY2"
      refine ow_imp (P := fun x => ∃ y : Int, x = PyData.int y ∧ 0 ≤ y ∧ y < 2 ^ 31) ?_ ?_
      · walk_at "wY1"
        refine ow_eq (eq_nilL (noD_ints cells)) ?_
        walk_at "wY1"
        refine ⟨fun he => ?_, fun he => ?_⟩
        · walk_at "wY1"
          exact ⟨5, rfl, by decide, by decide⟩
        · have hl : 0 < cells.length := by
            cases cells with
            | nil => cases he
            | cons a r => rw [List.length_cons]; omega
          walk_at "wY1"
          refine ow_mod (by omega) ?_
          walk_at "wY1"
          obtain ⟨z, ez⟩ := cell_at (cells := cells) (i := k % (cells.length : Int)) (Int.emod_nonneg _ (by omega)) (Int.emod_lt_of_pos _ (by omega))
          refine ow_eq ez ?_
          walk_at "wY1"
          obtain ⟨p, ep, p0, p1⟩ := prime7 (i := k % 7) (by omega) (by omega)
          refine ow_eq ep ?_
          walk_at "wY1"
          refine ow_mod p0 ?_
          exact ⟨_, rfl, Int.emod_nonneg _ (by omega), Int.lt_trans (Int.emod_lt_of_pos _ p0) p1⟩
      rintro x ⟨y, rfl, y0, y1⟩
      walk_at "wY1"
      refine ow_mulL (by omega) ?_
      walk_at "wY1"
      refine ow_mulR (by omega) ?_
      walk_at "wY1"
      refine ow_mod h ?_
      walk_at "wY1"
      exact q _ _ (Int.emod_nonneg _ (by omega)) (Int.emod_lt_of_pos _ h) ⟨cells, k + 1, c, l, rfl, by omega, by omega, c0, l0, c63⟩
  refine sw_while (fun m ds => ∃ c l : Int, 0 ≤ c ∧ 0 ≤ l ∧ m = cells.length - c.toNat ∧ ds = [some (.dic (stK cells k c l)), some (.d (.int n)), some (.d (.list (cells.map .int))), none, none, none, none, none]) (cells.length - c.toNat) (by omega) ⟨c, l, c0, l0, rfl, rfl⟩ ?_
  rintro m ds ⟨c, l, c0, l0, rfl, rfl⟩
  refine xw_imp (P := fun b ds1 => ds1 = [some (.dic (stK cells k c l)), some (.d (.int n)), some (.d (.list (cells.map .int))), none, none, none, none, none] ∧ (b = true → c < cells.length)) ?_ ?_
  · walk_at "wY1"
    refine ow_eq st_left ?_
    walk_at "wY1"
    refine ⟨fun _ => ?_, fun _ => ⟨rfl, nofun⟩⟩
    walk_at "wY1"
    refine ow_eq st_cell ?_
    walk_at "wY1"
    refine ⟨fun hc => ?_, fun _ => ⟨rfl, nofun⟩⟩
    have hc : c < cells.length := by simpa using hc
    walk_at "wY1"
    obtain ⟨z, ez⟩ := cell_at (cells := cells) (i := 0) (by omega) (by omega)
    refine ow_eq ez ?_
    walk_at "wY1"
    exact ⟨rfl, fun _ => hc⟩
  rintro b ds1 ⟨rfl, hb⟩
  refine ⟨fun ht => ?_, fun _ => after c l c0 l0 _ rfl⟩
  have hc := hb ht
  obtain ⟨z, ez⟩ := cell_at (cells := cells) c0 hc
  walk_at "wY1"
  refine ow_eq st_cell ?_
  walk_at "wY1"
  refine ow_eq ez ?_
  walk_at "wY1"
  refine ow_eq (show absD [.int z] = some (.int (if z < 0 then -z else z)) from rfl) ?_
  walk_at "wY1"
  refine ow_eq st_cell ?_
  walk_at "wY1"
  refine ow_imp (P := fun x => ∃ y : Int, x = PyData.int y ∧ 0 < y ∧ y < 3) ?_ ?_
  · by_cases h0 : c = 0
    · rw [decide_eq_true h0]
      exact ⟨_, rfl, 2, rfl, by decide, by decide⟩
    · rw [decide_eq_false h0]
      exact ⟨_, rfl, 1, rfl, by decide, by decide⟩
  rintro x ⟨y, rfl, y0, y1⟩
  walk_at "wY1"
  refine ow_div y0 (by omega) ?_
  walk_at "wY1"
  refine ow_eq st_cell ?_
  walk_at "wY1"
  refine ⟨cells.length - (c + 1).toNat, by omega, c + 1, _, by omega, ?_, rfl, rfl⟩
  exact Int.ediv_nonneg (by split <;> omega) (by omega)
structure Rl where
  e : Nat
  o : Nat
  m : Nat
  a : Nat
def encRl (r : Rl) : D := .tuple [.int (r.e : Nat), .int (r.o : Nat), .int (r.m : Nat), .int (r.a : Nat)]
structure GRl (r : Rl) : Prop where
  e1 : 1 ≤ r.e
  e2 : r.e ≤ 20
  o1 : r.e ≤ r.o
  o2 : r.o ≤ 30
  m1 : 1 ≤ r.m
  m2 : r.m ≤ 10
  a2 : r.a ≤ 20
abbrev Pr := Int × Str
def eP (p : Pr) : D := .tuple [.int p.1, .str p.2]
structure HRow where
  day : Int
  word : Str
  shown : List Int
def eH (r : HRow) : D := .tuple [.int r.day, .str r.word, .tuple (r.shown.map .int)]
def daysOf (ps : List Pr) (w : Str) : List Int := (ps.filter fun p => decide (p.2 = w)).map (·.1)
def lastN {α : Type} (n : Nat) (l : List α) : List α := l.drop (l.length - n)
theorem lastN_drop {α : Type} (n k : Nat) (l : List α) : lastN n (l.drop k) = l.drop (max k (l.length - n)) := by
  unfold lastN
  rw [List.length_drop, List.drop_drop]
  by_cases h : k ≤ l.length
  · rw [show k + (l.length - k - n) = max k (l.length - n) by omega]
  · rw [List.drop_eq_nil_of_le (by omega), List.drop_eq_nil_of_le (by omega)]
def encON : Option Nat → D
  | none => .none
  | some p => .int (p : Nat)
abbrev IsMk (mk : List D → D) : Prop := mk = PyData.list ∨ mk = PyData.tuple
theorem srcD_mk {mk : List D → D} (h : IsMk mk) {xs : List D} : srcD (mk xs) = some xs := by rcases h with rfl | rfl <;> rfl
theorem slA_mk {mk : List D → D} (h : IsMk mk) {xs : List D} {lo hi : Option Int} : slA (mk xs) lo hi = some (mk (DL.cutD xs lo hi)) := by rcases h with rfl | rfl <;> rfl
theorem cut_neg {xs : List D} {m : Nat} (h : 1 ≤ m) : DL.cutD xs (some (-(m : Int))) none = lastN m xs := by
  unfold DL.cutD lastN
  rw [HT.sIx_none, show HT.sIx xs.length 0 (some (-(m : Int))) = xs.length - m by
    show (if -(m : Int) < 0 then (-(m : Int) + (xs.length : Int)).toNat else _) = _
    rw [if_pos (by omega)]
    omega]
  exact List.take_of_length_le (by rw [List.length_drop]; omega)
theorem cut_from {xs : List D} {m : Nat} : DL.cutD xs (some (m : Int)) none = xs.drop m := by
  unfold DL.cutD
  rw [HT.sIx_none, HT.sIx_nat]
  by_cases h : m ≤ xs.length
  · rw [show min m xs.length = m by omega]
    exact List.take_of_length_le (by rw [List.length_drop]; omega)
  · rw [show min m xs.length = xs.length by omega, List.drop_eq_nil_of_le (Nat.le_refl _), List.drop_eq_nil_of_le (by omega), List.take_nil]
theorem map_lastN {α β : Type} (f : α → β) (n : Nat) (l : List α) : lastN n (l.map f) = (lastN n l).map f := by
  unfold lastN
  rw [List.length_map, List.map_drop]
theorem sl_neg {ps : List Pr} {m : Nat} (h : 1 ≤ m) : slA (.list (ps.map eP)) (some (-(m : Int))) none = some (.list ((lastN m ps).map eP)) := by
  show some (PyData.list (DL.cutD (ps.map eP) (some (-(m : Int))) none)) = _
  rw [cut_neg h, map_lastN]
theorem sl_from {ps : List Pr} {i : Int} {m : Nat} (h : i = (m : Nat)) : slA (.list (ps.map eP)) (some i) none = some (.list ((ps.drop m).map eP)) := by
  subst h
  show some (PyData.list (DL.cutD (ps.map eP) (some (m : Int)) none)) = _
  rw [cut_from, List.map_drop]
theorem nl_ints : ∀ l : List Int, noListAll (l.map .int) = true
  | [] => rfl
  | _ :: r => by
    show (true && noListAll (r.map .int)) = true
    rw [nl_ints r]
    rfl
def wnd (line : List Pr) (bg n : Nat) : List Pr := (line.take (n + 1)).drop bg
def endM (r : Rl) (ps gs : List Pr) : Option (Str × List Int) :=
  if (daysOf (lastN r.m ps) "missed").length = r.m then some ("missed", daysOf (lastN r.m ps) "missed")
  else if r.a < (daysOf (lastN r.o gs) "told").length then some ("away", daysOf (lastN r.o gs) "told") else none
structure RS where
  fd : List HRow
  bg : Nat
  er : Option Nat
def stepR (r : Rl) (line : List Pr) (n : Nat) (p : Pr) (s : RS) : Option RS :=
  if p.2 = "given" ∨ p.2 = "struck" then
    if s.er = none ∧ p.2 = "given" then none
    else some ⟨s.fd ++ (if s.er.isSome then [⟨p.1, p.2, []⟩] else []), n + 1, none⟩
  else match s.er with
    | none => if p.2 = "came" ∧ r.e ≤ (daysOf (lastN r.o (wnd line s.bg n)) "came").length then some ⟨s.fd ++ [⟨p.1, "earned", daysOf (lastN r.o (wnd line s.bg n)) "came"⟩], s.bg, some n⟩ else some s
    | some k => match endM r (wnd line s.bg n) (wnd line (k + 1) n) with
      | some (w, ds) => some ⟨s.fd ++ [⟨p.1, w, ds⟩], n + 1, none⟩
      | none => some s
def runR (r : Rl) (line : List Pr) : Nat → Option RS
  | 0 => some ⟨[], 0, none⟩
  | n + 1 => (runR r line n).bind fun s => (line[n]?).bind fun p => stepR r line n p s
theorem runR_succ {r : Rl} {line : List Pr} {n : Nat} {s : RS} {p : Pr} (h : runR r line n = some s) (e : line[n]? = some p) : runR r line (n + 1) = stepR r line n p s := by
  show (runR r line n).bind _ = _
  rw [h, Option.bind_some, e, Option.bind_some]
theorem runR_none {r : Rl} {line : List Pr} {n : Nat} (h : runR r line n = none) : ∀ k, runR r line (n + k) = none
  | 0 => h
  | k + 1 => by
    show (runR r line (n + k)).bind _ = none
    rw [runR_none h k]
    rfl
theorem runR_noneLe {r : Rl} {line : List Pr} {n m : Nat} (h : runR r line n = none) (l : n ≤ m) : runR r line m = none := by
  have := runR_none h (m - n)
  rwa [show n + (m - n) = m by omega] at this
structure RI (n : Nat) (s : RS) : Prop where
  len : s.fd.length ≤ n
  bg : s.bg ≤ n
  er : ∀ k, s.er = some k → s.bg ≤ k ∧ k < n
theorem runR_inv {r : Rl} {line : List Pr} : ∀ {n : Nat} {s : RS}, runR r line n = some s → RI n s
  | 0, s, h => by
    cases h
    exact ⟨Nat.le_refl _, Nat.le_refl _, nofun⟩
  | n + 1, s, h => by
    cases e : runR r line n with
    | none => rw [runR_noneLe e (Nat.le_succ n)] at h; cases h
    | some s0 =>
      have i := runR_inv e
      cases ep : line[n]? with
      | none =>
        have : runR r line (n + 1) = none := by
          show (runR r line n).bind _ = _
          rw [e, Option.bind_some, ep]
          rfl
        rw [this] at h
        cases h
      | some p =>
        rw [runR_succ e ep] at h
        unfold stepR at h
        split at h
        · split at h
          · cases h
          · cases h
            refine ⟨?_, Nat.le_refl _, nofun⟩
            have := i.len
            dsimp only
            split <;> simp <;> omega
        · split at h
          · rename_i he
            split at h
            · cases h
              exact ⟨by have := i.len; simp; omega, Nat.le_succ_of_le i.bg, fun k hk => by cases hk; exact ⟨i.bg, Nat.lt_succ_self n⟩⟩
            · cases h
              exact ⟨Nat.le_succ_of_le i.len, Nat.le_succ_of_le i.bg, fun k hk => by rw [he] at hk; cases hk⟩
          · rename_i k he
            split at h
            · cases h
              exact ⟨by have := i.len; simp; omega, Nat.le_refl _, nofun⟩
            · cases h
              exact ⟨Nat.le_succ_of_le i.len, Nat.le_succ_of_le i.bg, fun k hk => by have := i.er k hk; exact ⟨this.1, Nat.lt_succ_of_lt this.2⟩⟩
theorem endM_word {r : Rl} {ps gs : List Pr} {w : Str} {ds : List Int} (h : endM r ps gs = some (w, ds)) : w = "missed" ∨ w = "away" := by
  unfold endM at h
  split at h
  · cases h; exact .inl rfl
  · split at h
    · cases h; exact .inr rfl
    · cases h
theorem runR_last {r : Rl} {line : List Pr} : ∀ {n : Nat} {s : RS}, runR r line n = some s → ((s.fd.getLast?).map (·.word) = some ("earned" : Str) ↔ s.er.isSome = true)
  | 0, s, h => by
    cases h
    exact ⟨nofun, nofun⟩
  | n + 1, s, h => by
    cases e : runR r line n with
    | none => rw [runR_noneLe e (Nat.le_succ n)] at h; cases h
    | some s0 =>
      have i := runR_last e
      cases ep : line[n]? with
      | none =>
        have : runR r line (n + 1) = none := by
          show (runR r line n).bind _ = _
          rw [e, Option.bind_some, ep]
          rfl
        rw [this] at h
        cases h
      | some p =>
        rw [runR_succ e ep] at h
        unfold stepR at h
        split at h
        · rename_i hw
          split at h
          · cases h
          · cases h
            dsimp only
            by_cases hs : s0.er.isSome = true
            · rw [if_pos hs, List.getLast?_append]
              refine ⟨fun z => ?_, nofun⟩
              have : p.2 = "earned" := by simpa using z
              rw [this] at hw
              exact absurd hw (by decide +kernel)
            · rw [if_neg hs, List.append_nil]
              exact ⟨fun z => absurd (i.mp z) hs, nofun⟩
        · split at h
          · rename_i he
            split at h
            · cases h
              dsimp only
              rw [List.getLast?_append]
              exact ⟨fun _ => rfl, fun _ => rfl⟩
            · cases h
              exact i
          · rename_i k he
            split at h
            · rename_i w ds hm
              cases h
              dsimp only
              rw [List.getLast?_append]
              refine ⟨fun z => ?_, nofun⟩
              have z : w = "earned" := by simpa using z
              rcases endM_word hm with y | y <;> rw [y] at z <;> exact absurd z (by decide +kernel)
            · cases h
              exact i
theorem runR_take {r : Rl} {line : List Pr} {m : Nat} : ∀ {n : Nat}, n ≤ m → runR r (line.take m) n = runR r line n
  | 0, _ => rfl
  | n + 1, h => by
    show (runR r (line.take m) n).bind _ = (runR r line n).bind _
    rw [runR_take (by omega : n ≤ m)]
    congr 1
    funext s
    rw [List.getElem?_take_of_lt (by omega)]
    congr 1
    funext p
    have hw : ∀ b, wnd (line.take m) b n = wnd line b n := fun b => by
      unfold wnd
      rw [List.take_take, show min (n + 1) m = n + 1 by omega]
    unfold stepR
    simp only [hw]
theorem runR_app {r : Rl} {line rest : List Pr} {n : Nat} (h : n ≤ line.length) : runR r (line ++ rest) n = runR r line n := by
  have := runR_take (r := r) (line := line ++ rest) h
  rw [List.take_left] at this
  exact this.symm
theorem daysOf_ok {mk : List D → D} (hm : IsMk mk) (ps : List Pr) (w : Str) : F_days_of [mk (ps.map eP), .str w] = some (.d (.tuple ((daysOf ps w).map .int))) := by
  refine ow_get ?_
  unfold F_days_of g_days_of
  refine ow_runP [some (.d (mk (ps.map eP))), some (.d (.str w)), none, none] rfl ?_
  walk_at "wY1"
  refine ow_lcSome ps eP (fun p => decide (p.2 = w)) (fun p => .int p.1) ?_
  walk_at "wY1"
  refine ow_eq (srcD_mk hm) ?_
  refine ⟨rfl, fun p hp => ?_, ?_⟩
  · walk_at "wY1"
    exact ⟨rfl, fun _ => by walk_at "wY1"; rfl⟩
  · walk_at "wY1"
    unfold daysOf
    rw [List.map_map]
    rfl
section
def rl3 (r : Rl) (ps : List Pr) (eb : Option Nat) : Fls := [("own_rules", .d (encRl r)), ("pairs", .l (ps.map eP)), ("earned_by", .d (encON eb))]
theorem s_op : ¬ (("own_rules" : Str) = "pairs") := by decide +kernel
theorem s_oe : ¬ (("own_rules" : Str) = "earned_by") := by decide +kernel
theorem s_pe : ¬ (("pairs" : Str) = "earned_by") := by decide +kernel
variable {r : Rl} {ps : List Pr} {eb : Option Nat}
theorem f_rules : fldD "Roll" "own_rules" (objD "Roll" (rl3 r ps eb)) = some (encRl r) := by
  show (if ("Roll" : Str) = "Roll" then fldL "own_rules" (fsD (rl3 r ps eb)) else none) = _
  rw [if_pos rfl]
  show (if ("own_rules" : Str) = "own_rules" then _ else _) = _
  rw [if_pos rfl]
  rfl
theorem f_pairs : fldD "Roll" "pairs" (objD "Roll" (rl3 r ps eb)) = some (.list (ps.map eP)) := by
  show (if ("Roll" : Str) = "Roll" then fldL "pairs" (fsD (rl3 r ps eb)) else none) = _
  rw [if_pos rfl]
  show (if ("own_rules" : Str) = "pairs" then _ else if ("pairs" : Str) = "pairs" then _ else _) = _
  rw [if_neg s_op, if_pos rfl]
  rfl
theorem f_eb : fldD "Roll" "earned_by" (objD "Roll" (rl3 r ps eb)) = some (encON eb) := by
  show (if ("Roll" : Str) = "Roll" then fldL "earned_by" (fsD (rl3 r ps eb)) else none) = _
  rw [if_pos rfl]
  show (if ("own_rules" : Str) = "earned_by" then _ else if ("pairs" : Str) = "earned_by" then _ else if ("earned_by" : Str) = "earned_by" then _ else _) = _
  rw [if_neg s_oe, if_neg s_pe, if_pos rfl]
  rfl
theorem l_pairs : lstF "pairs" (rl3 r ps eb) = some (ps.map eP) := by
  show (if ("own_rules" : Str) = "pairs" then _ else if ("pairs" : Str) = "pairs" then _ else _) = _
  rw [if_neg s_op, if_pos rfl]
  rfl
theorem put_pairs {xs : List Pr} : putFV "pairs" (.l (xs.map eP)) (rl3 r ps eb) = rl3 r xs eb := by
  show (if ("own_rules" : Str) = "pairs" then _ else (("own_rules" : Str), FV.d (encRl r)) :: if ("pairs" : Str) = "pairs" then _ else _) = _
  rw [if_neg s_op, if_pos rfl]
  rfl
theorem put_eb {e2 : Option Nat} : putFV "earned_by" (.d (encON e2)) (rl3 r ps eb) = rl3 r ps e2 := by
  show (if ("own_rules" : Str) = "earned_by" then _ else (("own_rules" : Str), FV.d (encRl r)) :: if ("pairs" : Str) = "earned_by" then _ else (("pairs" : Str), FV.l (ps.map eP)) :: if ("earned_by" : Str) = "earned_by" then _ else _) = _
  rw [if_neg s_oe, if_neg s_pe, if_pos rfl]
  rfl
theorem toFV_lR {xs : List D} {Z : FV → Prop} (q : Z (.l xs)) : OW (toFV (S := St2) (.lst xs)) Z := ⟨_, rfl, q⟩
theorem toFV_dR {x : D} {Z : FV → Prop} (q : Z (.d x)) : OW (toFV (S := St2) (.d x)) Z := ⟨_, rfl, q⟩
theorem putR1 {x : FV} : putFV "own_rules" x [] = [(("own_rules" : Str), x)] := rfl
theorem putR2 {x y : FV} : putFV "pairs" y [(("own_rules" : Str), x)] = [(("own_rules" : Str), x), (("pairs" : Str), y)] := by
  show (if ("own_rules" : Str) = "pairs" then _ else (("own_rules" : Str), x) :: putFV "pairs" y []) = _
  rw [if_neg s_op]
  rfl
theorem putR3 {x y z : FV} : putFV "earned_by" z [(("own_rules" : Str), x), (("pairs" : Str), y)] = [(("own_rules" : Str), x), (("pairs" : Str), y), (("earned_by" : Str), z)] := by
  show (if ("own_rules" : Str) = "earned_by" then _ else (("own_rules" : Str), x) :: if ("pairs" : Str) = "earned_by" then _ else (("pairs" : Str), y) :: putFV "earned_by" z []) = _
  rw [if_neg s_oe, if_neg s_pe]
  rfl
theorem rinit_ok {Q : MO St2 → Fls → Prop} (q : Q (.d .none) (rl3 r [] none)) : PW2 (F_Roll___init__ [] [encRl r]) Q := by
  unfold F_Roll___init__ g_Roll___init__
  refine pw_runB [some (.obj "Roll" []), some (.d (encRl r))] rfl ?_
  walk_at "wY1"
  refine toFV_dR (aw_mk (by decide) ?_)
  rw [putR1]
  walk_at "wY1"
  refine toFV_lR (aw_mk (show 1 < 1000 by decide) ?_)
  rw [putR2]
  walk_at "wY1"
  refine toFV_dR (aw_mk (show 2 < 1000 by decide) ?_)
  rw [putR3]
  walk_at "wY1"
  exact q
theorem standing_ok : F_Roll_has_standing [objD "Roll" (rl3 r ps eb)] = some (.d (.bool eb.isSome)) := by
  refine ow_get ?_
  unfold F_Roll_has_standing g_Roll_has_standing
  refine ow_runP [some (.d (objD "Roll" (rl3 r ps eb)))] rfl ?_
  walk_at "wY1"
  refine ow_eq f_eb ?_
  cases eb with
  | none => rw [show encON none = PyData.none from rfl]; walk_at "wY1"; rfl
  | some k => rw [show encON (some k) = PyData.int (k : Nat) from rfl]; walk_at "wY1"; rfl
theorem emptied_ok {Q : MO St2 → Fls → Prop} (q : Q (.d .none) (rl3 r [] none)) : PW2 (F_Roll_emptied (rl3 r ps eb) []) Q := by
  unfold F_Roll_emptied g_Roll_emptied
  refine pw_runB [some (.obj "Roll" (rl3 r ps eb))] rfl ?_
  walk_at "wY1"
  refine toFV_lR (aw_mk (show 3 < 1000 by decide) ?_)
  rw [show (FV.l []) = FV.l (([] : List Pr).map eP) from rfl, put_pairs]
  walk_at "wY1"
  refine toFV_dR (aw_mk (show 3 < 1000 by decide) ?_)
  rw [show (FV.d .none) = FV.d (encON none) from rfl, put_eb]
  walk_at "wY1"
  exact q
def encL : Option (Str × List Int) → D
  | none => .none
  | some (w, ds) => .tuple [.str w, .tuple (ds.map .int)]
theorem lost_ok (g : GRl r) {k : Nat} : F_Roll_lost_by [objD "Roll" (rl3 r ps (some k))] = some (.d (encL (endM r ps (ps.drop k)))) := by
  obtain ⟨ge1, ge2, go1, go2, gm1, gm2, ga2⟩ := g
  refine ow_get ?_
  unfold F_Roll_lost_by g_Roll_lost_by
  refine ow_runP [some (.d (objD "Roll" (rl3 r ps (some k)))), none, none, none, none, none, none] rfl ?_
  walk_at "wY1"
  refine ow_eq f_rules ?_
  walk_at "wY1"
  refine ow_eq f_pairs ?_
  walk_at "wY1"
  refine ow_eq (sl_neg gm1) ?_
  walk_at "wY1"
  refine ow_eq (daysOf_ok (.inl rfl) _ _) ?_
  walk_at "wY1"
  refine sw_if ?_
  walk_at "wY1"
  unfold endM
  by_cases h1 : (daysOf (lastN r.m ps) "missed").length = r.m
  · rw [if_pos h1]
    refine iw_t (decide_eq_true (by omega)) ?_
    walk_at "wY1"
    rfl
  · rw [if_neg h1]
    refine iw_f (decide_eq_false (by omega)) ?_
    walk_at "wY1"
    refine ow_eq f_pairs ?_
    walk_at "wY1"
    refine ow_eq f_eb ?_
    rw [show encON (some k) = PyData.int (k : Nat) from rfl]
    walk_at "wY1"
    refine ow_eq f_pairs ?_
    walk_at "wY1"
    refine ow_eq (sl_from (m := max k (ps.length - r.o)) (by split <;> omega)) ?_
    walk_at "wY1"
    rw [← lastN_drop r.o k ps]
    refine ow_eq (daysOf_ok (.inl rfl) _ _) ?_
    walk_at "wY1"
    by_cases h2 : r.a < (daysOf (lastN r.o (ps.drop k)) "told").length
    · rw [if_pos h2]
      refine iw_t (decide_eq_true (by omega)) ?_
      walk_at "wY1"
      rfl
    · rw [if_neg h2]
      refine iw_f (decide_eq_false (by omega)) ?_
      walk_at "wY1"
      rfl
theorem came_ok (g : GRl r) : F_Roll_came_days [objD "Roll" (rl3 r ps eb)] = some (.d (.tuple ((daysOf (lastN r.o ps) "came").map .int))) := by
  obtain ⟨ge1, ge2, go1, go2, gm1, gm2, ga2⟩ := g
  refine ow_get ?_
  unfold F_Roll_came_days g_Roll_came_days
  refine ow_runP [some (.d (objD "Roll" (rl3 r ps eb)))] rfl ?_
  walk_at "wY1"
  refine ow_eq f_pairs ?_
  walk_at "wY1"
  refine ow_eq f_pairs ?_
  walk_at "wY1"
  refine ow_eq f_rules ?_
  walk_at "wY1"
  refine ow_eq (sl_from (m := ps.length - r.o) (by split <;> omega)) ?_
  walk_at "wY1"
  refine ow_eq (daysOf_ok (.inl rfl) _ _) ?_
  walk_at "wY1"
  rfl
def wentM (r : Rl) (ps : List Pr) (eb : Option Nat) (d : Int) (w : Str) : List HRow × List Pr × Option Nat :=
  match eb with
  | some k => match endM r (ps ++ [(d, w)]) ((ps ++ [(d, w)]).drop k) with
    | some (x, ds) => ([⟨d, x, ds⟩], [], none)
    | none => ([], ps ++ [(d, w)], some k)
  | none => if w = "came" ∧ r.e ≤ (daysOf (lastN r.o (ps ++ [(d, w)])) "came").length then ([⟨d, "earned", daysOf (lastN r.o (ps ++ [(d, w)])) "came"⟩], ps ++ [(d, w)], some (ps ++ [(d, w)]).length) else ([], ps ++ [(d, w)], none)
theorem nl_encL : ∀ o : Option (Str × List Int), noList (encL o) = true
  | none => rfl
  | some (w, ds) => by
    show (true && (noListAll (ds.map .int) && true)) = true
    rw [nl_ints]
    rfl
theorem went_ok (g : GRl r) {d : Int} {w : Str} (hl : ps.length ≤ 5000) {Q : MO St2 → Fls → Prop} (q : Q (.lst ((wentM r ps eb d w).1.map eH)) (rl3 r (wentM r ps eb d w).2.1 (wentM r ps eb d w).2.2)) : PW2 (F_Roll_went_on (rl3 r ps eb) [.int d, .str w]) Q := by
  unfold F_Roll_went_on g_Roll_went_on
  refine pw_runB [some (.obj "Roll" (rl3 r ps eb)), some (.d (.int d)), some (.d (.str w)), none, none] rfl ?_
  walk_at "wY1"
  refine ow_eq l_pairs ?_
  walk_at "wY1"
  rw [show ps.map eP ++ [PyData.tuple [.int d, .str w]] = (ps ++ [(d, w)]).map eP by simp [eP], put_pairs]
  refine sw_if ?_
  walk_at "wY1"
  refine ow_eq standing_ok ?_
  walk_at "wY1"
  cases eb with
  | some k =>
    refine iw_t rfl ?_
    unfold wentM at q
    dsimp only at q
    walk_at "wY1"
    refine ow_eq (lost_ok g) ?_
    walk_at "wY1"
    refine aw_mk (nl_encL _) ?_
    walk_at "wY1"
    refine sw_if ?_
    cases e : endM r (ps ++ [(d, w)]) ((ps ++ [(d, w)]).drop k) with
    | none =>
      rw [e] at q
      rw [show encL none = PyData.none from rfl]
      walk_at "wY1"
      exact q
    | some x =>
      rw [e] at q
      obtain ⟨x, ds⟩ := x
      rw [show encL (some (x, ds)) = PyData.tuple [.str x, .tuple (ds.map .int)] from rfl]
      walk_at "wY1"
      refine ow_eq (show isND (PyData.tuple [.str x, .tuple (ds.map .int)]) .none = some (.bool false) from rfl) ?_
      walk_at "wY1"
      refine emptied_ok ?_
      walk_at "wY1"
      exact q
  | none =>
    refine iw_f rfl ?_
    unfold wentM at q
    dsimp only at q
    walk_at "wY1"
    refine ow_eq (came_ok g) ?_
    walk_at "wY1"
    refine aw_mk (by show noListAll _ = true; exact nl_ints _) ?_
    walk_at "wY1"
    refine sw_if ?_
    walk_at "wY1"
    by_cases h2 : w = "came" ∧ r.e ≤ (daysOf (lastN r.o (ps ++ [(d, w)])) "came").length
    · rw [if_pos h2] at q
      refine iw_f (by rw [decide_eq_true h2.1]; rfl) ?_
      walk_at "wY1"
      refine ow_eq f_rules ?_
      walk_at "wY1"
      refine iw_f (decide_eq_false (by omega)) ?_
      walk_at "wY1"
      refine ow_eq f_pairs ?_
      walk_at "wY1"
      refine toFV_dR (aw_mk (show 3 < 1000 by decide) ?_)
      rw [show (FV.d (.int ((ps ++ [(d, w)]).length : Nat))) = FV.d (encON (some (ps ++ [(d, w)]).length)) from rfl, put_eb]
      walk_at "wY1"
      exact q
    · rw [if_neg h2] at q
      refine ⟨fun h3 => ?_, fun h3 => ?_⟩
      · walk_at "wY1"
        exact q
      · walk_at "wY1"
        refine ow_eq f_rules ?_
        walk_at "wY1"
        refine iw_t (decide_eq_true ?_) ?_
        · have h4 : w = "came" := by simpa using h3
          have : ¬ r.e ≤ (daysOf (lastN r.o (ps ++ [(d, w)])) "came").length := fun z => h2 ⟨h4, z⟩
          omega
        walk_at "wY1"
        exact q
end
theorem iw_nd {p : Prop} [Decidable p] {P Q : Prop} (h : p) (q : Q) : IW (!decide p) P Q := iw_f (by rw [decide_eq_true h]; rfl) q
theorem needRules_ok {r : Rl} (g : GRl r) : FX_need_rules [encRl r] = some (.ok (.d .none)) := by
  obtain ⟨ge1, ge2, go1, go2, gm1, gm2, ga2⟩ := g
  refine ow_get ?_
  unfold FX_need_rules g_need_rules
  refine ow_runPX [some (.d (.tuple [.int (r.e : Nat), .int (r.o : Nat), .int (r.m : Nat), .int (r.a : Nat)])), none] rfl ?_
  walk_at "wY1"
  refine ow_eq k_tt ?_
  walk_at "wY1"
  refine iw_f rfl ?_
  walk_at "wY1"
  refine ow_lcAll [r.e, r.o, r.m, r.a] (fun k : Nat => .int (k : Nat)) (fun _ => .bool true) ?_
  walk_at "wY1"
  refine ⟨rfl, fun k hk => ?_, ?_⟩
  · walk_at "wY1"
    refine ow_eq (whole_ok (by omega) (by simp at hk; omega)) ?_
    walk_at "wY1"
    rfl
  walk_at "wY1"
  refine ow_eq (all_true (l := [true, true, true, true]) (by simp)) ?_
  walk_at "wY1"
  refine iw_t (decide_eq_true (by omega)) ?_
  walk_at "wY1"
  refine iw_nd (by omega) ?_
  walk_at "wY1"
  refine iw_f (decide_eq_false (by omega)) ?_
  walk_at "wY1"
  refine iw_t (decide_eq_true (by omega)) ?_
  walk_at "wY1"
  refine iw_nd (by omega) ?_
  walk_at "wY1"
  refine iw_f (decide_eq_false (by omega)) ?_
  walk_at "wY1"
  rfl
def W5 : List Str := ["came", "told", "missed", "given", "struck"]
def GPr (p : Pr) : Prop := 0 ≤ p.1 ∧ p.1 ≤ 9999 ∧ p.2 ∈ W5
def GFo (p q : Pr) : Prop := ¬ p.2 = "struck" ∧ (p.1 < q.1 ∨ (p.1 = q.1 ∧ p.2 = "given" ∧ ¬ q.2 = "given"))
structure GLn (l : List Pr) : Prop where
  len : l.length ≤ 2000
  all : ∀ p ∈ l, GPr p
  nx : ∀ i p q, l[i]? = some p → l[i + 1]? = some q → GFo p q
theorem pair_ok {p : Pr} (g : GPr p) : F_is_pair [eP p] = some (.d (.bool true)) := by
  obtain ⟨d, w⟩ := p
  obtain ⟨h1, h2, h3⟩ := g
  dsimp only at h1 h2 h3
  refine ow_get ?_
  unfold F_is_pair g_is_pair
  refine ow_runP [some (.d (.tuple [.int d, .str w]))] rfl ?_
  walk_at "wY1"
  refine sw_if ?_
  walk_at "wY1"
  refine ow_eq k_tt ?_
  walk_at "wY1"
  refine iw_f rfl ?_
  walk_at "wY1"
  refine ow_eq (whole_ok h1 h2) ?_
  walk_at "wY1"
  refine ow_eq k_ss ?_
  walk_at "wY1"
  refine ow_eq (inT w W5) ?_
  rw [decide_eq_true h3]
theorem follow_ok {p q : Pr} (g : GFo p q) : F_may_follow [eP p, eP q] = some (.d (.bool true)) := by
  obtain ⟨d, w⟩ := p
  obtain ⟨d2, w2⟩ := q
  obtain ⟨h1, h2⟩ := g
  dsimp only at h1 h2
  refine ow_get ?_
  unfold F_may_follow g_may_follow
  refine ow_runP [some (.d (.tuple [.int d, .str w])), some (.d (.tuple [.int d2, .str w2]))] rfl ?_
  walk_at "wY1"
  refine sw_if ?_
  walk_at "wY1"
  refine iw_f (decide_eq_false h1) ?_
  walk_at "wY1"
  refine iw_f (decide_eq_false (by omega)) ?_
  walk_at "wY1"
  rcases h2 with h2 | ⟨h2, h3, h4⟩
  · refine iw_t (decide_eq_true h2) ?_
    rw [decide_eq_true h2]
  · refine iw_f (decide_eq_false (by omega)) ?_
    walk_at "wY1"
    refine iw_t (decide_eq_true h3) ?_
    walk_at "wY1"
    rw [decide_eq_false h4]
    rfl
def encPP (q : Pr × Pr) : D := .tuple [eP q.1, eP q.2]
theorem zip_pp (l : List Pr) : zipD (l.map eP) (DL.cutD (l.map eP) (some 1) none) = (l.zip (l.drop 1)).map encPP := by
  rw [show DL.cutD (l.map eP) (some 1) none = (l.map eP).drop 1 from cut_from (m := 1), ← List.map_drop]
  unfold zipD
  rw [List.zip_map, List.map_map]
  rfl
theorem zip_in {l : List Pr} {q : Pr × Pr} (h : q ∈ l.zip (l.drop 1)) : ∃ i, l[i]? = some q.1 ∧ l[i + 1]? = some q.2 := by
  obtain ⟨i, hi, e⟩ := List.getElem_of_mem h
  have h2 : (l.zip (l.drop 1))[i]? = some q := by rw [List.getElem?_eq_getElem hi, e]
  rw [List.getElem?_zip_eq_some] at h2
  rw [List.getElem?_drop, Nat.add_comm] at h2
  exact ⟨i, h2⟩
theorem needLine_ok {l : List Pr} (g : GLn l) : FX_need_line [.tuple (l.map eP)] = some (.ok (.d .none)) := by
  refine ow_get ?_
  unfold FX_need_line g_need_line
  refine ow_runPX [some (.d (.tuple (l.map eP))), none, none, none] rfl ?_
  walk_at "wY1"
  refine ow_eq k_tt ?_
  walk_at "wY1"
  have := g.len
  refine iw_f (decide_eq_false (by omega)) ?_
  walk_at "wY1"
  refine ow_lcAll l eP (fun _ => .bool true) ?_
  walk_at "wY1"
  refine ⟨rfl, fun p hp => ?_, ?_⟩
  · walk_at "wY1"
    refine ow_eq (pair_ok (g.all p hp)) ?_
    walk_at "wY1"
    rfl
  walk_at "wY1"
  refine ow_eq (x := PyData.bool true) (by have := all_true (l := l.map fun _ => true) (by simp); rw [List.map_map] at this; exact this) ?_
  walk_at "wY1"
  refine ow_lcAll (l.zip (l.drop 1)) encPP (fun _ => .bool true) ?_
  walk_at "wY1"
  refine ow_eq (slA_mk (.inr rfl)) ?_
  walk_at "wY1"
  refine ⟨zip_pp l, fun q hq => ?_, ?_⟩
  · walk_at "wY1"
    obtain ⟨i, h1, h2⟩ := zip_in hq
    refine ow_eq (follow_ok (g.nx i _ _ h1 h2)) ?_
    walk_at "wY1"
    rfl
  walk_at "wY1"
  refine ow_eq (x := PyData.bool true) (by have := all_true (l := (l.zip (l.drop 1)).map fun _ => true) (by simp); rw [List.map_map] at this; exact this) ?_
  walk_at "wY1"
  rfl
theorem step_went {r : Rl} {line : List Pr} {n : Nat} {p : Pr} {s : RS} (iv : RI n s) (hp : line[n]? = some p) (hw : ¬ (p.2 = "given" ∨ p.2 = "struck")) :
    ∃ s', stepR r line n p s = some s' ∧ s'.fd = s.fd ++ (wentM r ((line.take n).drop s.bg) (s.er.map fun k => k + 1 - s.bg) p.1 p.2).1 ∧ (line.take (n + 1)).drop s'.bg = (wentM r ((line.take n).drop s.bg) (s.er.map fun k => k + 1 - s.bg) p.1 p.2).2.1 ∧ (s'.er.map fun k => k + 1 - s'.bg) = (wentM r ((line.take n).drop s.bg) (s.er.map fun k => k + 1 - s.bg) p.1 p.2).2.2 := by
  have hn : n < line.length := (List.getElem?_eq_some_iff.mp hp).1
  have tk : (line.take n).drop s.bg ++ [p] = wnd line s.bg n := by
    unfold wnd
    rw [List.take_succ, hp, List.drop_append_of_le_length (by rw [List.length_take]; have := iv.bg; omega)]
    rfl
  have wl : (wnd line s.bg n).length = n + 1 - s.bg := by
    unfold wnd
    rw [List.length_drop, List.length_take]
    omega
  obtain ⟨d, w⟩ := p
  unfold stepR
  rw [if_neg hw]
  obtain ⟨fd, bg, er⟩ := s
  dsimp only at tk wl ⊢
  have ib := iv.bg
  cases er with
  | none =>
    dsimp only
    unfold wentM
    dsimp only [Option.map_none]
    rw [tk]
    split
    · exact ⟨_, rfl, rfl, rfl, by dsimp only [Option.map_some]; rw [wl]⟩
    · exact ⟨_, rfl, by simp, rfl, rfl⟩
  | some k =>
    have hk := iv.er k rfl
    dsimp only at hk ib
    dsimp only
    unfold wentM
    dsimp only [Option.map_some]
    rw [tk]
    have e2 : (wnd line bg n).drop (k + 1 - bg) = wnd line (k + 1) n := by
      unfold wnd
      rw [List.drop_drop, show bg + (k + 1 - bg) = k + 1 by omega]
    rw [e2]
    cases e : endM r (wnd line bg n) (wnd line (k + 1) n) with
    | none => exact ⟨_, rfl, by simp, rfl, rfl⟩
    | some x =>
      obtain ⟨w2, ds⟩ := x
      refine ⟨_, rfl, rfl, ?_, rfl⟩
      exact List.drop_eq_nil_of_le (by rw [List.length_take]; dsimp only; omega)
def resX : Option RS → Except Exc (MO St2)
  | none => .error ⟨"BadLineup", none⟩
  | some s => .ok (.lst (s.fd.map eH))
theorem went_len {r : Rl} {ps : List Pr} {eb : Option Nat} {d : Int} {w : Str} : (wentM r ps eb d w).1.length ≤ 1 ∧ (wentM r ps eb d w).2.1.length ≤ ps.length + 1 := by
  unfold wentM
  cases eb with
  | none => dsimp only; split <;> simp
  | some k =>
    dsimp only
    split <;> simp
theorem ow_extB {xs ys : List D} {QP : D → List D → Prop} (z : xs.length + ys.length ≤ 1000000) (q : QP .none (xs ++ ys)) : PW2 (extBD xs [.list ys]) QP := by
  have : (1000000 : Nat) ≤ sizeLine := by decide
  exact ow_ext (by omega) q
theorem rowsBy_ok {r : Rl} (g : GRl r) {line : List Pr} (gl : GLn line) : FX_rows_by [encRl r, .tuple (line.map eP)] = some (resX (runR r line line.length)) := by
  have hl := gl.len
  refine ow_get ?_
  unfold FX_rows_by g_rows_by
  refine ow_runPX [some (.d (encRl r)), some (.d (.tuple (line.map eP))), none, none, none, none] rfl ?_
  walk_at "wY1"
  refine ow_eq (needRules_ok g) ?_
  walk_at "wY1"
  refine ow_eq (needLine_ok gl) ?_
  walk_at "wY1"
  refine rinit_ok ?_
  refine ⟨rfl, ?_⟩
  walk_at "wY1"
  refine sxw_for (enc := eP) line (fun n ds => ∃ fd bg er ps o4 o5, runR r line n = some ⟨fd, bg, er⟩ ∧ (n = line.length ∨ (ps = (line.take n).drop bg)) ∧ ps.length ≤ n ∧ ds = [some (.d (encRl r)), some (.d (.tuple (line.map eP))), some (.obj "Roll" (rl3 r ps (er.map fun k => k + 1 - bg))), some (.lst (fd.map eH)), o4, o5]) ?_ ?_ ?_
  · walk_at "wY1"
    exact ⟨rfl, [], 0, none, [], none, none, rfl, .inr rfl, Nat.le_refl _, rfl⟩
  · rintro n p hp ds ⟨fd, bg, er, ps, o4, o5, hs, hps, pl, rfl⟩
    have hn : n < line.length := (List.getElem?_eq_some_iff.mp hp).1
    have hps : ps = (line.take n).drop bg := hps.resolve_left (by omega)
    have iv := runR_inv hs
    have nx := runR_succ hs hp
    have fl : fd.length ≤ n := iv.len
    have gp := gl.all p (List.mem_of_getElem? hp)
    walk_at "wY1"
    refine ow_eq (inT p.2 ["came", "told", "missed"]) ?_
    walk_at "wY1"
    refine ⟨fun h1 => ?_, fun h1 => ?_⟩
    · have h1 : ¬ (p.2 = "given" ∨ p.2 = "struck") := by
        have h1 := of_decide_eq_true h1
        rintro (z | z) <;> rw [z] at h1 <;> exact absurd h1 (by decide +kernel)
      obtain ⟨⟨fd2, bg2, er2⟩, e1, e2, e3, e4⟩ := step_went (r := r) iv hp h1
      dsimp only at e2 e3 e4
      rw [← hps] at e2 e3 e4
      walk_at "wY1"
      refine went_ok g (by omega) ?_
      walk_at "wY1"
      have wl := went_len (r := r) (ps := ps) (eb := er.map fun k => k + 1 - bg) (d := p.1) (w := p.2)
      refine ow_extB (by rw [List.length_map, List.length_map]; omega) ?_
      rw [← List.map_append, ← e2]
      walk_at "wY1"
      rw [← e3, ← e4] at *
      refine ⟨_, _, _, _, _, _, nx.trans e1, .inr rfl, ?_, rfl⟩
      rw [List.length_drop, List.length_take]
      omega
    · have h1 : p.2 = "given" ∨ p.2 = "struck" := by
        have h1 := of_decide_eq_false h1
        obtain ⟨_, _, h2⟩ := gp
        unfold W5 at h2
        simp only [List.mem_cons, List.mem_nil_iff, or_false] at h1 h2
        rcases h2 with z | z | z | z | z
        · exact absurd (.inl z) h1
        · exact absurd (.inr (.inl z)) h1
        · exact absurd (.inr (.inr z)) h1
        · exact .inl z
        · exact .inr z
      unfold stepR at nx
      rw [if_pos h1] at nx
      walk_at "wY1"
      refine ow_eq standing_ok ?_
      walk_at "wY1"
      cases er with
      | some k =>
        rw [if_neg (fun z => by cases z.1)] at nx
        refine iw_t rfl ?_
        walk_at "wY1"
        refine emptied_ok ?_
        walk_at "wY1"
        rw [show List.map eH fd ++ [PyData.tuple [PyData.int p.1, PyData.str p.2, PyData.tuple []]] = List.map eH (fd ++ [⟨p.1, p.2, []⟩]) by rw [List.map_append]; rfl]
        have nx2 : runR r line (n + 1) = some ⟨fd ++ [⟨p.1, p.2, []⟩], n + 1, none⟩ := by rw [nx]; simp
        refine ⟨_, _, _, _, _, _, nx2, .inr ?_, Nat.zero_le _, rfl⟩
        exact (List.drop_eq_nil_of_le (by rw [List.length_take]; omega)).symm
      | none =>
        refine iw_f rfl ?_
        walk_at "wY1"
        refine ⟨fun h2 => ?_, fun h2 => ?_⟩
        · have h2 := of_decide_eq_true h2
          rw [if_pos ⟨rfl, h2⟩] at nx
          walk_at "wY1"
          rw [runR_noneLe nx hn]
          rfl
        · have h2 := of_decide_eq_false h2
          rw [if_neg (fun z => h2 z.2)] at nx
          walk_at "wY1"
          have nx2 : runR r line (n + 1) = some ⟨fd, n + 1, none⟩ := by rw [nx]; simp
          refine ⟨_, _, _, _, _, _, nx2, .inl ?_, Nat.le_succ_of_le pl, rfl⟩
          cases e : line[n + 1]? with
          | none =>
            have := List.getElem?_eq_none_iff.mp e
            omega
          | some q => exact absurd (h1.resolve_left h2) (gl.nx n p q hp e).1
  · rintro ds ⟨fd, bg, er, ps, o4, o5, hs, hps, pl, rfl⟩
    walk_at "wY1"
    rw [hs]
    rfl
theorem daysOf_app (a b : List Pr) (w : Str) : daysOf (a ++ b) w = daysOf a w ++ daysOf b w := by
  unfold daysOf
  rw [List.filter_append, List.map_append]
theorem daysOf_le (l : List Pr) (w : Str) : (daysOf l w).length ≤ l.length := by
  unfold daysOf
  rw [List.length_map]
  exact List.length_filter_le ..
theorem lastN_le {α : Type} (n : Nat) (l : List α) : (lastN n l).length ≤ n := by
  unfold lastN
  rw [List.length_drop]
  omega
theorem lastN_wnd {line : List Pr} {bg n : Nat} (k : Nat) (h : n < line.length) : lastN k (wnd line bg n) = (line.take (n + 1)).drop (max bg (n + 1 - k)) := by
  unfold wnd
  rw [lastN_drop, List.length_take, Nat.min_eq_left (by omega)]
section
variable {ds : List Int} {ws : List Str} {w : Str} {lo n : Nat}
end
theorem step_add {r : Rl} {line : List Pr} {n : Nat} {p : Pr} {s s' : RS} (h : stepR r line n p s = some s') : s'.fd = s.fd ∨ ∃ w ds, s'.fd = s.fd ++ [⟨p.1, w, ds⟩] := by
  unfold stepR at h
  split at h
  · split at h
    · cases h
    · cases h
      dsimp only
      split
      · exact .inr ⟨_, _, rfl⟩
      · exact .inl (List.append_nil _)
  · split at h
    · split at h
      · cases h; exact .inr ⟨_, _, rfl⟩
      · cases h; exact .inl rfl
    · split at h
      · cases h; exact .inr ⟨_, _, rfl⟩
      · cases h; exact .inl rfl
theorem run_back {r : Rl} {line : List Pr} {n : Nat} {s : RS} (h : runR r line (n + 1) = some s) : ∃ s0 p, runR r line n = some s0 ∧ line[n]? = some p ∧ stepR r line n p s0 = some s := by
  have h : (runR r line n).bind (fun s => (line[n]?).bind fun p => stepR r line n p s) = some s := h
  obtain ⟨s0, h1, h⟩ := Option.bind_eq_some_iff.mp h
  obtain ⟨p, h2, h⟩ := Option.bind_eq_some_iff.mp h
  exact ⟨s0, p, h1, h2, h⟩
theorem run_le {r : Rl} {line : List Pr} {n m : Nat} {s : RS} (h : runR r line m = some s) (l : n ≤ m) : ∃ s0, runR r line n = some s0 := by
  cases e : runR r line n with
  | some s0 => exact ⟨s0, rfl⟩
  | none => rw [runR_noneLe e l] at h; cases h
theorem run_pre {r : Rl} {line : List Pr} {n : Nat} {s0 : RS} (h0 : runR r line n = some s0) : ∀ {k : Nat} {s : RS}, runR r line (n + k) = some s → ∃ t, s.fd = s0.fd ++ t ∧ ∀ x ∈ t, ∃ j p, n ≤ j ∧ j < n + k ∧ line[j]? = some p ∧ x.day = p.1
  | 0, s, h => by
    rw [Nat.add_zero, h0] at h
    cases h
    exact ⟨[], (List.append_nil _).symm, nofun⟩
  | k + 1, s, h => by
    obtain ⟨s1, p, h1, h2, h3⟩ := run_back (n := n + k) h
    obtain ⟨t, e1, e2⟩ := run_pre h0 h1
    have up : ∀ x ∈ t, ∃ j p, n ≤ j ∧ j < n + (k + 1) ∧ line[j]? = some p ∧ x.day = p.1 := fun x hx => by
      obtain ⟨j, q, a, b, c, d⟩ := e2 x hx
      exact ⟨j, q, a, by omega, c, d⟩
    rcases step_add h3 with z | ⟨w, ds, z⟩
    · exact ⟨t, by rw [z, e1], up⟩
    · refine ⟨t ++ [⟨p.1, w, ds⟩], by rw [z, e1, List.append_assoc], fun x hx => ?_⟩
      rcases List.mem_append.mp hx with y | y
      · exact up x y
      · rw [List.mem_singleton.mp y]
        exact ⟨n + k, p, by omega, by omega, h2, rfl⟩
theorem run_days {r : Rl} {line : List Pr} {n : Nat} {s : RS} (h : runR r line n = some s) : ∀ x ∈ s.fd, ∃ j p, j < n ∧ line[j]? = some p ∧ x.day = p.1 := fun x hx => by
  obtain ⟨t, e1, e2⟩ := run_pre (r := r) (line := line) (n := 0) (s0 := ⟨[], 0, none⟩) rfl (k := n) (by rw [Nat.zero_add]; exact h)
  rw [e1, List.nil_append] at hx
  obtain ⟨j, p, _, a, b, c⟩ := e2 x hx
  exact ⟨j, p, by omega, b, c⟩
theorem run_row {r : Rl} {line : List Pr} : ∀ {n : Nat} {s : RS} {k : Nat} {x : HRow}, runR r line n = some s → s.fd[k]? = some x → ∃ m s0 s1 p, m < n ∧ runR r line m = some s0 ∧ line[m]? = some p ∧ stepR r line m p s0 = some s1 ∧ s0.fd.length = k ∧ s1.fd = s0.fd ++ [x] ∧ x.day = p.1
  | 0, s, k, x, h, hx => by
    cases h
    cases hx
  | n + 1, s, k, x, h, hx => by
    obtain ⟨s0, p, h1, h2, h3⟩ := run_back h
    rcases step_add h3 with z | ⟨w, ds, z⟩
    · rw [z] at hx
      obtain ⟨m, a, b, c, d, e⟩ := run_row h1 hx
      exact ⟨m, a, b, c, by omega, e⟩
    · by_cases hk : k < s0.fd.length
      · rw [z, List.getElem?_append_left hk] at hx
        obtain ⟨m, a, b, c, d, e⟩ := run_row h1 hx
        exact ⟨m, a, b, c, by omega, e⟩
      · have hl := (List.getElem?_eq_some_iff.mp hx).1
        rw [z, List.length_append, List.length_singleton] at hl
        have ek : k = s0.fd.length := by omega
        rw [z, List.getElem?_append_right (by omega), ek, Nat.sub_self] at hx
        cases hx
        exact ⟨n, s0, s, p, Nat.lt_succ_self n, h1, h2, h3, ek.symm, z, rfl⟩
def shR (m : Nat) (fd : List HRow) (s : RS) : RS := ⟨fd ++ s.fd, m + s.bg, s.er.map (m + ·)⟩
theorem wnd_drop (line : List Pr) (m b k : Nat) : wnd line (m + b) (m + k) = wnd (line.drop m) b k := by
  unfold wnd
  rw [List.take_drop, List.drop_drop, show m + (k + 1) = m + k + 1 by omega]
theorem step_shift {r : Rl} {line : List Pr} {m k : Nat} {p : Pr} {fd : List HRow} {s : RS} : stepR r line (m + k) p (shR m fd s) = (stepR r (line.drop m) k p s).map (shR m fd) := by
  unfold stepR shR
  dsimp only
  by_cases h1 : p.2 = "given" ∨ p.2 = "struck"
  · rw [if_pos h1, if_pos h1]
    cases he : s.er with
    | none => by_cases h2 : p.2 = "given" <;> simp [h2, Nat.add_assoc]
    | some b => simp [Nat.add_assoc]
  · rw [if_neg h1, if_neg h1]
    cases he : s.er with
    | none =>
      dsimp only [Option.map_none]
      rw [wnd_drop]
      split
      · simp
      · simp [he]
    | some b =>
      dsimp only [Option.map_some]
      rw [wnd_drop, show m + b + 1 = m + (b + 1) by omega, wnd_drop]
      split
      · simp [Nat.add_assoc]
      · simp [he]
theorem run_shift {r : Rl} {line : List Pr} {m : Nat} {fd : List HRow} (h : runR r line m = some ⟨fd, m, none⟩) : ∀ k, runR r line (m + k) = (runR r (line.drop m) k).map (shR m fd)
  | 0 => by
    rw [Nat.add_zero, h]
    show _ = some (shR m fd ⟨[], 0, none⟩)
    unfold shR
    simp
  | k + 1 => by
    show (runR r line (m + k)).bind _ = ((runR r (line.drop m) k).bind _).map _
    rw [run_shift h k]
    cases runR r (line.drop m) k with
    | none => rfl
    | some s =>
      show ((line[m + k]?).bind fun p => stepR r line (m + k) p (shR m fd s)) = (((line.drop m)[k]?).bind fun p => stepR r (line.drop m) k p s).map (shR m fd)
      rw [List.getElem?_drop]
      cases line[m + k]? with
      | none => rfl
      | some p => exact step_shift
theorem step_end {r : Rl} {line : List Pr} {n : Nat} {p : Pr} {s0 s1 : RS} {x : HRow} (h : stepR r line n p s0 = some s1) (e : s1.fd = s0.fd ++ [x]) (hw : x.word ≠ "earned") : s1 = ⟨s0.fd ++ [x], n + 1, none⟩ ∧ s0.er.isSome = true ∧ ((p.2 = "given" ∨ p.2 = "struck") ∧ x = ⟨p.1, p.2, []⟩ ∨ ¬ (p.2 = "given" ∨ p.2 = "struck") ∧ ∃ k ds, s0.er = some k ∧ endM r (wnd line s0.bg n) (wnd line (k + 1) n) = some (x.word, ds) ∧ x = ⟨p.1, x.word, ds⟩) := by
  have one : ∀ {a b : HRow}, s0.fd ++ [a] = s0.fd ++ [b] → a = b := fun z => by simpa using z
  have no : ∀ {a : HRow}, s0.fd = s0.fd ++ [a] → False := fun z => by
    have := congrArg List.length z
    simp at this
  unfold stepR at h
  split at h
  · rename_i h1
    split at h
    · cases h
    · cases h
      dsimp only at e
      split at e
      · rename_i hs
        have ex := one e
        refine ⟨by rw [if_pos hs, ex], hs, .inl ⟨h1, ex.symm⟩⟩
      · rw [List.append_nil] at e
        exact (no e).elim
  · rename_i h1
    split at h
    · split at h
      · cases h
        have ex := one e
        rw [← ex] at hw
        exact absurd rfl hw
      · cases h
        exact (no e).elim
    · rename_i k hk
      split at h
      · rename_i w ds hm
        cases h
        have ex := one e
        subst ex
        exact ⟨rfl, by rw [hk]; rfl, .inr ⟨h1, k, ds, hk, hm, rfl⟩⟩
      · cases h
        exact (no e).elim
def rnP (f : Int → Int) (p : Pr) : Pr := (f p.1, p.2)
def rnH (f : Int → Int) (x : HRow) : HRow := ⟨f x.day, x.word, x.shown.map f⟩
def rnS (f : Int → Int) (s : RS) : RS := ⟨s.fd.map (rnH f), s.bg, s.er⟩
theorem daysOf_rn (f : Int → Int) (l : List Pr) (w : Str) : daysOf (l.map (rnP f)) w = (daysOf l w).map f := by
  unfold daysOf
  rw [List.filter_map, List.map_map, List.map_map]
  rfl
theorem wnd_rn (f : Int → Int) (line : List Pr) (b n : Nat) : wnd (line.map (rnP f)) b n = (wnd line b n).map (rnP f) := by
  unfold wnd
  rw [← List.map_take, ← List.map_drop]
theorem endM_rn (f : Int → Int) (r : Rl) (ps gs : List Pr) : endM r (ps.map (rnP f)) (gs.map (rnP f)) = (endM r ps gs).map fun z => (z.1, z.2.map f) := by
  unfold endM
  rw [map_lastN, map_lastN, daysOf_rn, daysOf_rn, List.length_map, List.length_map]
  split
  · rfl
  · split <;> rfl
theorem step_rn {f : Int → Int} {r : Rl} {line : List Pr} {n : Nat} {p : Pr} {s : RS} : stepR r (line.map (rnP f)) n (rnP f p) (rnS f s) = (stepR r line n p s).map (rnS f) := by
  unfold stepR
  show (if p.2 = "given" ∨ p.2 = "struck" then if s.er = none ∧ p.2 = "given" then none else some (⟨s.fd.map (rnH f) ++ (if s.er.isSome then [⟨f p.1, p.2, []⟩] else []), n + 1, none⟩ : RS)
    else match s.er with
    | none => if p.2 = "came" ∧ r.e ≤ (daysOf (lastN r.o (wnd (line.map (rnP f)) s.bg n)) "came").length then some ⟨s.fd.map (rnH f) ++ [⟨f p.1, "earned", daysOf (lastN r.o (wnd (line.map (rnP f)) s.bg n)) "came"⟩], s.bg, some n⟩ else some (rnS f s)
    | some k => match endM r (wnd (line.map (rnP f)) s.bg n) (wnd (line.map (rnP f)) (k + 1) n) with
      | some (w, ds) => some ⟨s.fd.map (rnH f) ++ [⟨f p.1, w, ds⟩], n + 1, none⟩
      | none => some (rnS f s)) = _
  by_cases h1 : p.2 = "given" ∨ p.2 = "struck"
  · rw [if_pos h1, if_pos h1]
    by_cases h2 : s.er = none ∧ p.2 = "given"
    · rw [if_pos h2, if_pos h2]; rfl
    · rw [if_neg h2, if_neg h2]
      unfold rnS
      cases s.er with
      | none => simp
      | some k => simp [rnH]
  · rw [if_neg h1, if_neg h1]
    cases he : s.er with
    | none =>
      dsimp only
      rw [wnd_rn, map_lastN, daysOf_rn, List.length_map]
      split
      · simp [rnS, rnH]
      · rfl
    | some k =>
      dsimp only
      rw [wnd_rn, wnd_rn, endM_rn]
      cases endM r (wnd line s.bg n) (wnd line (k + 1) n) with
      | none => rfl
      | some z => simp [rnS, rnH]
theorem run_rn {f : Int → Int} {r : Rl} {line : List Pr} : ∀ n, runR r (line.map (rnP f)) n = (runR r line n).map (rnS f)
  | 0 => rfl
  | n + 1 => by
    show (runR r (line.map (rnP f)) n).bind _ = ((runR r line n).bind _).map _
    rw [run_rn n]
    cases runR r line n with
    | none => rfl
    | some s =>
      show (((line.map (rnP f))[n]?).bind fun p => stepR r (line.map (rnP f)) n p (rnS f s)) = ((line[n]?).bind fun p => stepR r line n p s).map (rnS f)
      rw [List.getElem?_map]
      cases line[n]? with
      | none => rfl
      | some p => exact step_rn
theorem gln_up {l : List Pr} (g : GLn l) : ∀ {j i : Nat} {p q : Pr}, i < j → l[i]? = some p → l[j]? = some q → p.1 < q.1 ∨ (p.1 = q.1 ∧ j = i + 1 ∧ p.2 = "given" ∧ q.2 ≠ "given")
  | 0, i, p, q, h, _, _ => by omega
  | j + 1, i, p, q, h, hp, hq => by
    by_cases e : i = j
    · subst e
      rcases (g.nx i p q hp hq).2 with z | ⟨z1, z2, z3⟩
      · exact .inl z
      · exact .inr ⟨z1, rfl, z2, z3⟩
    · have hj : j < l.length := by have := (List.getElem?_eq_some_iff.mp hq).1; omega
      have hm : l[j]? = some l[j] := List.getElem?_eq_getElem hj
      have a := gln_up g (by omega) hp hm
      have b := (g.nx j _ q hm hq).2
      rcases a with a | ⟨a1, a2, a3, a4⟩ <;> rcases b with b | ⟨b1, b2, b3⟩
      · exact .inl (by omega)
      · exact .inl (by omega)
      · exact .inl (by omega)
      · exact absurd b2 a4
theorem gln_le {l : List Pr} (g : GLn l) {j i : Nat} {p q : Pr} (h : i ≤ j) (hp : l[i]? = some p) (hq : l[j]? = some q) : p.1 ≤ q.1 := by
  by_cases e : i = j
  · subst e
    rw [hp] at hq
    cases hq
    exact Int.le_refl _
  · rcases gln_up g (by omega) hp hq with z | ⟨z, _⟩ <;> omega
theorem gln_take {l : List Pr} (g : GLn l) (n : Nat) : GLn (l.take n) := by
  refine ⟨by rw [List.length_take]; have := g.len; omega, fun p hp => g.all p (List.mem_of_mem_take hp), fun i p q hp hq => ?_⟩
  have h1 := (List.getElem?_eq_some_iff.mp hp).1
  have h2 := (List.getElem?_eq_some_iff.mp hq).1
  rw [List.length_take] at h1 h2
  rw [List.getElem?_take_of_lt (by omega)] at hp hq
  exact g.nx i p q hp hq
theorem gln_drop {l : List Pr} (g : GLn l) (n : Nat) : GLn (l.drop n) := by
  refine ⟨by rw [List.length_drop]; have := g.len; omega, fun p hp => g.all p (List.mem_of_mem_drop hp), fun i p q hp hq => ?_⟩
  rw [List.getElem?_drop] at hp hq
  exact g.nx (n + i) p q hp hq
theorem days_up {l : List Pr} (g : GLn l) {w : Str} (hw : w ≠ "given") : (daysOf l w).Pairwise (· < ·) := by
  unfold daysOf
  refine List.pairwise_map.mpr ?_
  have h0 : l.Pairwise fun p q => p.1 < q.1 ∨ p.2 = ("given" : Str) := List.pairwise_iff_getElem.mpr fun i j hi hj hij => by
    rcases gln_up g hij (List.getElem?_eq_getElem hi) (List.getElem?_eq_getElem hj) with z | ⟨_, _, z, _⟩
    · exact .inl z
    · exact .inr z
  refine ((List.Pairwise.and_mem.mp (h0.sublist (List.filter_sublist (p := fun p => decide (p.2 = w)))))).imp fun {p q} h => ?_
  rcases h.2.2 with z | z
  · exact z
  · have := of_decide_eq_true (List.mem_filter.mp h.1).2
    exact absurd (this.symm.trans z) hw
theorem daysOf_sub {a b : List Pr} (h : a.Sublist b) (w : Str) : (daysOf a w).Sublist (daysOf b w) := (h.filter _).map _
theorem daysOf_mem {l : List Pr} {w : Str} {d : Int} : d ∈ daysOf l w ↔ (d, w) ∈ l := by
  unfold daysOf
  rw [List.mem_map]
  constructor
  · rintro ⟨p, hp, rfl⟩
    obtain ⟨h1, h2⟩ := List.mem_filter.mp hp
    have h2 := of_decide_eq_true h2
    obtain ⟨d, u⟩ := p
    have h2 : u = w := h2
    subst h2
    exact h1
  · intro h
    exact ⟨_, List.mem_filter.mpr ⟨h, decide_eq_true rfl⟩, rfl⟩
theorem wnd_end {l : List Pr} {b n k : Nat} {p : Pr} (hp : l[n]? = some p) (hb : b ≤ n) (hk : 1 ≤ k) : lastN k (wnd l b n) = (l.take n).drop (max b (n + 1 - k)) ++ [p] := by
  have hl := (List.getElem?_eq_some_iff.mp hp).1
  have e := (List.getElem?_eq_some_iff.mp hp).2
  rw [lastN_wnd k hl, List.take_succ, hp, Option.toList_some, List.drop_append_of_le_length (by rw [List.length_take]; omega)]
theorem wnd_sub {l : List Pr} {b n k : Nat} : (lastN k (wnd l b n)).Sublist l := by
  unfold lastN wnd
  exact ((List.drop_sublist _ _).trans (List.drop_sublist _ _)).trans (List.take_sublist _ _)
theorem days_last {l : List Pr} {p : Pr} {w : Str} (h : p.2 = w) : (daysOf (l ++ [p]) w).getLast? = some p.1 := by
  rw [daysOf_app, show daysOf [p] w = [p.1] by unfold daysOf; rw [List.filter_cons_of_pos (by simpa using h)]; rfl, List.getLast?_append]
  rfl
theorem days_not {l : List Pr} {p : Pr} {w : Str} (h : p.2 ≠ w) : daysOf (l ++ [p]) w = daysOf l w := by
  rw [daysOf_app, show daysOf [p] w = [] by unfold daysOf; rw [List.filter_cons_of_neg (by simpa using h)]; rfl, List.append_nil]
theorem run_aw {r : Rl} {l : List Pr} : ∀ {n : Nat} {s : RS} {k : Nat}, runR r l n = some s → s.er = some k → k < n ∧ (daysOf (lastN r.o (wnd l (k + 1) (n - 1))) "told").length ≤ r.a
  | 0, s, k, h, e => by cases h; cases e
  | n + 1, s, k, h, e => by
    obtain ⟨s0, p, h1, h2, h3⟩ := run_back h
    rw [Nat.add_sub_cancel]
    unfold stepR at h3
    split at h3
    · split at h3
      · cases h3
      · cases h3; cases e
    · split at h3
      · rename_i he
        split at h3
        · cases h3
          cases e
          refine ⟨Nat.lt_succ_self n, ?_⟩
          have : wnd l (n + 1) n = [] := by
            unfold wnd
            exact List.drop_eq_nil_of_le (by rw [List.length_take]; omega)
          rw [this]
          unfold lastN
          simp [daysOf]
        · cases h3
          rw [he] at e; cases e
      · rename_i k0 he
        split at h3
        · cases h3; cases e
        · rename_i hm
          cases h3
          rw [he] at e
          cases e
          have a := run_aw h1 he
          refine ⟨by omega, ?_⟩
          unfold endM at hm
          split at hm
          · cases hm
          · split at hm
            · cases hm
            · rename_i z; exact Nat.le_of_not_lt z
structure Shw (r : Rl) (l : List Pr) (x : HRow) (w : Str) (lo hi : Nat) : Prop where
  mem : ∀ d ∈ x.shown, (d, w) ∈ l
  up : x.shown.Pairwise (· < ·)
  lo : lo ≤ x.shown.length
  hi : x.shown.length ≤ hi
  last : x.shown.getLast? = some x.day
def kwOf (w : Str) : Str := if w = "earned" then "came" else if w = "missed" then "missed" else "told"
theorem kw_ear : kwOf "earned" = "came" := by decide +kernel
theorem kw_mis : kwOf "missed" = "missed" := by decide +kernel
theorem kw_awy : kwOf "away" = "told" := by decide +kernel
def loOf (r : Rl) (w : Str) : Nat := if w = "earned" then r.e else if w = "missed" then r.m else r.a + 1
def hiOf (r : Rl) (w : Str) : Nat := if w = "earned" then r.o else if w = "missed" then r.m else r.o
theorem lo_ear (r : Rl) : loOf r "earned" = r.e := if_pos rfl
theorem lo_mis (r : Rl) : loOf r "missed" = r.m := by unfold loOf; rw [if_neg (by decide +kernel), if_pos rfl]
theorem lo_awy (r : Rl) : loOf r "away" = r.a + 1 := by unfold loOf; rw [if_neg (by decide +kernel), if_neg (by decide +kernel)]
theorem hi_ear (r : Rl) : hiOf r "earned" = r.o := if_pos rfl
theorem hi_mis (r : Rl) : hiOf r "missed" = r.m := by unfold hiOf; rw [if_neg (by decide +kernel), if_pos rfl]
theorem hi_awy (r : Rl) : hiOf r "away" = r.o := by unfold hiOf; rw [if_neg (by decide +kernel), if_neg (by decide +kernel)]
inductive Kind (r : Rl) (l : List Pr) (x : HRow) : Prop
  | held : (x.word = "earned" ∨ x.word = "missed" ∨ x.word = "away") → Shw r l x (kwOf x.word) (loOf r x.word) (hiOf r x.word) → Kind r l x
  | own : (x.word = "given" ∨ x.word = "struck") → x.shown = [] → (x.day, x.word) ∈ l → Kind r l x
theorem shw_of {r : Rl} {l : List Pr} (g : GLn l) {x : HRow} {w : Str} {lo hi b n k : Nat} {p : Pr} (hp : l[n]? = some p) (hb : b ≤ n) (hk : 1 ≤ k) (hw : w ≠ "given") (e : x.shown = daysOf (lastN k (wnd l b n)) w) (hd : x.day = p.1) (pw : p.2 = w) (h1 : lo ≤ x.shown.length) (h2 : x.shown.length ≤ hi) : Shw r l x w lo hi where
  mem := fun d h => by
    rw [e] at h
    exact wnd_sub.subset (daysOf_mem.mp h)
  up := by
    rw [e]
    exact (days_up g hw).sublist (daysOf_sub wnd_sub w)
  lo := h1
  hi := h2
  last := by rw [e, wnd_end hp hb hk, hd]; exact days_last pw
theorem run_kind {r : Rl} (gr : GRl r) {l : List Pr} (g : GLn l) {n : Nat} {s : RS} {x : HRow} (h : runR r l n = some s) (hx : x ∈ s.fd) : Kind r l x := by
  obtain ⟨k, hk⟩ := List.mem_iff_getElem?.mp hx
  obtain ⟨m, s0, s1, p, h1, h2, h3, h4, h5, h6, h7⟩ := run_row h hk
  have iv := runR_inv h2
  have o1 : 1 ≤ r.o := by have := gr.e1; have := gr.o1; omega
  by_cases hw : x.word = "earned"
  · -- earned
    have one : ∀ {a b : HRow}, s0.fd ++ [a] = s0.fd ++ [b] → a = b := fun z => by simpa using z
    have no : ∀ {a : HRow}, s0.fd = s0.fd ++ [a] → False := fun z => by
      have := congrArg List.length z
      simp at this
    unfold stepR at h4
    split at h4
    · rename_i hg
      split at h4
      · cases h4
      · cases h4
        dsimp only at h6
        split at h6
        · have ex := one h6
          rw [← ex] at hw
          have hw : p.2 = "earned" := hw
          rcases hg with z | z <;> rw [z] at hw <;> exact absurd hw (by decide +kernel)
        · rw [List.append_nil] at h6
          exact (no h6).elim
    · split at h4
      · split at h4
        · rename_i hc
          cases h4
          have ex := one h6
          refine .held (.inl hw) ?_
          rw [hw, kw_ear, lo_ear, hi_ear]
          refine shw_of g h3 iv.bg o1 (by decide +kernel) (k := r.o) (b := s0.bg) (by rw [← ex]) h7 hc.1 (by rw [← ex]; exact hc.2) ?_
          rw [← ex]
          exact Nat.le_trans (daysOf_le _ _) (lastN_le _ _)
        · cases h4
          exact (no h6).elim
      · split at h4
        · rename_i w ds hm
          cases h4
          have ex := one h6
          rw [← ex] at hw
          have hw : w = "earned" := hw
          rcases endM_word hm with z | z <;> rw [z] at hw <;> exact absurd hw (by decide +kernel)
        · cases h4
          exact (no h6).elim
  · obtain ⟨e1, e2, e3⟩ := step_end h4 h6 hw
    rcases e3 with ⟨hg, ex⟩ | ⟨hg, b, ds, he, hm, ex⟩
    · refine .own (by rw [ex]; exact hg) (by rw [ex]) ?_
      rw [ex]
      exact List.mem_of_getElem? h3
    · have eb := iv.er b he
      unfold endM at hm
      split at hm
      · rename_i hc
        have hm := Option.some.inj hm
        have w1 : ("missed" : Str) = x.word := congrArg Prod.fst hm
        have d1 : daysOf (lastN r.m (wnd l s0.bg m)) "missed" = ds := congrArg Prod.snd hm
        have es : x.shown = daysOf (lastN r.m (wnd l s0.bg m)) "missed" := by rw [ex, d1]
        have pw : p.2 = "missed" := by
          have hf : (daysOf (lastN r.m (wnd l s0.bg m)) "missed").length = (lastN r.m (wnd l s0.bg m)).length := Nat.le_antisymm (daysOf_le _ _) (by rw [hc]; exact lastN_le _ _)
          unfold daysOf at hf
          rw [List.length_map] at hf
          have := List.length_filter_eq_length_iff.mp hf p (by rw [wnd_end h3 iv.bg gr.m1]; simp)
          exact of_decide_eq_true this
        refine .held (.inr (.inl w1.symm)) ?_
        rw [← w1, kw_mis, lo_mis, hi_mis]
        exact shw_of g h3 iv.bg gr.m1 (by decide +kernel) es h7 pw (by rw [es, hc]; exact Nat.le_refl _) (by rw [es, hc]; exact Nat.le_refl _)
      · split at hm
        · rename_i hc
          have hm := Option.some.inj hm
          have w1 : ("away" : Str) = x.word := congrArg Prod.fst hm
          have d1 : daysOf (lastN r.o (wnd l (b + 1) m)) "told" = ds := congrArg Prod.snd hm
          have es : x.shown = daysOf (lastN r.o (wnd l (b + 1) m)) "told" := by rw [ex, d1]
          have aw := run_aw h2 he
          have pw : p.2 = "told" := by
            by_cases z : p.2 = "told"
            · exact z
            · rw [wnd_end h3 (by omega) o1, days_not z] at hc
              have hl := (List.getElem?_eq_some_iff.mp h3).1
              have a2 := aw.2
              rw [lastN_wnd r.o (by omega), show m - 1 + 1 = m by omega] at a2
              have sb : ((l.take m).drop (max (b + 1) (m + 1 - r.o))).Sublist ((l.take m).drop (max (b + 1) (m - r.o))) := by
                have : (l.take m).drop (max (b + 1) (m + 1 - r.o)) = ((l.take m).drop (max (b + 1) (m - r.o))).drop (max (b + 1) (m + 1 - r.o) - max (b + 1) (m - r.o)) := by
                  rw [List.drop_drop]
                  congr 1
                  omega
                rw [this]
                exact List.drop_sublist _ _
              have := (daysOf_sub sb "told").length_le
              omega
          refine .held (.inr (.inr w1.symm)) ?_
          rw [← w1, kw_awy, lo_awy, hi_awy]
          exact shw_of g h3 (by omega) o1 (by decide +kernel) es h7 pw (by rw [es]; exact hc) (by rw [es]; exact Nat.le_trans (daysOf_le _ _) (lastN_le _ _))
        · cases hm
theorem run_alt {r : Rl} {l : List Pr} : ∀ {n : Nat} {s : RS}, runR r l n = some s → (s.er.isSome = true ↔ s.fd.length % 2 = 1) ∧ ∀ k x, s.fd[k]? = some x → (x.word = ("earned" : Str) ↔ k % 2 = 0)
  | 0, s, h => by
    cases h
    exact ⟨⟨nofun, nofun⟩, nofun⟩
  | n + 1, s, h => by
    obtain ⟨s0, p, h1, h2, h3⟩ := run_back h
    obtain ⟨i1, i2⟩ := run_alt h1
    have add : ∀ (y : HRow), (y.word = ("earned" : Str) ↔ s0.fd.length % 2 = 0) → ∀ k x, (s0.fd ++ [y])[k]? = some x → (x.word = ("earned" : Str) ↔ k % 2 = 0) := fun y hy k x hx => by
      by_cases hk : k < s0.fd.length
      · rw [List.getElem?_append_left hk] at hx
        exact i2 k x hx
      · have hl := (List.getElem?_eq_some_iff.mp hx).1
        rw [List.length_append, List.length_singleton] at hl
        have ek : k = s0.fd.length := by omega
        rw [List.getElem?_append_right (by omega), ek, Nat.sub_self] at hx
        cases hx
        rw [ek]
        exact hy
    unfold stepR at h3
    split at h3
    · rename_i hg
      split at h3
      · cases h3
      · cases h3
        dsimp only
        split
        · rename_i hs
          have := i1.mp hs
          refine ⟨⟨nofun, fun z => by rw [List.length_append, List.length_singleton] at z; omega⟩, add _ ⟨fun z => ?_, fun z => by omega⟩⟩
          have z : p.2 = "earned" := z
          rcases hg with y | y <;> rw [y] at z <;> exact absurd z (by decide +kernel)
        · rename_i hs
          rw [List.append_nil]
          exact ⟨⟨nofun, fun z => absurd (i1.mpr z) hs⟩, i2⟩
    · split at h3
      · rename_i he
        have n0 : ¬ s0.fd.length % 2 = 1 := fun z => by
          have := i1.mpr z
          rw [he] at this
          cases this
        split at h3
        · cases h3
          dsimp only
          refine ⟨⟨fun _ => by rw [List.length_append, List.length_singleton]; omega, fun _ => rfl⟩, add _ ⟨fun _ => by omega, fun _ => rfl⟩⟩
        · cases h3
          exact ⟨i1, i2⟩
      · rename_i k he
        have n1 : s0.fd.length % 2 = 1 := i1.mp (by rw [he]; rfl)
        split at h3
        · rename_i w ds hm
          cases h3
          dsimp only
          refine ⟨⟨nofun, fun z => by rw [List.length_append, List.length_singleton] at z; omega⟩, add _ ⟨fun z => ?_, fun z => by omega⟩⟩
          have z : w = "earned" := z
          rcases endM_word hm with y | y <;> rw [y] at z <;> exact absurd z (by decide +kernel)
        · cases h3
          exact ⟨i1, i2⟩
theorem spot_one {r : Rl} {l : List Pr} (g : GLn l) {m : Nat} {p : Pr} {s0 s1 : RS} {x : HRow} (h2 : runR r l m = some s0) (h3 : l[m]? = some p) (h4 : stepR r l m p s0 = some s1) (h6 : s1.fd = s0.fd ++ [x]) (hw : x.word ≠ "earned") {k : Nat} {q : Pr} (hk : k < m) (hq : l[k]? = some q) (hd : q.1 = p.1) : ¬ ((x.word = "missed" ∨ x.word = "away") ∨ q.2 = x.word) := by
  obtain ⟨e1, e2, e3⟩ := step_end h4 h6 hw
  rcases gln_up g hk hq h3 with z | ⟨z1, z2, z3, z4⟩
  · omega
  · rcases e3 with ⟨hg, ex⟩ | ⟨hg, b, ds, he, hm, ex⟩
    · have xw : x.word = p.2 := by rw [ex]
      have ps : p.2 = "struck" := hg.resolve_left z4
      rw [xw, ps, z3]
      rintro ((y | y) | y) <;> exact absurd y (by decide +kernel)
    · subst z2
      obtain ⟨s2, q2, a1, a2, a3⟩ := run_back h2
      rw [hq] at a2
      cases a2
      unfold stepR at a3
      rw [if_pos (.inl z3)] at a3
      split at a3
      · cases a3
      · cases a3
        cases he
theorem dict_of {β : Type} {f : β → D} {kf : β → Key} {vf : β → D} {l : List β} (h : ∀ b, f b = .tuple [kD (kf b), vf b]) (nd : (l.map kf).Nodup) : dictD (.list (l.map f)) = some (l.map fun b => (kf b, vf b)) := by
  unfold dictD
  dsimp only
  rw [pairsD_map h l, Option.map_some, mapD_id (by rw [List.map_map]; exact nd) (by intro p _ q hq; cases hq)]
  rfl
def heldP (p : Pr) : Bool := !decide (p.2 ∈ (["given", "struck"] : List Str))
theorem held_iff {p : Pr} : heldP p = true ↔ p.2 ≠ "given" ∧ p.2 ≠ "struck" := by
  unfold heldP
  rw [Bool.not_eq_true', decide_eq_false_iff_not]
  simp only [List.mem_cons, List.mem_nil_iff, or_false, not_or]
def wKv (l : List Pr) : List (Key × D) := (l.filter heldP).map fun p => (.inl p.1, .str p.2)
theorem held_nd {l : List Pr} (g : GLn l) : ((l.filter heldP).map fun p => (Sum.inl p.1 : Key)).Nodup := by
  have h0 : l.Pairwise fun p q => p.1 < q.1 ∨ p.2 = ("given" : Str) := List.pairwise_iff_getElem.mpr fun i j hi hj hij => by
    rcases gln_up g hij (List.getElem?_eq_getElem hi) (List.getElem?_eq_getElem hj) with z | ⟨_, _, z, _⟩
    · exact .inl z
    · exact .inr z
  refine List.pairwise_map.mpr ((List.Pairwise.and_mem.mp (h0.sublist (List.filter_sublist (p := heldP)))).imp fun {p q} h e => ?_)
  have e : p.1 = q.1 := Sum.inl.inj e
  rcases h.2.2 with z | z
  · omega
  · exact (held_iff.mp (List.mem_filter.mp h.1).2).1 z
theorem wKv_dict {l : List Pr} (g : GLn l) : dictD (.list ((l.filter heldP).map fun p => .tuple [.int p.1, .str p.2])) = some (wKv l) := dict_of (kf := fun p : Pr => (.inl p.1 : Key)) (vf := fun p => .str p.2) (fun _ => rfl) (held_nd g)
theorem wKv_look {l : List Pr} (g : GLn l) {d : Int} {w : Str} (h : (d, w) ∈ l) (hw : w ≠ "given" ∧ w ≠ "struck") : lookD (wKv l) (.inl d) = some (.str w) := look_of (by
  unfold wKv
  rw [List.map_map]
  exact held_nd g) (List.mem_map.mpr ⟨(d, w), List.mem_filter.mpr ⟨h, held_iff.mpr hw⟩, rfl⟩)
theorem wKv_vals (l : List Pr) : (wKv l).map (·.2) = ((l.filter heldP).map (·.2)).map .str := by
  unfold wKv
  rw [List.map_map, List.map_map]
  rfl
theorem wKv_mem {l : List Pr} {d : Int} {w : Str} (h : (d, w) ∈ l) (hw : w ≠ "given" ∧ w ≠ "struck") : w ∈ (l.filter heldP).map (·.2) := List.mem_map.mpr ⟨(d, w), List.mem_filter.mpr ⟨h, held_iff.mpr hw⟩, rfl⟩
theorem kw_held {w : Str} (h : w = "earned" ∨ w = "missed" ∨ w = "away") : kwOf w ≠ "given" ∧ kwOf w ≠ "struck" := by
  rcases h with rfl | rfl | rfl
  · rw [kw_ear]; decide +kernel
  · rw [kw_mis]; decide +kernel
  · rw [kw_awy]; decide +kernel
theorem Shw.ne {r : Rl} {l : List Pr} {x : HRow} {w : Str} {lo hi : Nat} (s : Shw r l x w lo hi) : x.shown ≠ [] := fun e => by
  have := s.last
  rw [e] at this
  cases this
theorem Shw.word {r : Rl} {l : List Pr} {x : HRow} {w : Str} {lo hi : Nat} (s : Shw r l x w lo hi) (hw : w ≠ "given" ∧ w ≠ "struck") : w ∈ (l.filter heldP).map (·.2) := by
  cases e : x.shown with
  | nil => exact absurd e s.ne
  | cons d ds => exact wKv_mem (s.mem d (by rw [e]; simp)) hw
theorem zfilt_head {α : Type} {l : List α} {P : α × Nat → Bool} {m : Nat} {p : α} (hp : l[m]? = some p) (hP : P (p, m) = true) (hno : ∀ k q, k < m → l[k]? = some q → P (q, k) = false) : ∃ rest, (l.zipIdx.filter P).map (·.2) = m :: rest := by
  have hl := (List.getElem?_eq_some_iff.mp hp).1
  have e := (List.getElem?_eq_some_iff.mp hp).2
  have es : l = l.take m ++ p :: l.drop (m + 1) := by rw [← e, ← List.drop_eq_getElem_cons hl, List.take_append_drop]
  have h0 : ((l.take m).zipIdx 0).filter P = [] := List.filter_eq_nil_iff.mpr fun z hz => by
    obtain ⟨i, hi⟩ := List.mem_iff_getElem?.mp hz
    rw [List.getElem?_zipIdx] at hi
    cases e2 : (l.take m)[i]? with
    | none => rw [e2] at hi; cases hi
    | some q =>
      rw [e2] at hi
      have hi2 := (List.getElem?_eq_some_iff.mp e2).1
      rw [List.length_take] at hi2
      rw [List.getElem?_take_of_lt (by omega)] at e2
      cases hi
      rw [show 0 + i = i by omega, hno i q (by omega) e2]
      exact Bool.false_ne_true
  have ez : l.zipIdx = (l.take m).zipIdx 0 ++ ((p, m) :: (l.drop (m + 1)).zipIdx (m + 1)) := by
    have : l.zipIdx = (l.take m ++ p :: l.drop (m + 1)).zipIdx := by rw [← es]
    rw [this, List.zipIdx_append, List.length_take, Nat.min_eq_left (by omega), List.zipIdx_cons]
    simp
  rw [ez, List.filter_append, h0, List.nil_append, List.filter_cons_of_pos hP, List.map_cons]
  exact ⟨_, rfl⟩
theorem gln_rn {l : List Pr} (g : GLn l) {f : Int → Int} (h1 : ∀ p ∈ l, 0 ≤ f p.1 ∧ f p.1 ≤ 9999) (h2 : ∀ p ∈ l, ∀ q ∈ l, p.1 < q.1 → f p.1 < f q.1) : GLn (l.map (rnP f)) := by
  refine ⟨by rw [List.length_map]; exact g.len, fun p hp => ?_, fun i p q hp hq => ?_⟩
  · obtain ⟨p0, h0, rfl⟩ := List.mem_map.mp hp
    exact ⟨(h1 p0 h0).1, (h1 p0 h0).2, (g.all p0 h0).2.2⟩
  · rw [List.getElem?_map] at hp hq
    obtain ⟨p0, e1, rfl⟩ := Option.map_eq_some_iff.mp hp
    obtain ⟨q0, e2, rfl⟩ := Option.map_eq_some_iff.mp hq
    have n := g.nx i p0 q0 e1 e2
    refine ⟨n.1, ?_⟩
    rcases n.2 with z | ⟨z1, z2, z3⟩
    · exact .inl (h2 p0 (List.mem_of_getElem? e1) q0 (List.mem_of_getElem? e2) z)
    · exact .inr ⟨congrArg f z1, z2, z3⟩
def eqH (x y : HRow) : Bool := decide (x.day = y.day) && (decide (x.word = y.word) && decide (x.shown = y.shown))
theorem eqH_iff {x y : HRow} : eqH x y = true ↔ x = y := by
  obtain ⟨a, b, c⟩ := x
  obtain ⟨a2, b2, c2⟩ := y
  unfold eqH
  simp [Bool.and_eq_true]
theorem eqH_self (x : HRow) : eqH x x = true := eqH_iff.mpr rfl
def chkN : List HRow → List HRow → Nat → Option Nat
  | [], [], _ => none
  | _ :: _, [], k => some k
  | [], _ :: _, k => some k
  | d :: due, y :: m, k => if eqH y d = true then chkN due m (k + 1) else some k
theorem chk_app {b c : List HRow} : ∀ {a : List HRow} {k : Nat}, chkN (a ++ b) (a ++ c) k = chkN b c (k + a.length)
  | [], k => rfl
  | x :: a, k => by
    show (if eqH x x = true then chkN (a ++ b) (a ++ c) (k + 1) else some k) = _
    rw [if_pos (eqH_self x), chk_app, List.length_cons, show k + 1 + a.length = k + (a.length + 1) by omega]
theorem chk_self : ∀ {a : List HRow} {k : Nat}, chkN a a k = none
  | [], _ => rfl
  | x :: a, k => by
    show (if eqH x x = true then chkN a a (k + 1) else some k) = _
    rw [if_pos (eqH_self x), chk_self]
theorem chk_more {a : List HRow} {x : HRow} : chkN a (a ++ [x]) 0 = some a.length := by
  have h := chk_app (a := a) (b := []) (c := [x]) (k := 0)
  rw [List.append_nil, Nat.zero_add] at h
  rw [h]
  rfl
theorem chk_less {a : List HRow} {k : Nat} (h : k < a.length) : chkN a (a.take k) 0 = some k := by
  have e : a = a.take k ++ a.drop k := (List.take_append_drop k a).symm
  have h2 := chk_app (a := a.take k) (b := a.drop k) (c := []) (k := 0)
  rw [List.append_nil, ← e, List.length_take, Nat.min_eq_left (Nat.le_of_lt h), Nat.zero_add] at h2
  rw [h2, List.drop_eq_getElem_cons h]
  rfl
theorem chk_other {a : List HRow} {k : Nat} {x y : HRow} {rest : List HRow} (h : a[k]? = some x) (ne : y ≠ x) : chkN a (a.take k ++ y :: rest) 0 = some k := by
  have hl := (List.getElem?_eq_some_iff.mp h).1
  have hx := (List.getElem?_eq_some_iff.mp h).2
  have e : a = a.take k ++ x :: a.drop (k + 1) := by rw [← hx, ← List.drop_eq_getElem_cons hl, List.take_append_drop]
  have h2 := chk_app (a := a.take k) (b := x :: a.drop (k + 1)) (c := y :: rest) (k := 0)
  rw [← e, List.length_take, Nat.min_eq_left (Nat.le_of_lt hl), Nat.zero_add] at h2
  rw [h2]
  show (if eqH y x = true then _ else some k) = _
  rw [if_neg fun z => ne (eqH_iff.mp z)]
theorem chk_step {due m : List HRow} {n : Nat} {y : HRow} (hy : m[n]? = some y) (h : chkN due m 0 = chkN (due.drop n) (m.drop n) n) : (due.length ≤ n → chkN due m 0 = some n) ∧ ∀ d, due[n]? = some d → (eqH y d = false → chkN due m 0 = some n) ∧ (eqH y d = true → chkN due m 0 = chkN (due.drop (n + 1)) (m.drop (n + 1)) (n + 1)) := by
  have hl := (List.getElem?_eq_some_iff.mp hy).1
  have hm : m.drop n = y :: m.drop (n + 1) := by rw [List.drop_eq_getElem_cons hl, (List.getElem?_eq_some_iff.mp hy).2]
  rw [hm] at h
  refine ⟨fun z => ?_, fun d hd => ?_⟩
  · rw [h, List.drop_eq_nil_of_le z]
    rfl
  · have hd1 := (List.getElem?_eq_some_iff.mp hd).1
    have hd2 : due.drop n = d :: due.drop (n + 1) := by rw [List.drop_eq_getElem_cons hd1, (List.getElem?_eq_some_iff.mp hd).2]
    rw [hd2] at h
    have h : chkN due m 0 = if eqH y d = true then chkN (due.drop (n + 1)) (m.drop (n + 1)) (n + 1) else some n := h
    refine ⟨fun z => ?_, fun z => ?_⟩
    · rw [h, if_neg (by rw [z]; decide)]
    · rw [h, if_pos z]
theorem chk_end {due m : List HRow} (h : chkN due m 0 = chkN (due.drop m.length) (m.drop m.length) m.length) : chkN due m 0 = if m.length < due.length then some m.length else none := by
  rw [h, List.drop_eq_nil_of_le (Nat.le_refl _)]
  split
  · rename_i z
    rw [List.drop_eq_getElem_cons z]
    rfl
  · rename_i z
    rw [List.drop_eq_nil_of_le (by omega)]
    rfl
theorem sw_tryF {kn : List Str} {i j : Nat} {f : Str} {b : SFX Exc} {r : SF Exc} {ds : DS Exc} {Rt : MO Exc → Prop} (k : SXW b ds (fun d => SW r d (fun _ => False) (fun m _ => Rt m) (fun _ => False) (fun _ => False)) (fun m _ => Rt m)
    fun e d => ∃ x, e.fl = some (f, x) ∧ AW (e.nm ∈ kn ∧ i < d.length) (SW r (((d.set i (some (.st e))).set j (some (.d x))).set i none) (fun _ => False) (fun m _ => AW (dataM m = true) (Rt m)) (fun _ => False) (fun _ => False))) :
    SW (gTryF kn i j f b r) ds (fun _ => False) (fun m _ => Rt m) (fun _ => False) (fun _ => False) := by
  obtain ⟨o, e, q⟩ := k
  unfold SW gTryF
  rw [e, Option.bind_some]
  cases o with
  | out o =>
    cases o with
    | nx d => exact q
    | rt m d => exact ⟨_, rfl, q⟩
    | bk d => exact False.elim q
    | ct d => exact False.elim q
  | ex x d =>
    dsimp only
    obtain ⟨y, ey, hk, o2, e2, q2⟩ := q
    rw [ey]
    dsimp only
    rw [if_pos ⟨hk.1, rfl, hk.2⟩, e2, Option.bind_some]
    cases o2 with
    | nx d => exact False.elim q2
    | bk d => exact False.elim q2
    | ct d => exact False.elim q2
    | rt m d =>
      dsimp only
      rw [if_pos q2.1]
      exact ⟨_, rfl, q2.2⟩
theorem whole_eq (i j : Int) : F_is_whole [.int i, .int j, .int j] = some (.d (.bool (decide (i = j)))) := by
  refine ow_get ?_
  unfold F_is_whole g_is_whole
  refine ow_runP [some (.d (.int i)), some (.d (.int j)), some (.d (.int j))] rfl ?_
  walk_at "wY1"
  refine ow_eq k_ii ?_
  walk_at "wY1"
  refine ow_eq k_ib ?_
  walk_at "wY1"
  refine ⟨fun h => ?_, fun h => ?_⟩
  · have h := of_decide_eq_true h
    walk_at "wY1"
    rw [decide_eq_decide.mpr (show i ≤ j ↔ i = j by omega)]
  · have h := of_decide_eq_false h
    rw [decide_eq_false (show ¬ i = j by omega)]
theorem zipI : ∀ a b : List Int, zipD (a.map .int) (b.map .int) = (a.zip b).map fun p => .tuple [.int p.1, .int p.2]
  | [], _ => rfl
  | _ :: _, [] => rfl
  | x :: a, y :: b => by
    show PyData.tuple [.int x, .int y] :: zipD (a.map .int) (b.map .int) = _
    rw [zipI a b]
    rfl
theorem zip_all : ∀ {a b : List Int}, a.length = b.length → ((a.zip b).all fun p => decide (p.1 = p.2)) = decide (a = b)
  | [], [], _ => rfl
  | [], _ :: _, h => by cases h
  | _ :: _, [], h => by cases h
  | x :: a, y :: b, h => by
    rw [List.zip_cons_cons, List.all_cons, zip_all (by simpa using h)]
    by_cases h1 : x = y
    · subst h1; by_cases h2 : a = b
      · subst h2; simp
      · simp [h2]
    · simp [h1]
def encHn (q : HRow × Nat) : D := .tuple [.int (q.2 : Nat), eH q.1]
theorem enumD_H : ∀ (l : List HRow) (k : Nat), enumD k (l.map eH) = (l.zipIdx k).map encHn
  | [], _ => rfl
  | x :: r, k => by
    show _ :: enumD (k + 1) (r.map eH) = _
    rw [enumD_H r (k + 1), List.zipIdx_cons, List.map_cons]
    rfl
theorem isRow_ok (x y : HRow) : F_is_row [eH x, eH y] = some (.d (.bool (eqH x y))) := by
  obtain ⟨d, w, sh⟩ := x
  obtain ⟨d2, w2, sh2⟩ := y
  refine ow_get ?_
  unfold F_is_row g_is_row
  refine ow_runP [some (.d (eH ⟨d, w, sh⟩)), some (.d (eH ⟨d2, w2, sh2⟩)), none, none, none, none, none] rfl ?_
  walk_at "wY1"
  refine sw_if ?_
  walk_at "wY1"
  refine ow_eq (whole_eq d d2) ?_
  by_cases h1 : d = d2
  · rw [decide_eq_true h1]
    walk_at "wY1"
    refine ow_eq k_ss ?_
    walk_at "wY1"
    by_cases h2 : w = w2
    · refine iw_f (show (!decide (w = w2)) = false by rw [decide_eq_true h2]; rfl) ?_
      walk_at "wY1"
      refine sw_if ?_
      walk_at "wY1"
      refine ow_eq k_tt ?_
      walk_at "wY1"
      by_cases h3 : sh.length = sh2.length
      · refine iw_f (show (!decide ((sh.length : Int) = (sh2.length : Int))) = false by rw [decide_eq_true (by omega)]; rfl) ?_
        walk_at "wY1"
        refine ow_lcAll (sh.zip sh2) (fun p => .tuple [.int p.1, .int p.2]) (fun p => .bool (decide (p.1 = p.2))) ?_
        walk_at "wY1"
        refine ⟨zipI sh sh2, fun p hp => ?_, ?_⟩
        · walk_at "wY1"
          refine ow_eq (whole_eq p.1 p.2) ?_
          walk_at "wY1"
          rfl
        rw [show (sh.zip sh2).map (fun p => PyData.bool (decide (p.1 = p.2))) = ((sh.zip sh2).map fun p => decide (p.1 = p.2)).map .bool by rw [List.map_map]; rfl]
        refine ow_nil ?_
        refine ow_eq (all_map _) ?_
        walk_at "wY1"
        unfold eqH
        rw [decide_eq_true h1, decide_eq_true h2, List.all_map]
        rw [← zip_all h3]
        rfl
      · refine iw_t (show (!decide ((sh.length : Int) = (sh2.length : Int))) = true by rw [decide_eq_false (by omega)]; rfl) ?_
        walk_at "wY1"
        unfold eqH
        rw [decide_eq_false (show ¬ sh = sh2 from fun z => h3 (by rw [z]))]
        simp
    · refine iw_t (show (!decide (w = w2)) = true by rw [decide_eq_false h2]; rfl) ?_
      walk_at "wY1"
      unfold eqH
      rw [decide_eq_false h2]
      simp
  · rw [decide_eq_false h1]
    walk_at "wY1"
    unfold eqH
    rw [decide_eq_false h1]
    rfl
def rvX : Option Nat → Except Exc (MO St2)
  | none => .ok (.d .none)
  | some k => .error ⟨"BadHistory", some ("row", .int (k : Nat))⟩
theorem check_ok {r : Rl} (g : GRl r) {l : List Pr} (gl : GLn l) {t : RS} (ht : runR r l l.length = some t) {m : List HRow} (hm : m.length ≤ 1000) : FX_check_rows [encRl r, .tuple (l.map eP), .list (m.map eH)] = some (rvX (chkN t.fd m 0)) := by
  have e := rowsBy_ok g gl
  rw [ht] at e
  refine ow_get ?_
  unfold FX_check_rows g_check_rows
  refine ow_runPX [some (.d (encRl r)), some (.d (.tuple (l.map eP))), some (.d (.list (m.map eH))), none, none, none] rfl ?_
  walk_at "wY1"
  refine ow_eq e ?_
  refine excw_ok ?_
  refine ow_moL ?_
  walk_at "wY1"
  refine ow_eq (x := true) (by show kitB "list" "list" = _; decide +kernel) ?_
  walk_at "wY1"
  refine ow_lcAll m eH (fun _ => .bool true) ?_
  walk_at "wY1"
  refine ⟨rfl, fun x hx => ?_, ?_⟩
  · walk_at "wY1"
    refine ow_eq k_tt ?_
    walk_at "wY1"
    refine ow_eq (show _ = some (PyData.int ((3 : Nat) : Int)) from rfl) ?_
    walk_at "wY1"
    rfl
  rw [show m.map (fun _ => PyData.bool true) = (m.map fun _ => true).map .bool by rw [List.map_map]; rfl]
  refine ow_nil ?_
  refine ow_eq (all_true (l := m.map fun _ => true) fun b hb => by obtain ⟨_, _, rfl⟩ := List.mem_map.mp hb; rfl) ?_
  walk_at "wY1"
  refine sxw_for (enc := encHn) m.zipIdx (fun n ds => ∃ o4 o5, chkN t.fd m 0 = chkN (t.fd.drop n) (m.drop n) n ∧ ds = [some (.d (encRl r)), some (.d (.tuple (l.map eP))), some (.d (.list (m.map eH))), some (.d (.list (t.fd.map eH))), o4, o5]) ?_ ?_ ?_
  · walk_at "wY1"
    refine ow_eq (show _ = some (m.zipIdx.map encHn) from by rw [← enumD_H]; rfl) ?_
    exact ⟨rfl, _, _, rfl, rfl⟩
  · rintro n q hq ds ⟨o4, o5, hc, rfl⟩
    rw [List.getElem?_zipIdx] at hq
    obtain ⟨y, hy, rfl⟩ := Option.map_eq_some_iff.mp hq
    rw [Nat.zero_add]
    obtain ⟨c1, c2⟩ := chk_step hy hc
    walk_at "wY1"
    by_cases hn : t.fd.length ≤ n
    · refine iw_t (decide_eq_true (by show (t.fd.length : Int) ≤ (n : Nat); omega)) ?_
      walk_at "wY1"
      rw [c1 hn]
      rfl
    · refine iw_f (decide_eq_false (by show ¬ (t.fd.length : Int) ≤ (n : Nat); omega)) ?_
      have hd : t.fd[n]? = some t.fd[n] := List.getElem?_eq_getElem (by omega)
      walk_at "wY1"
      refine ow_eq (x := eH t.fd[n]) (ixL_nat (by rw [List.getElem?_map, hd]; rfl)) ?_
      walk_at "wY1"
      refine ow_eq (isRow_ok y t.fd[n]) ?_
      walk_at "wY1"
      obtain ⟨d1, d2⟩ := c2 _ hd
      cases hb : eqH y t.fd[n] with
      | true =>
        walk_at "wY1"
        exact ⟨_, _, d2 hb, rfl⟩
      | false =>
        walk_at "wY1"
        rw [d1 hb]
        rfl
  · rintro ds ⟨o4, o5, hc, rfl⟩
    rw [List.length_zipIdx] at hc
    walk_at "wY1"
    rw [chk_end hc]
    refine ⟨fun h => ?_, fun h => ?_⟩
    · have h := of_decide_eq_true h
      rw [if_pos (show m.length < t.fd.length by omega)]
      walk_at "wY1"
      rfl
    · have h := of_decide_eq_false h
      rw [if_neg (show ¬ m.length < t.fd.length by omega)]
      walk_at "wY1"
      rfl
def rfI : Option Nat → Int
  | none => -1
  | some k => (k : Nat)
theorem refused_ok {r : Rl} (g : GRl r) {l : List Pr} (gl : GLn l) {t : RS} (ht : runR r l l.length = some t) {m : List HRow} (hm : m.length ≤ 1000) : F_law_refused [encRl r, .tuple (l.map eP), .list (m.map eH)] = some (.d (.int (rfI (chkN t.fd m 0)))) := by
  have e := check_ok g gl ht hm
  refine ow_get ?_
  unfold F_law_refused g_law_refused
  refine ow_runE [some (.d (encRl r)), some (.d (.tuple (l.map eP))), some (.d (.list (m.map eH))), none, none] rfl ?_
  walk_at "wY1"
  refine sw_imp (sw_tryF (Rt := fun y => OW (toM2 y) fun y => y = MO.d (PyData.int (rfI (chkN t.fd m 0)))) ?_) (fun _ h => False.elim h) (fun _ _ h => h) (fun _ h => h) (fun _ h => h)
  refine sxw_drop ?_
  walk_at "wY1"
  cases hc : chkN t.fd m 0 with
  | none =>
    rw [hc] at e
    have h0 : (FX_check_rows [encRl r, .tuple (l.map eP), .list (m.map eH)]).bind toXE = some (.ok (.d .none)) := by rw [e]; rfl
    refine ow_eq h0 ?_
    refine excw_ok ?_
    walk_at "wY1"
    exact ow_some rfl
  | some k =>
    rw [hc] at e
    have h0 : (FX_check_rows [encRl r, .tuple (l.map eP), .list (m.map eH)]).bind toXE = some (.error ⟨"BadHistory", some ("row", .int (k : Nat))⟩) := by rw [e]; rfl
    refine ow_eq h0 ?_
    refine excw_er ⟨_, rfl, ⟨by show ("BadHistory" : Str) ∈ (["BadHistory"] : List Str); decide +kernel, by show 4 < 5; decide⟩, ?_⟩
    walk_at "wY1"
    exact ow_some rfl
structure LN (l : List Pr) : Prop where
  all : ∀ p ∈ l, GPr p
  nx : ∀ i p q, l[i]? = some p → l[i + 1]? = some q → GFo p q
theorem nc_day {i : Int} (h0 : 0 ≤ i) (h1 : i ≤ 9999) : Nc 0 14 (.int i) := by
  have b := nc_int (i := i) (by omega)
  refine ⟨b.lay, b.dep, ?_, b.sh, b.ok⟩
  show (if i == 0 then 0 else i.natAbs.log2 + 1) ≤ 14
  by_cases z : i = 0
  · subst z; decide
  · rw [if_neg (by simpa using z)]
    have : i.natAbs.log2 < 14 := (Nat.log2_lt (by omega)).mpr (by omega)
    omega
structure GH (h : HRow) : Prop where
  d0 : 0 ≤ h.day
  d1 : h.day ≤ 9999
  w : GoodS h.word
  len : h.shown.length ≤ 30
  sh : ∀ d ∈ h.shown, 0 ≤ d ∧ d ≤ 9999
theorem lastN_len {α : Type} {n : Nat} {l : List α} : (lastN n l).length ≤ n := by
  unfold lastN
  rw [List.length_drop]
  omega
theorem daysOf_len {n : Nat} {ps : List Pr} {w : Str} : (daysOf (lastN n ps) w).length ≤ n := by
  unfold daysOf
  rw [List.length_map]
  exact Nat.le_trans (List.length_filter_le _ _) lastN_len
theorem daysOf_memL {line : List Pr} (g : LN line) {b n k : Nat} {w : Str} : ∀ d ∈ daysOf (lastN k (wnd line b n)) w, 0 ≤ d ∧ d ≤ 9999 := by
  intro d hd
  obtain ⟨p, hp, rfl⟩ := List.mem_map.mp hd
  have hp := List.mem_of_mem_take (List.mem_of_mem_drop (List.mem_of_mem_drop (List.mem_filter.mp hp).1))
  exact ⟨(g.all p hp).1, (g.all p hp).2.1⟩
theorem good_w {w : Str} (h : w ∈ (["came", "told", "missed", "given", "struck", "earned", "away"] : List Str)) : GoodS w := by
  simp only [List.mem_cons, List.mem_nil_iff, or_false] at h
  rcases h with rfl | rfl | rfl | rfl | rfl | rfl | rfl <;> exact ⟨by decide +kernel, by decide +kernel⟩
theorem runR_rows {r : Rl} (gr : GRl r) {line : List Pr} (g : LN line) : ∀ {n : Nat} {s : RS}, runR r line n = some s → ∀ h ∈ s.fd, GH h
  | 0, s, h => by
    cases h
    nofun
  | n + 1, s, h => by
    cases e : runR r line n with
    | none => rw [runR_noneLe e (Nat.le_succ n)] at h; cases h
    | some s0 =>
      have i := runR_rows gr g e
      cases ep : line[n]? with
      | none =>
        have : runR r line (n + 1) = none := by
          show (runR r line n).bind _ = _
          rw [e, Option.bind_some, ep]
          rfl
        rw [this] at h
        cases h
      | some p =>
        have gp := g.all p (List.mem_of_getElem? ep)
        rw [runR_succ e ep] at h
        have app : ∀ {x : HRow}, GH x → ∀ h ∈ s0.fd ++ [x], GH h := fun gx h hm => by
          rcases List.mem_append.mp hm with z | z
          · exact i h z
          · rw [List.mem_singleton.mp z]; exact gx
        unfold stepR at h
        split at h
        · rename_i hw
          split at h
          · cases h
          · cases h
            dsimp only
            split
            · refine app ⟨gp.1, gp.2.1, good_w ?_, by simp, nofun⟩
              rcases hw with z | z <;> show p.2 ∈ _ <;> rw [z] <;> decide +kernel
            · rw [List.append_nil]; exact i
        · split at h
          · split at h
            · cases h
              exact app ⟨gp.1, gp.2.1, good_w (by dsimp only; decide +kernel), Nat.le_trans daysOf_len gr.o2, daysOf_memL g⟩
            · cases h
              exact i
          · rename_i k hk
            split at h
            · rename_i w ds hm
              cases h
              unfold endM at hm
              split at hm
              · cases hm
                exact app ⟨gp.1, gp.2.1, good_w (by dsimp only; decide +kernel), Nat.le_trans daysOf_len (Nat.le_trans gr.m2 (by decide)), daysOf_memL g⟩
              · split at hm
                · cases hm
                  exact app ⟨gp.1, gp.2.1, good_w (by dsimp only; decide +kernel), Nat.le_trans daysOf_len gr.o2, daysOf_memL g⟩
                · cases hm
            · cases h
              exact i
theorem nc_H {h : HRow} (g : GH h) : Nc 4 1353 (eH h) := by
  refine nc_tup (k := 2) (w := 450) (n := 3) (fun z hz => ?_) (by show 3 ≤ 3; decide)
  simp only [List.mem_cons, List.mem_nil_iff, or_false] at hz
  rcases hz with rfl | rfl | rfl
  · exact (nc_day g.d0 g.d1).mono (by omega) (by omega)
  · exact (nc_str g.w).mono (by omega) (by omega)
  · refine nc_tup (k := 0) (w := 14) (n := 30) (fun y hy => ?_) (by rw [List.length_map]; exact g.len)
    obtain ⟨d, hd, rfl⟩ := List.mem_map.mp hy
    exact nc_day (g.sh d hd).1 (g.sh d hd).2
theorem nc_rows {l : List HRow} (g : ∀ h ∈ l, GH h) (hl : l.length ≤ 400) : Nc 6 541600 (.list (l.map eH)) :=
  nc_lst (k := 4) (w := 1353) (n := 400) (fun y hy => by
    obtain ⟨h, hh, rfl⟩ := List.mem_map.mp hy
    exact nc_H (g h hh)) (by rw [List.length_map]; exact hl)
theorem ix2 {a b r : Int} (h0 : 0 ≤ r) (h1 : r < 2) : ∃ y : Int, ixD (.list [.int a, .int b]) (.int r) = some (.int y) ∧ (y = a ∨ y = b) := by
  have : r = 0 ∨ r = 1 := by omega
  rcases this with rfl | rfl
  · exact ⟨a, rfl, .inl rfl⟩
  · exact ⟨b, rfl, .inr rfl⟩
theorem w_rules {B : Nat} {s : List (Key × D)} {Q : MO St2 → List (Key × D) → Prop} (w : SK (B + 8) s) (q : ∀ (r : Rl) s', GRl r → SK B s' → Q (.d (encRl r)) s') : PW2 (F_law_rules s []) Q := by
  unfold F_law_rules g_law_rules
  refine pw_runV [some (.dic s), none, none, none] rfl ?_
  walk_at "wY1"
  refine w_next w (by decide) (by decide) fun r1 s1 a1 b1 w => ?_
  walk_at "wY1"
  obtain ⟨y1, e1, h1⟩ := ix2 (a := 3) (b := 20) (r := r1 / 5) (by omega) (by omega)
  refine ow_eq e1 ?_
  walk_at "wY1"
  refine w_next w (by omega) (by omega) fun x1 t1 c1 d1 w => ?_
  walk_at "wY1"
  refine w_next w (by decide) (by decide) fun r2 s2 a2 b2 w => ?_
  walk_at "wY1"
  obtain ⟨y2, e2, h2⟩ := ix2 (a := 4) (b := 30) (r := r2 / 5) (by omega) (by omega)
  refine ow_eq e2 ?_
  walk_at "wY1"
  refine w_next w (by omega) (by omega) fun x2 t2 c2 d2 w => ?_
  walk_at "wY1"
  refine w_next w (by decide) (by decide) fun r3 s3 a3 b3 w => ?_
  walk_at "wY1"
  obtain ⟨y3, e3, h3⟩ := ix2 (a := 3) (b := 10) (r := r3 / 5) (by omega) (by omega)
  refine ow_eq e3 ?_
  walk_at "wY1"
  refine w_next w (by omega) (by omega) fun x3 t3 c3 d3 w => ?_
  walk_at "wY1"
  refine w_next w (by decide) (by decide) fun r4 s4 a4 b4 w => ?_
  walk_at "wY1"
  obtain ⟨y4, e4, h4⟩ := ix2 (a := 3) (b := 21) (r := r4 / 5) (by omega) (by omega)
  refine ow_eq e4 ?_
  walk_at "wY1"
  refine w_next w (by omega) (by omega) fun x4 t4 c4 d4 w => ?_
  walk_at "wY1"
  have k := q ⟨(1 + x1).toNat, (if 1 + x1 + x2 < 30 then 1 + x1 + x2 else 30).toNat, (1 + x3).toNat, x4.toNat⟩ t4 ⟨by dsimp only; omega, by dsimp only; omega, by dsimp only; split <;> omega, by dsimp only; split <;> omega, by dsimp only; omega, by dsimp only; omega, by dsimp only; omega⟩ w
  have f1 : (((1 + x1).toNat : Nat) : Int) = 1 + x1 := by omega
  have f2 : (((if 1 + x1 + x2 < 30 then 1 + x1 + x2 else 30).toNat : Nat) : Int) = if 1 + x1 + x2 < 30 then 1 + x1 + x2 else 30 := by split <;> omega
  have f3 : (((1 + x3).toNat : Nat) : Int) = 1 + x3 := by omega
  have f4 : ((x4.toNat : Nat) : Int) = x4 := by omega
  unfold encRl at k
  dsimp only at k
  rw [f1, f2, f3, f4] at k
  exact k
theorem eqvA_strs : ∀ xs ys : List Str, PyData.eqvAll (xs.map .str) (ys.map .str) = decide (xs = ys)
  | [], [] => rfl
  | [], y :: ys => rfl
  | x :: xs, [] => rfl
  | x :: xs, y :: ys => by
    show (PyData.eqv (.str x) (.str y) && PyData.eqvAll (xs.map .str) (ys.map .str)) = _
    rw [eqvA_strs xs ys]
    show ((x == y) && decide (xs = ys)) = _
    by_cases h : x = y
    · subst h; simp
    · simp [h]
theorem eqL_strs {xs ys : List Str} : eqD (.list (xs.map .str)) (.list (ys.map .str)) = some (.bool (decide (xs = ys))) := by
  unfold eqD
  have h1 := depth_strs xs
  rw [if_pos ⟨Nat.le_trans (Nat.min_le_left _ _) (by show PyData.depthAll (xs.map .str) + 1 ≤ 64; omega), noD_strs _, noD_strs _⟩]
  show some (PyData.bool (PyData.eqvAll (xs.map .str) (ys.map .str))) = _
  rw [eqvA_strs]
theorem last_one {xs : List Str} {w : Str} : lastN 1 xs = [w] ↔ xs.getLast? = some w := by
  unfold lastN
  rw [List.getLast?_eq_getElem?]
  by_cases h : xs = []
  · subst h; simp
  · have hl : 0 < xs.length := List.length_pos_iff.mpr h
    rw [List.drop_eq_getElem_cons (by omega), List.drop_eq_nil_of_le (by omega), List.getElem?_eq_getElem (by omega)]
    simp
theorem rows_ok {r : Rl} (g : GRl r) {l : List Pr} (gl : GLn l) {s : RS} (h : runR r l l.length = some s) : F_rows_by [encRl r, .tuple (l.map eP)] = some (.lst (s.fd.map eH)) := by
  have := rowsBy_ok g gl
  rw [h] at this
  exact okX_ok this
theorem stands_ok {r : Rl} (g : GRl r) {l : List Pr} (gl : GLn l) {s : RS} (h : runR r l l.length = some s) : F_law_stands [encRl r, .tuple (l.map eP)] = some (.d (.bool s.er.isSome)) := by
  refine ow_get ?_
  unfold F_law_stands g_law_stands
  refine ow_runP [some (.d (encRl r)), some (.d (.tuple (l.map eP))), none] rfl ?_
  walk_at "wY1"
  refine ow_lcAll s.fd eH (fun h => .str h.word) ?_
  walk_at "wY1"
  refine ow_eq (rows_ok g gl h) ?_
  walk_at "wY1"
  refine ⟨rfl, fun h hh => by walk_at "wY1"; rfl, ?_⟩
  walk_at "wY1"
  refine ow_eq (x := .list ((lastN 1 (s.fd.map (·.word))).map .str)) ?_ ?_
  · show some (PyData.list (DL.cutD _ (some (-((1 : Nat) : Int))) none)) = _
    rw [cut_neg (by decide), show (s.fd.map fun h => PyData.str h.word) = (s.fd.map (·.word)).map .str by rw [List.map_map]; rfl, map_lastN]
  walk_at "wY1"
  refine ow_eq (eqL_strs (ys := ["earned"])) ?_
  walk_at "wY1"
  have e : decide (lastN 1 (s.fd.map (·.word)) = [("earned" : Str)]) = s.er.isSome := by
    have h1 := runR_last h
    have h2 := last_one (xs := s.fd.map (·.word)) (w := "earned")
    rw [List.getLast?_map] at h2
    cases z : s.er.isSome with
    | true => exact decide_eq_true (h2.mpr (h1.mpr z))
    | false => exact decide_eq_false fun y => by rw [h1.mp (h2.mp y)] at z; cases z
  rw [e]
theorem noLine_ok {r : Rl} (g : GRl r) {l : List Pr} (gl : GLn (l ++ [(9999, ("given" : Str))])) {s : RS} (h : runR r l l.length = some s) (he : s.er = none) : F_law_is_no_line [encRl r, .tuple ((l ++ [(9999, ("given" : Str))]).map eP)] = some (.d (.bool true)) := by
  have hn : runR r (l ++ [(9999, ("given" : Str))]) (l ++ [(9999, ("given" : Str))]).length = none := by
    have e1 : runR r (l ++ [(9999, ("given" : Str))]) l.length = some s := by rw [runR_app (Nat.le_refl _)]; exact h
    have e2 : (l ++ [(9999, ("given" : Str))])[l.length]? = some (9999, ("given" : Str)) := by rw [List.getElem?_append_right (Nat.le_refl _), Nat.sub_self]; rfl
    rw [List.length_append, List.length_singleton, runR_succ e1 e2]
    unfold stepR
    rw [if_pos (.inl rfl), if_pos ⟨he, rfl⟩]
  have e := rowsBy_ok g gl
  rw [hn] at e
  refine ow_get ?_
  unfold F_law_is_no_line g_law_is_no_line
  refine ow_runP [some (.d (encRl r)), some (.d (.tuple ((l ++ [(9999, ("given" : Str))]).map eP)))] rfl ?_
  walk_at "wY1"
  refine ow_eq e ?_
  refine excw_er ⟨by show ("BadLineup" : Str) ∈ (["BadLineup"] : List Str); decide +kernel, ?_⟩
  walk_at "wY1"
  rfl
theorem LN.app {l : List Pr} (h : LN l) {p : Pr} (gp : GPr p) (hf : ∀ q, l.getLast? = some q → GFo q p) : LN (l ++ [p]) := by
  refine ⟨fun x hx => ?_, fun i x y hx hy => ?_⟩
  · rcases List.mem_append.mp hx with z | z
    · exact h.all x z
    · rw [List.mem_singleton.mp z]; exact gp
  · by_cases hi : i + 1 < l.length
    · rw [List.getElem?_append_left (by omega)] at hx
      rw [List.getElem?_append_left hi] at hy
      exact h.nx i x y hx hy
    · have hy2 := (List.getElem?_eq_some_iff.mp hy).1
      rw [List.length_append, List.length_singleton] at hy2
      have e1 : i + 1 = l.length := by omega
      rw [List.getElem?_append_right (by omega), e1, Nat.sub_self] at hy
      cases hy
      rw [List.getElem?_append_left (by omega)] at hx
      refine hf x ?_
      rw [List.getLast?_eq_getElem?, ← e1, Nat.add_sub_cancel]
      exact hx
theorem LN.take {l : List Pr} (h : LN l) (n : Nat) : LN (l.take n) := by
  refine ⟨fun p hp => h.all p (List.mem_of_mem_take hp), fun i p q hp hq => ?_⟩
  have h1 := (List.getElem?_eq_some_iff.mp hp).1
  have h2 := (List.getElem?_eq_some_iff.mp hq).1
  rw [List.length_take] at h1 h2
  rw [List.getElem?_take_of_lt (by omega)] at hp hq
  exact h.nx i p q hp hq
theorem runR_full {r : Rl} {l : List Pr} {s : RS} {p : Pr} (h : runR r l l.length = some s) (ok : p.2 = "given" → s.er ≠ none) : ∃ s', runR r (l ++ [p]) (l ++ [p]).length = some s' := by
  have e1 : runR r (l ++ [p]) l.length = some s := by rw [runR_app (Nat.le_refl _)]; exact h
  have e2 : (l ++ [p])[l.length]? = some p := by rw [List.getElem?_append_right (Nat.le_refl _), Nat.sub_self]; rfl
  rw [List.length_append, List.length_singleton, runR_succ e1 e2]
  by_cases hw : p.2 = "given" ∨ p.2 = "struck"
  · unfold stepR
    rw [if_pos hw, if_neg fun z => ok z.2 z.1]
    exact ⟨_, rfl⟩
  · obtain ⟨s', e3, _⟩ := step_went (r := r) (runR_inv e1) e2 hw
    exact ⟨s', e3⟩
def W3 : List Str := ["came", "told", "missed"]
theorem words_at {i : Int} (h0 : 0 ≤ i) (h1 : i < 5) : ∃ ws : List Str, ixD (.list [.list [.str "came"], .list [.str "came", .str "came", .str "told"], .list [.str "told"], .list [.str "missed"], .list [.str "came", .str "told", .str "missed"]]) (.int i) = some (.list (ws.map .str)) ∧ 0 < ws.length ∧ ws.length ≤ 3 ∧ ∀ w ∈ ws, w ∈ W3 := by
  have : i = 0 ∨ i = 1 ∨ i = 2 ∨ i = 3 ∨ i = 4 := by omega
  rcases this with rfl | rfl | rfl | rfl | rfl
  · exact ⟨["came"], rfl, by decide, by decide, by decide +kernel⟩
  · exact ⟨["came", "came", "told"], rfl, by decide, by decide, by decide +kernel⟩
  · exact ⟨["told"], rfl, by decide, by decide, by decide +kernel⟩
  · exact ⟨["missed"], rfl, by decide, by decide, by decide +kernel⟩
  · exact ⟨["came", "told", "missed"], rfl, by decide, by decide, by decide +kernel⟩
structure LI (r : Rl) (l : List Pr) (day : Int) (n : Nat) : Prop where
  ln : LN l
  len : l.length ≤ 2 * n
  ns : ∀ p ∈ l, p.2 ≠ "struck"
  bef : ∀ p ∈ l, p.1 < day
  day : 0 ≤ day ∧ day ≤ 2000 + 3 * n
  run : ∃ s, runR r l l.length = some s
theorem sw_cut {S : Type} {u : SF S} {ds : DS S} {N : DS S → Prop} {R : MO S → DS S → Prop} {B C : DS S → Prop} (N' : DS S → Prop) (h : SW u ds N' R B C) (k : ∀ d, N' d → N d) : SW u ds N R B C := sw_imp h k (fun _ _ h => h) (fun _ h => h) fun _ h => h
theorem noD_eP (l : List Pr) : noDAll (l.map eP) = true := noDAll_map fun _ _ => rfl
theorem iw_any {b : Bool} {P Q : Prop} (p : P) (q : Q) : IW b P Q := ⟨fun _ => p, fun _ => q⟩
structure LM (r : Rl) (l : List Pr) (day : Int) : Prop where
  ln : LN l
  ns : ∀ p ∈ l, p.2 ≠ "struck"
  bef : ∀ p ∈ l, p.1 ≤ day
  run : ∃ s, runR r l l.length = some s
theorem sl_last (l : List Pr) : slA (.tuple (l.map eP)) (some (-1)) none = some (.tuple ((lastN 1 l).map eP)) := by
  show some (PyData.tuple (DL.cutD (l.map eP) (some (-((1 : Nat) : Int))) none)) = _
  rw [cut_neg (by decide), map_lastN]
theorem ne_last {l : List Pr} {q : Pr} : ∃ b, neD (.tuple ((lastN 1 l).map eP)) (.tuple [.tuple [.int q.1, .str q.2]]) = some (.bool b) := by
  refine ⟨_, by unfold neD; rw [if_pos ⟨?_, ?_, ?_⟩]⟩
  · exact Nat.le_trans (Nat.min_le_right _ _) (by simp [PyData.depth, PyData.depthAll])
  · show noDAll ((lastN 1 l).map eP) = true
    exact noD_eP _
  · rfl
theorem rep_B {x : D} {b : Bool} : repTB (.tuple [x]) (.int (if b then 1 else 0)) = some (.tuple (if b then [x] else [])) := by
  cases b
  · rfl
  · rfl
theorem addP {l : List Pr} {d : Int} {w : Str} (h : l.length + 1 ≤ 1000000) {Q : D → Prop} (q : Q (.tuple ((l ++ [(d, w)]).map eP))) : OW (addA (.tuple (l.map eP)) (.tuple [.tuple [.int d, .str w]])) Q := by
  refine ow_addT (by have : (1000000 : Nat) ≤ sizeLine := (by decide); rw [List.length_map]; simpa using Nat.le_trans h this) ?_
  rw [List.map_append] at q
  exact q
theorem w_line {B N : Nat} {s : List (Key × D)} {r : Rl} {Q : MO St2 → List (Key × D) → Prop} (w : SK (B + 7 * N + 3) s) (hN : N ≤ 300) (g : GRl r) (q : ∀ (l : List Pr) s', GLn l → l.length ≤ 2 * N + 1 → (∃ t, runR r l l.length = some t) → (∀ p ∈ l, p.1 ≤ 5000) → SK B s' → Q (.d (.tuple (l.map eP))) s') : PW2 (F_law_line s [encRl r, .int (N : Nat)]) Q := by
  unfold F_law_line g_law_line
  refine pw_runV [some (.dic s), some (.d (encRl r)), some (.d (.int (N : Nat))), none, none, none, none, none] rfl ?_
  walk_at "wY1"
  refine w_next w (by decide) (by decide) fun r1 s1 a1 b1 w => ?_
  walk_at "wY1"
  obtain ⟨y1, e1, h1⟩ := ix2 (a := 4) (b := 2000) (r := r1 / 5) (by omega) (by omega)
  refine ow_eq e1 ?_
  walk_at "wY1"
  refine w_next w (by omega) (by omega) fun d0 s2 c1 d1 w => ?_
  walk_at "wY1"
  refine ow_rng1 (by omega) ?_
  walk_at "wY1"
  refine fw_xs (List.range N) rfl (fun n ds => ∃ l mood day s3 o6 o7, LI r l day n ∧ 0 ≤ mood ∧ mood < 5 ∧ SK (B + 7 * (N - n) + 1) s3 ∧ ds = [some (.dic s3), some (.d (encRl r)), some (.d (.int (N : Nat))), some (.d (.tuple (l.map eP))), some (.d (.int mood)), some (.d (.int day)), o6, o7]) ⟨[], 0, d0, s2, none, none, ⟨⟨nofun, nofun⟩, Nat.le_refl _, nofun, nofun, by omega, _, rfl⟩, by decide, by decide, w, rfl⟩ ?_ ?_
  · rintro n k hk ds ⟨l, mood, day, s3, o6, o7, li, m0, m1, w, rfl⟩
    obtain ⟨hn, hk2⟩ := List.getElem?_eq_some_iff.mp hk
    rw [List.getElem_range] at hk2
    rw [List.length_range] at hn
    subst hk2
    have w : SK (B + 7 * (N - (n + 1)) + 8) s3 := w.mono (by omega)
    have hd := li.day
    have hlen := li.len
    walk_at "wY1"
    refine sw_cut (fun ds => ∃ mood s5, 0 ≤ mood ∧ mood < 5 ∧ SK (B + 7 * (N - (n + 1)) + 6) s5 ∧ ds = [some (.dic s5), some (.d (encRl r)), some (.d (.int (N : Nat))), some (.d (.tuple (l.map eP))), some (.d (.int mood)), some (.d (.int day)), some (.d (.int (n : Nat))), o7]) ?_ ?_
    · refine sw_if ?_
      walk_at "wY1"
      refine w_next w (by decide) (by decide) fun r1 s4 a1 b1 w => ?_
      walk_at "wY1"
      refine iw_any ?_ ?_
      · walk_at "wY1"
        refine w_next w (by decide) (by decide) fun mood s5 a2 b2 w => ?_
        walk_at "wY1"
        exact ⟨mood, s5, a2, b2, w, rfl⟩
      · walk_at "wY1"
        exact ⟨mood, s4, m0, m1, w.mono (by omega), rfl⟩
    rintro ds ⟨mood, s5, m0, m1, w, rfl⟩
    walk_at "wY1"
    obtain ⟨ws, ews, wl0, wl1, hws⟩ := words_at m0 m1
    refine ow_eq ews ?_
    walk_at "wY1"
    refine sw_cut (fun ds => ∃ l2 s6, LM r l2 day ∧ l2.length ≤ 2 * n + 1 ∧ (∀ q, l2.getLast? = some q → q.1 < day ∨ q = (day, ("given" : Str))) ∧ SK (B + 7 * (N - (n + 1)) + 5) s6 ∧ ds = [some (.dic s6), some (.d (encRl r)), some (.d (.int (N : Nat))), some (.d (.tuple (l2.map eP))), some (.d (.int mood)), some (.d (.int day)), some (.d (.int (n : Nat))), some (.d (.list (ws.map .str)))]) ?_ ?_
    · have keep : ∀ s6, SK (B + 7 * (N - (n + 1)) + 5) s6 → ∃ l2 s7, LM r l2 day ∧ l2.length ≤ 2 * n + 1 ∧ (∀ q, l2.getLast? = some q → q.1 < day ∨ q = (day, ("given" : Str))) ∧ SK (B + 7 * (N - (n + 1)) + 5) s7 ∧ ([some (.dic s6), some (.d (encRl r)), some (.d (.int (N : Nat))), some (.d (.tuple (l.map eP))), some (.d (.int mood)), some (.d (.int day)), some (.d (.int (n : Nat))), some (.d (.list (ws.map .str)))] : DS2) = [some (.dic s7), some (.d (encRl r)), some (.d (.int (N : Nat))), some (.d (.tuple (l2.map eP))), some (.d (.int mood)), some (.d (.int day)), some (.d (.int (n : Nat))), some (.d (.list (ws.map .str)))] :=
        fun s6 w6 => ⟨l, s6, ⟨li.ln, li.ns, fun p hp => Int.le_of_lt (li.bef p hp), li.run⟩, by omega, fun q hq => .inl (li.bef q (List.mem_of_getLast? hq)), w6, rfl⟩
      refine sw_if ?_
      walk_at "wY1"
      refine w_next w (by decide) (by decide) fun r1 s6 a1 b1 w => ?_
      walk_at "wY1"
      refine iw_any ?_ ?_
      · obtain ⟨t, ht⟩ := li.run
        walk_at "wY1"
        refine ow_eq (stands_ok g ⟨by omega, li.ln.all, li.ln.nx⟩ ht) ?_
        walk_at "wY1"
        refine ⟨fun he => ?_, fun _ => ?_⟩
        · have hs : t.er.isSome = true := he
          walk_at "wY1"
          refine addP (by omega) ?_
          walk_at "wY1"
          refine ⟨l ++ [(day, ("given" : Str))], s6, ⟨li.ln.app ⟨hd.1, by show day ≤ 9999; omega, by show ("given" : Str) ∈ W5; decide +kernel⟩ fun q hq => ⟨li.ns q (List.mem_of_getLast? hq), .inl (li.bef q (List.mem_of_getLast? hq))⟩, fun p hp => ?_, fun p hp => ?_, runR_full ht fun _ z => by rw [z] at hs; cases hs⟩, by rw [List.length_append, List.length_singleton]; omega, fun q hq => ?_, w, rfl⟩
          · rcases List.mem_append.mp hp with z | z
            · exact li.ns p z
            · rw [List.mem_singleton.mp z]; show ("given" : Str) ≠ "struck"; decide +kernel
          · rcases List.mem_append.mp hp with z | z
            · exact Int.le_of_lt (li.bef p z)
            · rw [List.mem_singleton.mp z]; exact Int.le_refl _
          · rw [List.getLast?_append] at hq
            cases hq
            exact .inr rfl
        · walk_at "wY1"
          exact keep s6 w
      · walk_at "wY1"
        exact keep s6 w
    rintro ds ⟨l2, s6, lm, l2l, l2q, w, rfl⟩
    walk_at "wY1"
    refine sw_cut (fun ds => ∃ l3 s7, LM r l3 day ∧ l3.length ≤ 2 * n + 2 ∧ SK (B + 7 * (N - (n + 1)) + 3) s7 ∧ ds = [some (.dic s7), some (.d (encRl r)), some (.d (.int (N : Nat))), some (.d (.tuple (l3.map eP))), some (.d (.int mood)), some (.d (.int day)), some (.d (.int (n : Nat))), some (.d (.list (ws.map .str)))]) ?_ ?_
    · refine sw_if ?_
      refine xw_imp (P := fun b ds1 => ∃ s7, SK (B + 7 * (N - (n + 1)) + 4) s7 ∧ ds1 = [some (.dic s7), some (.d (encRl r)), some (.d (.int (N : Nat))), some (.d (.tuple (l2.map eP))), some (.d (.int mood)), some (.d (.int day)), some (.d (.int (n : Nat))), some (.d (.list (ws.map .str)))]) ?_ ?_
      · walk_at "wY1"
        refine ow_eq (sl_last l2) ?_
        walk_at "wY1"
        obtain ⟨b, hb⟩ := ne_last (l := l2) (q := (day, ("given" : Str)))
        refine ow_eq hb ?_
        walk_at "wY1"
        refine iw_any ⟨s6, w.mono (by omega), rfl⟩ ?_
        walk_at "wY1"
        refine w_next w (by decide) (by decide) fun r1 s7 a1 b1 w => ?_
        walk_at "wY1"
        exact ⟨s7, w, rfl⟩
      rintro b ds ⟨s7, w, rfl⟩
      refine iw_any ?_ ?_
      · walk_at "wY1"
        refine w_next w (by omega) (by omega) fun r1 s8 a1 b1 w => ?_
        walk_at "wY1"
        obtain ⟨j, rfl⟩ := Int.eq_ofNat_of_zero_le a1
        have hj : j < ws.length := by omega
        refine ow_eq (x := .str ws[j]) (ixL_nat (by rw [List.getElem?_map, List.getElem?_eq_getElem hj]; rfl)) ?_
        walk_at "wY1"
        have hw3 := hws _ (List.getElem_mem hj)
        generalize ws[j] = x at hw3
        have x5 : x ∈ W5 := by
          unfold W3 at hw3
          unfold W5
          simp only [List.mem_cons, List.mem_nil_iff, or_false] at hw3 ⊢
          rcases hw3 with z | z | z
          · exact .inl z
          · exact .inr (.inl z)
          · exact .inr (.inr (.inl z))
        have xg : ¬ x = "given" := fun z => by rw [z] at hw3; exact absurd hw3 (by decide +kernel)
        have xs : ¬ x = "struck" := fun z => by rw [z] at hw3; exact absurd hw3 (by decide +kernel)
        obtain ⟨t, ht⟩ := lm.run
        refine addP (by omega) ?_
        walk_at "wY1"
        refine ⟨l2 ++ [(day, x)], s8, ⟨lm.ln.app ⟨hd.1, by show day ≤ 9999; omega, x5⟩ fun q hq => ⟨lm.ns q (List.mem_of_getLast? hq), ?_⟩, fun p hp => ?_, fun p hp => ?_, runR_full ht fun z => absurd z xg⟩, by rw [List.length_append, List.length_singleton]; omega, w, rfl⟩
        · rcases l2q q hq with z | z
          · exact .inl z
          · rw [z]; exact .inr ⟨rfl, rfl, xg⟩
        · rcases List.mem_append.mp hp with z | z
          · exact lm.ns p z
          · rw [List.mem_singleton.mp z]; exact xs
        · rcases List.mem_append.mp hp with z | z
          · exact lm.bef p z
          · rw [List.mem_singleton.mp z]; exact Int.le_refl _
      · walk_at "wY1"
        exact ⟨l2, s7, lm, by omega, w.mono (by omega), rfl⟩
    rintro ds ⟨l3, s7, lm, l3l, w, rfl⟩
    walk_at "wY1"
    refine w_next w (by decide) (by decide) fun r1 s8 a1 b1 w => ?_
    walk_at "wY1"
    obtain ⟨y2, e2, h2⟩ := ix2 (a := 1) (b := 3) a1 b1
    refine ow_eq e2 ?_
    walk_at "wY1"
    refine w_next w (by omega) (by omega) fun r2 s9 a2 b2 w => ?_
    walk_at "wY1"
    refine ⟨l3, mood, _, s9, _, _, ⟨lm.ln, by omega, lm.ns, fun p hp => ?_, ?_, lm.run⟩, m0, m1, w, rfl⟩
    · have := lm.bef p hp
      omega
    · omega
  · rintro ds ⟨l, mood, day, s3, o6, o7, li, m0, m1, w, rfl⟩
    rw [List.length_range] at li w
    walk_at "wY1"
    refine w_next w (by decide) (by decide) fun r1 s4 a1 b1 w => ?_
    walk_at "wY1"
    refine ow_eq rep_B ?_
    have hlen := li.len
    have hd := li.day
    refine ow_addT (by have : (1000000 : Nat) ≤ sizeLine := (by decide); rw [List.length_map]; split <;> simp <;> omega) ?_
    walk_at "wY1"
    obtain ⟨t, ht⟩ := li.run
    by_cases h0 : r1 = 0
    · rw [if_pos (decide_eq_true h0), show l.map eP ++ ([PyData.tuple [.int day, .str "struck"]] : List D) = (l ++ [(day, ("struck" : Str))]).map eP by rw [List.map_append]; rfl]
      have ln := li.ln.app (p := (day, ("struck" : Str))) ⟨hd.1, by show day ≤ 9999; omega, by show ("struck" : Str) ∈ W5; decide +kernel⟩ fun q hq => ⟨li.ns q (List.mem_of_getLast? hq), .inl (li.bef q (List.mem_of_getLast? hq))⟩
      refine q _ s4 ⟨by rw [List.length_append, List.length_singleton]; omega, ln.all, ln.nx⟩ (by rw [List.length_append, List.length_singleton]; omega) (runR_full ht fun z => absurd (show ("struck" : Str) = "given" from z) (by decide +kernel)) (fun p hp => ?_) (w.mono (by omega))
      rcases List.mem_append.mp hp with z | z
      · have := li.bef p z
        omega
      · rw [List.mem_singleton.mp z]
        show day ≤ 5000
        omega
    · rw [if_neg fun z => h0 (of_decide_eq_true z), List.append_nil]
      exact q _ s4 ⟨by omega, li.ln.all, li.ln.nx⟩ (by omega) ⟨t, ht⟩ (fun p hp => by have := li.bef p hp; omega) (w.mono (by omega))
theorem noDAll_of {α : Type} {f : α → D} (h : ∀ a, noD (f a) = true) : ∀ l : List α, noDAll (l.map f) = true
  | [] => rfl
  | a :: l => by
    show (noD (f a) && noDAll (l.map f)) = true
    rw [h a, noDAll_of h l]
    rfl
theorem ne_nilI (xs : List Int) : neD (.list (xs.map .int)) (.list []) = some (.bool (!xs.isEmpty)) := by
  unfold neD
  rw [if_pos ⟨Nat.le_trans (Nat.min_le_right _ _) (by decide), noD_ints _, rfl⟩]
  cases xs <;> rfl
theorem lastI_at {xs : List Int} {q : Int} (h : xs.getLast? = some q) : ixD (.list (xs.map .int)) (.int (-1)) = some (.int q) := by
  rw [List.getLast?_eq_getElem?] at h
  have hl := (List.getElem?_eq_some_iff.mp h).1
  show atI (xs.map PyData.int) (-1) = _
  unfold atI
  rw [show ixN (xs.map PyData.int).length (-1) = some (xs.length - 1) by
    unfold ixN
    rw [List.length_map, if_neg (by decide), if_pos (by omega)]
    congr 1
    omega]
  show (xs.map PyData.int)[xs.length - 1]? = _
  rw [List.getElem?_map, h]
  rfl
theorem sl_takeP (l : List Pr) (n : Nat) : slA (.tuple (l.map eP)) none (some (n : Int)) = some (.tuple ((l.take n).map eP)) := by
  show some (PyData.tuple (DL.cutD _ none (some (n : Int)))) = _
  rw [cut_take, List.map_take]
theorem sl_dropP (l : List Pr) (n : Nat) : slA (.tuple (l.map eP)) (some (n : Int)) none = some (.tuple ((l.drop n).map eP)) := by
  show some (PyData.tuple (DL.cutD _ (some (n : Int)) none)) = _
  rw [cut_from, List.map_drop]
theorem sl_takeH (l : List HRow) (n : Nat) : slA (.list (l.map eH)) none (some (n : Int)) = some (.list ((l.take n).map eH)) := by
  show some (PyData.list (DL.cutD _ none (some (n : Int)))) = _
  rw [cut_take, List.map_take]
theorem sl_dropH (l : List HRow) (n : Nat) : slA (.list (l.map eH)) (some (n : Int)) none = some (.list ((l.drop n).map eH)) := by
  show some (PyData.list (DL.cutD _ (some (n : Int)) none)) = _
  rw [cut_from, List.map_drop]
theorem gln_ln {l : List Pr} (g : GLn l) : LN l := ⟨g.all, g.nx⟩
theorem ow_neRows {r : Rl} (g : GRl r) {l : List Pr} (gl : GLn l) {n : Nat} (hn : n ≤ 400) {s : RS} (h : runR r l n = some s) {m : List HRow} (hm : m.Sublist s.fd) {Q : D → Prop} (q : Q (.bool false)) : OW (neD (.list (m.map eH)) (.list (m.map eH))) Q :=
  ow_neNc (nc_rows (fun x hx => runR_rows g (gln_ln gl) h x (hm.subset hx)) (by have := hm.length_le; have := (runR_inv h).len; omega)) (by omega) q
theorem w_cuts {B : Nat} {s : List (Key × D)} {r : Rl} {l : List Pr} {t : RS} {Q : MO St2 → List (Key × D) → Prop} (w : SK (B + 6) s) (g : GRl r) (gl : GLn l) (hl : l.length ≤ 400) (ht : runR r l l.length = some t) (q : ∀ s', SK B s' → Q (.d (.bool true)) s') : PW2 (F_law_cuts_right s [encRl r, .tuple (l.map eP), .list (t.fd.map eH)]) Q := by
  have sz : (1000000 : Nat) ≤ sizeLine := by decide
  unfold F_law_cuts_right g_law_cuts_right
  refine pw_runV [some (.dic s), some (.d (encRl r)), some (.d (.tuple (l.map eP))), some (.d (.list (t.fd.map eH))), none, none, none, none, none, none, none] rfl ?_
  walk_at "wY1"
  refine xw_lcX (List.range 6) (fun k : Nat => .int (k : Nat)) (fun n acc ds => ∃ (cs : List Nat) (s' : List (Key × D)), acc = cs.map (fun c => PyData.int (c : Nat)) ∧ cs.length = n ∧ SK (B + (6 - n)) s' ∧ ds = [some (.dic s'), some (.d (encRl r)), some (.d (.tuple (l.map eP))), some (.d (.list (t.fd.map eH))), none, none, none, none, none, none, none]) ?_
  walk_at "wY1"
  refine ow_rng1 (n := 6) (by decide) ?_
  refine ⟨rfl, ⟨[], s, rfl, rfl, w, rfl⟩, ?_, ?_⟩
  · rintro n k hk acc ds ⟨cs, s', rfl, hc, w, rfl⟩
    have hn := (List.getElem?_eq_some_iff.mp hk).1
    rw [List.length_range] at hn
    have w : SK (B + (6 - (n + 1)) + 1) s' := w.mono (by omega)
    walk_at "wY1"
    refine letw (ds0 := [some (.dic s'), some (.d (encRl r)), some (.d (.tuple (l.map eP))), some (.d (.list (t.fd.map eH))), none, none, none, some (.d (.int (k : Nat))), none, none, none]) rfl ?_
    walk_at "wY1"
    refine w_next w (by omega) (by omega) fun r1 s2 a1 b1 w => ?_
    walk_at "wY1"
    obtain ⟨j, rfl⟩ := Int.eq_ofNat_of_zero_le a1
    refine letw rfl ?_
    exact ⟨cs ++ [j], s2, by rw [List.map_append]; rfl, by rw [List.length_append, hc]; rfl, w, rfl⟩
  · rintro ys ds2 ⟨cs, s', rfl, hc, w, rfl⟩
    walk_at "wY1"
    have hcl : cs.length = 6 := by rw [hc, List.length_range]
    refine ow_addL (by simp only [List.length_map, List.length_cons, List.length_nil]; omega) ?_
    rw [show ([PyData.int (l.length : Nat), .int 0, .int 1] : List D) ++ cs.map (fun c : Nat => PyData.int (c : Nat)) = (l.length :: 0 :: 1 :: cs).map (fun c : Nat => PyData.int (c : Nat)) from rfl]
    walk_at "wY1"
    refine fw_xs (l.length :: 0 :: 1 :: cs) rfl (fun n ds => ∃ o4 o5 o6, ds = [some (.dic s'), some (.d (encRl r)), some (.d (.tuple (l.map eP))), some (.d (.list (t.fd.map eH))), o4, o5, o6, none, none, none, none]) ⟨_, _, _, rfl⟩ ?_ ?_
    · rintro n c hc2 ds ⟨o4, o5, o6, rfl⟩
      have hmin : (l.take c).length = min c l.length := List.length_take ..
      obtain ⟨s1, h1⟩ := run_le ht (n := min c l.length) (by omega)
      have h2 : runR r (l.take c) (l.take c).length = some s1 := by rw [hmin, runR_take (by omega)]; exact h1
      obtain ⟨u, e1, e2⟩ := run_pre h1 (k := l.length - min c l.length) (s := t) (by rw [show min c l.length + (l.length - min c l.length) = l.length by omega]; exact ht)
      have tk : t.fd.take s1.fd.length = s1.fd := by rw [e1, List.take_left]
      have dr : t.fd.drop s1.fd.length = u := by rw [e1, List.drop_left]
      walk_at "wY1"
      refine ow_eq (sl_takeP l c) ?_
      walk_at "wY1"
      refine ow_eq (rows_ok g (gln_take gl c) h2) ?_
      walk_at "wY1"
      refine sw_if ?_
      walk_at "wY1"
      refine ow_eq (sl_takeH t.fd s1.fd.length) ?_
      rw [tk]
      refine ow_neRows g gl (n := min c l.length) (by omega) h1 (List.Sublist.refl _) ?_
      walk_at "wY1"
      refine ow_lcAll (l.take c) eP (fun p => .int p.1) ?_
      walk_at "wY1"
      refine ow_eq (sl_takeP l c) ?_
      walk_at "wY1"
      refine ⟨rfl, fun p hp => by walk_at "wY1"; rfl, ?_⟩
      rw [show (l.take c).map (fun p => PyData.int p.1) = ((l.take c).map (·.1)).map .int by rw [List.map_map]; rfl]
      walk_at "wY1"
      refine sw_if ?_
      walk_at "wY1"
      refine ow_lcSome s1.fd eH (fun _ => false) eH ?_
      walk_at "wY1"
      refine ⟨rfl, fun x hx => ?_, ?_⟩
      · walk_at "wY1"
        refine ow_eq (ninI x.day ((l.take c).map (·.1))) ?_
        obtain ⟨j, p, hj, hp, ed⟩ := run_days h1 x hx
        rw [decide_eq_true (show x.day ∈ (l.take c).map (·.1) from List.mem_map.mpr ⟨p, List.mem_of_getElem? (i := j) (by rw [List.getElem?_take_of_lt (by omega)]; exact hp), ed.symm⟩)]
        walk_at "wY1"
        exact ⟨rfl, nofun⟩
      rw [show s1.fd.filter (fun _ => false) = [] from List.filter_eq_nil_iff.mpr fun _ _ h => by cases h]
      walk_at "wY1"
      refine ow_eq (x := PyData.bool false) rfl ?_
      walk_at "wY1"
      refine sw_if ?_
      walk_at "wY1"
      refine ow_lcSome u eH (fun _ => false) eH ?_
      walk_at "wY1"
      refine ow_eq (sl_dropH t.fd s1.fd.length) ?_
      rw [dr]
      walk_at "wY1"
      refine ⟨rfl, fun x hx => ?_, ?_⟩
      · walk_at "wY1"
        refine ow_eq (ne_nilI _) ?_
        walk_at "wY1"
        refine ⟨fun hz => ?_, fun _ => by walk_at "wY1"; exact ⟨rfl, nofun⟩⟩
        have hne : 0 < min c l.length := by
          refine Nat.pos_of_ne_zero fun z => ?_
          have : l.take c = [] := List.eq_nil_of_length_eq_zero (by rw [hmin]; exact z)
          rw [this] at hz
          cases hz
        have hm1 : l[min c l.length - 1]? = some l[min c l.length - 1] := List.getElem?_eq_getElem (by omega)
        have hq : ((l.take c).map (·.1)).getLast? = some l[min c l.length - 1].1 := by
          rw [List.getLast?_eq_getElem?, List.length_map, hmin, List.getElem?_map, List.getElem?_take_of_lt (by omega), hm1]
          rfl
        obtain ⟨j, p, j1, j2, hp, ed⟩ := e2 x hx
        have := gln_le gl (show min c l.length - 1 ≤ j by omega) hm1 hp
        walk_at "wY1"
        refine ow_eq (lastI_at hq) ?_
        walk_at "wY1"
        exact ⟨decide_eq_false (by omega), nofun⟩
      rw [show u.filter (fun _ => false) = [] from List.filter_eq_nil_iff.mpr fun _ _ h => by cases h]
      walk_at "wY1"
      refine ow_eq (x := PyData.bool false) rfl ?_
      walk_at "wY1"
      exact ⟨_, _, _, rfl⟩
    · rintro ds ⟨o4, o5, o6, rfl⟩
      walk_at "wY1"
      exact q s' (w.mono (by omega))
def encEn (q : Pr × Nat) : D := .tuple [.int (q.2 : Nat), eP q.1]
theorem enumD_pr : ∀ (l : List Pr) (k : Nat), enumD k (l.map eP) = (l.zipIdx k).map encEn
  | [], _ => rfl
  | x :: r, k => by
    show _ :: enumD (k + 1) (r.map eP) = _
    rw [enumD_pr r (k + 1), List.zipIdx_cons, List.map_cons]
    rfl
theorem rests_ok {r : Rl} {l : List Pr} {t : RS} (g : GRl r) (gl : GLn l) (hl : l.length ≤ 400) (ht : runR r l l.length = some t) : F_law_rests_right [encRl r, .tuple (l.map eP), .list (t.fd.map eH)] = some (.d (.bool true)) := by
  refine ow_get ?_
  unfold F_law_rests_right g_law_rests_right
  refine ow_runP [some (.d (encRl r)), some (.d (.tuple (l.map eP))), some (.d (.list (t.fd.map eH))), none, none, none, none, none, none, none, none] rfl ?_
  walk_at "wY1"
  refine ow_eq (show _ = some (t.fd.zipIdx.map encHn) from by rw [← enumD_H]; rfl) ?_
  walk_at "wY1"
  refine fw_xs t.fd.zipIdx rfl (fun n ds => ∃ o3 o4 o5 o6 o7 o8, ds = [some (.d (encRl r)), some (.d (.tuple (l.map eP))), some (.d (.list (t.fd.map eH))), o3, o4, o5, o6, o7, o8, none, none]) ⟨_, _, _, _, _, _, rfl⟩ ?_ ?_
  · rintro k q hq ds ⟨o3, o4, o5, o6, o7, o8, rfl⟩
    rw [List.getElem?_zipIdx] at hq
    obtain ⟨x, hx, rfl⟩ := Option.map_eq_some_iff.mp hq
    rw [Nat.zero_add] at *
    walk_at "wY1"
    refine sw_if ?_
    walk_at "wY1"
    refine ⟨fun hw => ?_, fun _ => ?_⟩
    · have hw : x.word ≠ "earned" := fun z => by
        have hw : (!decide (x.word = ("earned" : Str))) = true := hw
        rw [decide_eq_true z] at hw
        cases hw
      obtain ⟨m, s0, s1, p, h1, h2, h3, h4, h5, h6, h7⟩ := run_row ht hx
      walk_at "wY1"
      refine ow_eq (inT x.word ["missed", "away"]) ?_
      walk_at "wY1"
      refine ow_lcSome l.zipIdx encEn (fun z => decide (z.1.1 = x.day) && (decide (x.word ∈ (["missed", "away"] : List Str)) || decide (z.1.2 = x.word))) (fun z => .int (z.2 : Nat)) ?_
      walk_at "wY1"
      refine ow_eq (show _ = some (l.zipIdx.map encEn) from by rw [← enumD_pr]; rfl) ?_
      refine ⟨rfl, fun z hz => ?_, ?_⟩
      · walk_at "wY1"
        refine ⟨fun ha => ?_, fun ha => ?_⟩
        · have ha : decide (z.1.1 = x.day) = true := ha
          walk_at "wY1"
          refine ⟨fun hb => ?_, fun hb => ?_⟩
          · have hb : decide (x.word ∈ (["missed", "away"] : List Str)) = true := hb
            refine ⟨by rw [ha, hb]; rfl, fun _ => by walk_at "wY1"; rfl⟩
          · have hb : decide (x.word ∈ (["missed", "away"] : List Str)) = false := hb
            walk_at "wY1"
            refine ⟨by rw [ha, hb]; rfl, fun _ => by walk_at "wY1"; rfl⟩
        · have ha : decide (z.1.1 = x.day) = false := ha
          exact ⟨by rw [ha]; rfl, fun h => by first | cases h | exact absurd h (by simp [ha])⟩
      have hs1 : runR r l (m + 1) = some ⟨s0.fd ++ [x], m + 1, none⟩ := by rw [runR_succ h2 h3, h4, (step_end h4 h6 hw).1]
      obtain ⟨rest, er⟩ := zfilt_head (l := l) (P := (fun z : Pr × Nat => decide (z.1.1 = x.day) && (decide (x.word ∈ (["missed", "away"] : List Str)) || decide (z.1.2 = x.word)))) h3 (by
        rcases (step_end h4 h6 hw).2.2 with ⟨_, ex⟩ | ⟨_, b, ds, _, hm, _⟩
        · have : p.2 = x.word := by rw [ex]
          rw [decide_eq_true h7.symm, decide_eq_true this, Bool.or_true]
          rfl
        · have : x.word ∈ (["missed", "away"] : List Str) := by
            rcases endM_word hm with y | y <;> rw [y] <;> decide +kernel
          rw [decide_eq_true h7.symm, decide_eq_true this]
          rfl) (fun k2 q2 hk2 hq2 => by
        by_cases hd : q2.1 = x.day
        · have no := spot_one gl h2 h3 h4 h6 hw hk2 hq2 (by rw [hd, h7])
          have n1 : ¬ x.word ∈ (["missed", "away"] : List Str) := fun z => no (.inl (by simpa using z))
          have n2 : ¬ q2.2 = x.word := fun z => no (.inr z)
          rw [decide_eq_false n1, decide_eq_false n2]
          simp
        · rw [decide_eq_false hd]
          rfl)
      rw [show (l.zipIdx.filter (fun z : Pr × Nat => decide (z.1.1 = x.day) && (decide (x.word ∈ (["missed", "away"] : List Str)) || decide (z.1.2 = x.word)))).map (fun z => PyData.int (z.2 : Nat)) = ((l.zipIdx.filter (fun z : Pr × Nat => decide (z.1.1 = x.day) && (decide (x.word ∈ (["missed", "away"] : List Str)) || decide (z.1.2 = x.word)))).map (·.2)).map (fun k : Nat => PyData.int (k : Nat)) by rw [List.map_map]; rfl, er, List.map_cons]
      have hsh := run_shift hs1 (l.length - (m + 1))
      have hml := (List.getElem?_eq_some_iff.mp h3).1
      rw [show m + 1 + (l.length - (m + 1)) = l.length by omega, ht] at hsh
      obtain ⟨s2, hs2, et⟩ := Option.map_eq_some_iff.mp hsh.symm
      have hs2 : runR r (l.drop (m + 1)) (l.drop (m + 1)).length = some s2 := by rw [List.length_drop]; exact hs2
      have tf : t.fd = (s0.fd ++ [x]) ++ s2.fd := by rw [← et]; rfl
      have dr : t.fd.drop (k + 1) = s2.fd := by rw [tf, ← h5, show s0.fd.length + 1 = (s0.fd ++ [x]).length by rw [List.length_append]; rfl, List.drop_left]
      walk_at "wY1"
      refine sw_if ?_
      walk_at "wY1"
      refine ow_eq (show _ = some (PyData.tuple ((l.drop (m + 1)).map eP)) from sl_dropP l (m + 1)) ?_
      walk_at "wY1"
      refine ow_eq (rows_ok g (gln_drop gl (m + 1)) hs2) ?_
      walk_at "wY1"
      refine ow_eq (show _ = some (PyData.list ((t.fd.drop (k + 1)).map eH)) from sl_dropH t.fd (k + 1)) ?_
      rw [dr]
      refine ow_neRows g (gln_drop gl (m + 1)) (n := (l.drop (m + 1)).length) (by rw [List.length_drop]; omega) hs2 (List.Sublist.refl _) ?_
      walk_at "wY1"
      exact ⟨_, _, _, _, _, _, rfl⟩
    · walk_at "wY1"
      exact ⟨_, _, _, _, _, _, rfl⟩
  · rintro ds ⟨o3, o4, o5, o6, o7, o8, rfl⟩
    walk_at "wY1"
    rfl
theorem look_put {kvs : List (Key × D)} {k : Key} {d : D} (h : lookD kvs k = none) (j : Key) : lookD (putD kvs k d) j = if j = k then some d else lookD kvs j := by
  have hf : kvs.find? (fun p => decide (p.1 = k)) = none := by
    unfold lookD at h
    cases e : kvs.find? (fun p => decide (p.1 = k)) with
    | none => rfl
    | some x => rw [e] at h; cases h
  have hn : ∀ p ∈ kvs, p.1 ≠ k := fun p hp e => by
    have := List.find?_eq_none.mp hf p hp
    exact this (decide_eq_true e)
  rw [put_new hn]
  unfold lookD
  rw [List.find?_append]
  by_cases e : j = k
  · subst e
    rw [hf, if_pos rfl, Option.none_or, List.find?_cons_of_pos (by simp)]
    rfl
  · rw [if_neg e, List.find?_cons_of_neg (by simpa using Ne.symm e), List.find?_nil, Option.or_none]
structure Cl3 (l : List Pr) (n : Nat) (f : Int → Int) (far : Int) (kvs : List (Key × D)) : Prop where
  has : ∀ j p, j < n → l[j]? = some p → lookD kvs (.inl p.1) = some (.int (f p.1))
  no : ∀ d : Int, (∀ j p, j < n → l[j]? = some p → p.1 ≠ d) → lookD kvs (.inl d) = none
  up : ∀ i j p q, i < n → j < n → l[i]? = some p → l[j]? = some q → p.1 < q.1 → f p.1 < f q.1
  lo : ∀ j p, j < n → l[j]? = some p → 0 ≤ f p.1 ∧ f p.1 < far
  far : 0 ≤ far ∧ far ≤ 99 + 41 * n
theorem Cl3.nil {l : List Pr} {far : Int} (h0 : 0 ≤ far) (h1 : far < 99) : Cl3 l 0 id far [] := ⟨nofun, fun _ _ => rfl, nofun, nofun, by omega⟩
theorem Cl3.keep {l : List Pr} {n : Nat} {f : Int → Int} {far : Int} {kvs : List (Key × D)} (c : Cl3 l n f far kvs) {p : Pr} (hp : l[n]? = some p) (hk : lookD kvs (.inl p.1) ≠ none) : Cl3 l (n + 1) f far kvs := by
  obtain ⟨j0, p0, hj, hp0, e0⟩ : ∃ j q, j < n ∧ l[j]? = some q ∧ q.1 = p.1 := by
    refine Classical.byContradiction fun z => hk (c.no p.1 fun j q hj hq e => z ⟨j, q, hj, hq, e⟩)
  have back : ∀ j q, j < n + 1 → l[j]? = some q → ∃ i q', i < n ∧ l[i]? = some q' ∧ q'.1 = q.1 := fun j q hj2 hq => by
    by_cases e : j = n
    · subst e
      rw [hp] at hq
      cases hq
      exact ⟨j0, p0, hj, hp0, e0⟩
    · exact ⟨j, q, by omega, hq, rfl⟩
  refine ⟨fun j q hj2 hq => ?_, fun d h => c.no d fun j q hj2 hq => h j q (by omega) hq, fun i j q q2 hi hj2 hq hq2 hlt => ?_, fun j q hj2 hq => ?_, by have := c.far; omega⟩
  · obtain ⟨i, q', a, b, e⟩ := back j q hj2 hq
    rw [← e]
    exact c.has i q' a b
  · obtain ⟨i1, q1', a1, b1, e1⟩ := back i q hi hq
    obtain ⟨i2, q2', a2, b2, e2⟩ := back j q2 hj2 hq2
    rw [← e1, ← e2]
    exact c.up i1 i2 q1' q2' a1 a2 b1 b2 (by omega)
  · obtain ⟨i, q', a, b, e⟩ := back j q hj2 hq
    rw [← e]
    exact c.lo i q' a b
theorem Cl3.add {l : List Pr} (g : GLn l) {n : Nat} {f : Int → Int} {far : Int} {kvs : List (Key × D)} (c : Cl3 l n f far kvs) {p : Pr} (hp : l[n]? = some p) (hk : lookD kvs (.inl p.1) = none) {x : Int} (h0 : 0 ≤ x) (h1 : x < 40) : Cl3 l (n + 1) (fun d => if d = p.1 then far else f d) (far + 1 + x) (putD kvs (.inl p.1) (.int far)) := by
  have ne : ∀ j q, j < n → l[j]? = some q → q.1 ≠ p.1 := fun j q hj hq e => by
    have := c.has j q hj hq
    rw [e, hk] at this
    cases this
  have lt : ∀ j q, j < n → l[j]? = some q → q.1 < p.1 := fun j q hj hq => by
    have := gln_le g (Nat.le_of_lt hj) hq hp
    have := ne j q hj hq
    omega
  have inj : ∀ a b : Int, ((Sum.inl a : Key) = Sum.inl b) ↔ a = b := fun a b => ⟨Sum.inl.inj, fun e => by rw [e]⟩
  have cf := c.far
  have sp : ∀ j q, j < n + 1 → l[j]? = some q → (j < n ∧ q.1 ≠ p.1) ∨ q = p := fun j q hj hq => by
    by_cases e : j = n
    · subst e
      rw [hp] at hq
      cases hq
      exact .inr rfl
    · exact .inl ⟨by omega, ne j q (by omega) hq⟩
  refine ⟨fun j q hj hq => ?_, fun d h => ?_, fun i j q q2 hi hj hq hq2 hlt => ?_, fun j q hj hq => ?_, by omega⟩
  · rw [look_put hk]
    rcases sp j q hj hq with ⟨a, b⟩ | rfl
    · rw [if_neg fun e => b (Sum.inl.inj e), c.has j q a hq]
      rw [if_neg b]
    · rw [if_pos rfl]
      rw [if_pos rfl]
  · rw [look_put hk, if_neg fun e => h n p (Nat.lt_succ_self n) hp (Sum.inl.inj e).symm]
    exact c.no d fun j q hj hq => h j q (by omega) hq
  · rcases sp i q hi hq with ⟨a, b⟩ | rfl <;> rcases sp j q2 hj hq2 with ⟨a2, b2⟩ | rfl
    · rw [if_neg b, if_neg b2]
      exact c.up i j q q2 a a2 hq hq2 hlt
    · rw [if_neg b, if_pos rfl]
      exact (c.lo i q a hq).2
    · have := lt j q2 a2 hq2
      omega
    · omega
  · rcases sp j q hj hq with ⟨a, b⟩ | rfl
    · rw [if_neg b]
      have := c.lo j q a hq
      omega
    · rw [if_pos rfl]
      omega
theorem putD_len (kvs : List (Key × D)) (k : Key) (d : D) : (putD kvs k d).length ≤ kvs.length + 1 := by
  unfold putD
  split
  · rw [List.length_map]; omega
  · rw [List.length_append]; exact Nat.le_refl _
theorem nlP : ∀ l : List Pr, noListAll (l.map eP) = true
  | [] => rfl
  | p :: l => by
    show (true && noListAll (l.map eP)) = true
    rw [nlP l]
    rfl
theorem nlH : ∀ l : List HRow, noListAll (l.map eH) = true
  | [] => rfl
  | x :: l => by
    have h : noListAll (x.shown.map .int) = true := nl_ints _
    show ((true && (true && (noListAll (x.shown.map PyData.int) && true))) && noListAll (l.map eH)) = true
    rw [nlH l, h]
    rfl
theorem w_renamed {B : Nat} {s : List (Key × D)} {r : Rl} {l : List Pr} {t : RS} {Q : MO St2 → List (Key × D) → Prop} (w : SK (B + 2 * l.length + 1) s) (g : GRl r) (gl : GLn l) (hl : l.length ≤ 200) (ht : runR r l l.length = some t) (q : ∀ s', SK B s' → Q (.d (.bool true)) s') : PW2 (F_law_renamed_right s [encRl r, .tuple (l.map eP), .list (t.fd.map eH)]) Q := by
  have sz : (1000000 : Nat) ≤ sizeLine := by decide
  unfold F_law_renamed_right g_law_renamed_right
  refine pw_runV [some (.dic s), some (.d (encRl r)), some (.d (.tuple (l.map eP))), some (.d (.list (t.fd.map eH))), none, none, none, none, none, none, none, none] rfl ?_
  walk_at "wY1"
  refine w_next w (by decide) (by decide) fun far s1 a0 b0 w => ?_
  walk_at "wY1"
  refine fw_xs l (enc := eP) rfl (fun n ds => ∃ f far kvs s' o6 o7, Cl3 l n f far kvs ∧ kvs.length ≤ n ∧ SK (B + 2 * (l.length - n)) s' ∧ ds = [some (.dic s'), some (.d (encRl r)), some (.d (.tuple (l.map eP))), some (.d (.list (t.fd.map eH))), some (.dic kvs), some (.d (.int far)), o6, o7, none, none, none, none]) ⟨id, far, [], s1, _, _, Cl3.nil a0 b0, Nat.le_refl _, w, rfl⟩ ?_ ?_
  · rintro n p hp ds ⟨f, far, kvs, s', o6, o7, c, kl, w, rfl⟩
    have hn := (List.getElem?_eq_some_iff.mp hp).1
    have w : SK (B + 2 * (l.length - (n + 1)) + 2) s' := w.mono (by omega)
    walk_at "wY1"
    refine sw_if ?_
    walk_at "wY1"
    refine ⟨fun hk => ?_, fun hk => ?_⟩
    · have hk : lookD kvs (.inl p.1) = none := by
        have hk : (!(lookD kvs (.inl p.1)).isSome) = true := hk
        cases e : lookD kvs (.inl p.1) with
        | none => rfl
        | some x => rw [e] at hk; cases hk
      walk_at "wY1"
      refine aw_mk (by omega) ?_
      walk_at "wY1"
      refine w_next (n := 2) w (by decide) (by decide) fun r1 s2 a1 b1 w => ?_
      walk_at "wY1"
      obtain ⟨y2, e2, h2⟩ := ix2 (a := 1) (b := 40) a1 b1
      refine ow_eq e2 ?_
      walk_at "wY1"
      refine w_next w (by omega) (by omega) fun x s3 a2 b2 w => ?_
      walk_at "wY1"
      exact ⟨_, _, _, s3, _, _, c.add gl hp hk a2 (by omega), Nat.le_trans (putD_len _ _ _) (by omega), w, rfl⟩
    · have hk : lookD kvs (.inl p.1) ≠ none := fun e => by
        have hk : (!(lookD kvs (.inl p.1)).isSome) = false := hk
        rw [e] at hk
        cases hk
      walk_at "wY1"
      exact ⟨f, far, kvs, s', _, _, c.keep hp hk, by omega, w.mono (by omega), rfl⟩
  · rintro ds ⟨f, far, kvs, s', o6, o7, c, kl, w, rfl⟩
    have mem : ∀ p ∈ l, lookD kvs (.inl p.1) = some (.int (f p.1)) := fun p hp => by
      obtain ⟨j, hj⟩ := List.mem_iff_getElem?.mp hp
      exact c.has j p (List.getElem?_eq_some_iff.mp hj).1 hj
    have day : ∀ x ∈ t.fd, lookD kvs (.inl x.day) = some (.int (f x.day)) := fun x hx => by
      obtain ⟨j, p, hj, hp, e⟩ := run_days ht x hx
      rw [e]
      exact mem p (List.mem_of_getElem? hp)
    have shw : ∀ x ∈ t.fd, ∀ d ∈ x.shown, lookD kvs (.inl d) = some (.int (f d)) := fun x hx d hd => by
      rcases run_kind g gl ht hx with ⟨_, sh⟩ | ⟨_, hs, _⟩
      · exact mem _ (sh.mem d hd)
      · rw [hs] at hd; cases hd
    have cf := c.far
    have gr : GLn (l.map (rnP f)) := gln_rn gl (fun p hp => by
      obtain ⟨j, hj⟩ := List.mem_iff_getElem?.mp hp
      have := c.lo j p (List.getElem?_eq_some_iff.mp hj).1 hj
      omega) fun p hp p2 hp2 hlt => by
      obtain ⟨i, hi⟩ := List.mem_iff_getElem?.mp hp
      obtain ⟨j, hj⟩ := List.mem_iff_getElem?.mp hp2
      exact c.up i j p p2 (List.getElem?_eq_some_iff.mp hi).1 (List.getElem?_eq_some_iff.mp hj).1 hi hj hlt
    have hr : runR r (l.map (rnP f)) (l.map (rnP f)).length = some (rnS f t) := by
      rw [List.length_map, run_rn, ht]
      rfl
    walk_at "wY1"
    refine ow_lcAll l eP (fun p => eP (rnP f p)) ?_
    walk_at "wY1"
    refine ⟨rfl, fun p hp => ?_, ?_⟩
    · walk_at "wY1"
      refine ow_eq (mem p hp) ?_
      walk_at "wY1"
      rfl
    rw [show l.map (fun p => eP (rnP f p)) = (l.map (rnP f)).map eP by rw [List.map_map]; rfl]
    walk_at "wY1"
    refine aw_mk (nlP _) ?_
    walk_at "wY1"
    refine ow_lcAll t.fd eH (fun x => eH (rnH f x)) ?_
    walk_at "wY1"
    refine ⟨rfl, fun x hx => ?_, ?_⟩
    · walk_at "wY1"
      refine ow_eq (day x hx) ?_
      walk_at "wY1"
      refine ow_lcAll x.shown .int (fun d => .int (f d)) ?_
      walk_at "wY1"
      refine ⟨rfl, fun d hd => ?_, ?_⟩
      · walk_at "wY1"
        refine ow_eq (shw x hx d hd) ?_
        rfl
      walk_at "wY1"
      rw [show x.shown.map (fun d => PyData.int (f d)) = (x.shown.map f).map .int by rw [List.map_map]; rfl]
      rfl
    rw [show t.fd.map (fun x => eH (rnH f x)) = (t.fd.map (rnH f)).map eH by rw [List.map_map]; rfl]
    walk_at "wY1"
    refine aw_mk (nlH _) ?_
    walk_at "wY1"
    refine ow_eq (rows_ok g gr hr) ?_
    walk_at "wY1"
    have tl : t.fd.length ≤ 400 := by have := (runR_inv ht).len; omega
    have n1 : Nc 60 700000 (.list ((rnS f t).fd.map eH)) := (nc_rows (fun x hx => runR_rows g (gln_ln gr) hr x hx) (by show (t.fd.map (rnH f)).length ≤ 400; rw [List.length_map]; exact tl)).mono (by omega) (by omega)
    have n2 : Nc 60 700000 (.list (t.fd.map eH)) := (nc_rows (fun x hx => runR_rows g (gln_ln gl) ht x hx) tl).mono (by omega) (by omega)
    refine ow_repr n1 ?_
    walk_at "wY1"
    refine ow_repr n1 ?_
    walk_at "wY1"
    refine iw_t (decide_eq_true rfl) ?_
    walk_at "wY1"
    refine ow_eq (rows_ok g gl ht) ?_
    walk_at "wY1"
    refine ow_repr n2 ?_
    walk_at "wY1"
    refine ow_repr n2 ?_
    walk_at "wY1"
    rw [decide_eq_true rfl]
    exact q s' (w.mono (by omega))
theorem ow_dispV {S : Type} {ds : DS S} {ks : List Str} {g : DS S → Option (List D)} {Q : D → Prop} (h : ks.length ≤ 15) (k : OW (g ds) fun xs => Q (.dict ((.none, .bool true) :: encKs (dispD ks xs)))) : OW (gDispV ks g ds) Q := by
  obtain ⟨xs, e, q⟩ := k
  exact ⟨_, by unfold gDispV; rw [if_pos h, e]; rfl, q⟩
theorem nd3 : ([(.inr "earned" : Key), .inr "missed", .inr "away"]).Nodup := by decide +kernel
theorem disp3 (a b c : D) : dispD ["earned", "missed", "away"] [a, b, c] = [((.inr "earned" : Key), a), (.inr "missed", b), (.inr "away", c)] := by
  have h : (([((.inr "earned" : Key), a), (.inr "missed", b), (.inr "away", c)] : List (Key × D)).map (·.1)).Nodup := nd3
  exact mapD_id h (by intro p _ q hq; cases hq)
theorem look3 {a b c : D} {w : Str} (h : w = "earned" ∨ w = "missed" ∨ w = "away") : lookD (dispD ["earned", "missed", "away"] [a, b, c]) (.inr w) = some (if w = "earned" then a else if w = "missed" then b else c) := by
  rw [disp3]
  rcases h with rfl | rfl | rfl
  · rw [if_pos rfl]
    exact look_of (kvs := [((.inr "earned" : Key), a), (.inr "missed", b), (.inr "away", c)]) nd3 (by simp)
  · rw [if_neg (by decide +kernel), if_pos rfl]
    exact look_of (kvs := [((.inr "earned" : Key), a), (.inr "missed", b), (.inr "away", c)]) nd3 (by simp)
  · rw [if_neg (by decide +kernel), if_neg (by decide +kernel)]
    exact look_of (kvs := [((.inr "earned" : Key), a), (.inr "missed", b), (.inr "away", c)]) nd3 (by simp)
theorem look3n {a b c : D} {w : Str} (h : ¬ (w = "earned" ∨ w = "missed" ∨ w = "away")) : lookD (dispD ["earned", "missed", "away"] [a, b, c]) (.inr w) = none := by
  rw [disp3]
  refine look_none fun p hp e => h ?_
  simp only [List.mem_cons, List.mem_nil_iff, or_false] at hp
  rcases hp with rfl | rfl | rfl
  · exact .inl (Sum.inr.inj e).symm
  · exact .inr (.inl (Sum.inr.inj e).symm)
  · exact .inr (.inr (Sum.inr.inj e).symm)
theorem ninT (x : Str) (ys : List Str) : ninD (.str x) (.tuple (ys.map .str)) = some (.bool (!decide (x ∈ ys))) := by
  show (if min (PyData.depthAll (ys.map .str)) (PyData.depth (.str x)) ≤ 64 ∧ noD (.str x) = true ∧ noDAll (ys.map .str) = true then some (PyData.bool (!anyEq (.str x) (ys.map .str))) else none) = _
  rw [if_pos ⟨Nat.le_trans (Nat.min_le_left _ _) (Nat.le_trans (depth_strs ys) (by decide)), rfl, noD_strs _⟩, anyEq_strs]
theorem ow_inVals {S : Type} {ds : DS S} {op : Bool → Bool} {j : Nat} {g : DS S → Option D} {kvs : List (Key × D)} {x : Str} {ws : List Str} {Q : D → Prop} (e0 : dicLs ds j = some kvs) (e1 : g ds = some (.str x)) (e2 : kvs.map (·.2) = ws.map .str) (q : Q (.bool (op (decide (x ∈ ws))))) : OW (gInVals op j g ds) Q := by
  refine ⟨_, ?_, q⟩
  unfold gInVals
  rw [e1, Option.bind_some, e0, Option.bind_some, e2, if_pos ⟨rfl, noD_strs _, Nat.le_trans (Nat.min_le_left _ _) (Nat.le_trans (depth_strs ws) (by decide))⟩, anyEq_strs]
theorem ow_dget2 {S : Type} {ds : DS S} {j : Nat} {g h : DS S → Option D} {kvs : List (Key × D)} {k : Key} {x y z : D} {Q : D → Prop} (e0 : dicLs ds j = some kvs) (e1 : g ds = some x) (e2 : keyOf1 x = some k) (e3 : h ds = some y) (e4 : lookD kvs k = some z) (q : Q z) : OW (gDGet2 j g h ds) Q := by
  refine ⟨_, ?_, q⟩
  unfold gDGet2 gDLook
  rw [e0, Option.bind_some, e1, Option.bind_some, e2, Option.map_some, Option.bind_some, e3, Option.map_some, e4]
  rfl
theorem sort_up {l : List Int} (h : l.Pairwise (· < ·)) : sortedTD [.tuple (l.map .int)] = some (l.map .int) := by
  rw [sortedTD_eq, sorted_int]
  congr 2
  exact List.mergeSort_of_pairwise (h.imp fun h => decide_eq_true (Int.le_of_lt h))
theorem last_tup {xs : List Int} {q : Int} (h : xs.getLast? = some q) : ixD (.tuple (xs.map .int)) (.int (-1)) = some (.int q) := lastI_at h
theorem lo_look (r : Rl) (w : Str) : (if w = "earned" then PyData.int (r.e : Nat) else if w = "missed" then PyData.int (r.m : Nat) else PyData.int ((r.a : Int) + 1)) = PyData.int (loOf r w : Nat) := by
  unfold loOf
  split
  · rfl
  · split <;> rfl
theorem hi_look (r : Rl) (w : Str) : (if w = "earned" then PyData.int (r.o : Nat) else if w = "missed" then PyData.int (r.m : Nat) else PyData.int (r.o : Nat)) = PyData.int (hiOf r w : Nat) := by
  unfold hiOf
  split
  · rfl
  · split <;> rfl
theorem kw_look (w : Str) : (if w = "earned" then PyData.str "came" else if w = "missed" then PyData.str "missed" else PyData.str "told") = PyData.str (kwOf w) := by
  unfold kwOf
  split
  · rfl
  · split <;> rfl
theorem ow_neInts {l : List Int} {Q : D → Prop} (q : Q (.bool false)) : OW (neD (.list (l.map .int)) (.list (l.map .int))) Q := ow_neSelf (by unfold PyData.canLay0; exact layAll_ints l) (by have := depth_ints l; show PyData.depthAll _ + 1 ≤ 64; omega) q
theorem any_mem {x : D} (r : PyData.eqv x x = true) : ∀ {ys : List D}, x ∈ ys → anyEq x ys = true
  | y :: ys, h => by
    show (PyData.eqv y x || anyEq x ys) = true
    rcases List.mem_cons.mp h with rfl | h
    · rw [r]; rfl
    · rw [any_mem r h, Bool.or_true]
theorem ninP {p : Pr} {l : List Pr} (h : p ∈ l) : ninD (.tuple [.int p.1, .str p.2]) (.tuple (l.map eP)) = some (.bool false) := by
  have e : anyEq (.tuple [.int p.1, .str p.2]) (l.map eP) = true := any_mem (by simp [PyData.eqv, PyData.eqvAll]) (List.mem_map.mpr ⟨p, h, rfl⟩)
  show (if min (PyData.depthAll (l.map eP)) (PyData.depth (.tuple [.int p.1, .str p.2])) ≤ 64 ∧ noD (.tuple [.int p.1, .str p.2]) = true ∧ noDAll (l.map eP) = true then some (PyData.bool (!anyEq (.tuple [.int p.1, .str p.2]) (l.map eP))) else none) = _
  rw [if_pos ⟨Nat.le_trans (Nat.min_le_right _ _) (by simp [PyData.depth, PyData.depthAll]), rfl, noD_eP l⟩, e]
  rfl
theorem shown_ok {r : Rl} {l : List Pr} {t : RS} (g : GRl r) (gl : GLn l) (hl : l.length ≤ 400) (ht : runR r l l.length = some t) : F_law_shown_right [encRl r, .tuple (l.map eP), .list (t.fd.map eH)] = some (.d (.bool true)) := by
  refine ow_get ?_
  unfold F_law_shown_right g_law_shown_right
  refine ow_runP [some (.d (encRl r)), some (.d (.tuple (l.map eP))), some (.d (.list (t.fd.map eH))), none, none, none, none, none, none, none, none, none, none, none] rfl ?_
  walk_at "wY1"
  refine ow_lcSome l eP heldP (fun p => .tuple [.int p.1, .str p.2]) ?_
  walk_at "wY1"
  refine ⟨rfl, fun p hp => ?_, ?_⟩
  · walk_at "wY1"
    refine ow_eq (ninT p.2 ["given", "struck"]) ?_
    walk_at "wY1"
    exact ⟨rfl, fun _ => by walk_at "wY1"; rfl⟩
  walk_at "wY1"
  refine ow_eq (wKv_dict gl) ?_
  walk_at "wY1"
  refine ow_dispV (by decide) ?_
  walk_at "wY1"
  refine fw_xs t.fd (enc := eH) rfl (fun n ds => ∃ o5 o6 o7 o8 o9, ds = [some (.d (encRl r)), some (.d (.tuple (l.map eP))), some (.d (.list (t.fd.map eH))), some (.dic (wKv l)), some (.d (.dict ((.none, .bool true) :: encKs (dispD ["earned", "missed", "away"] [.str "came", .str "missed", .str "told"])))), o5, o6, o7, o8, o9, none, none, none, none]) ⟨_, _, _, _, _, rfl⟩ ?_ ?_
  · rintro n x hx ds ⟨o5, o6, o7, o8, o9, rfl⟩
    have hm := List.mem_of_getElem? hx
    walk_at "wY1"
    refine sw_if ?_
    walk_at "wY1"
    rcases run_kind g gl ht hm with ⟨hw, sh⟩ | ⟨hw, hs, hmem⟩
    · refine iw_t (by rw [look3 hw]; rfl) ?_
      walk_at "wY1"
      refine sw_if ?_
      walk_at "wY1"
      refine ow_lcSome x.shown .int (fun _ => false) .int ?_
      walk_at "wY1"
      refine ⟨rfl, fun d hd => ?_, ?_⟩
      · walk_at "wY1"
        refine ow_dget2 (k := .inl d) (z := .str (kwOf x.word)) rfl rfl rfl rfl (wKv_look gl (sh.mem d hd) (kw_held hw)) ?_
        walk_at "wY1"
        refine ow_eq (look3 hw) ?_
        rw [kw_look]
        walk_at "wY1"
        exact ⟨by rw [decide_eq_true rfl]; rfl, nofun⟩
      rw [show x.shown.filter (fun _ => false) = [] from List.filter_eq_nil_iff.mpr fun _ _ h => by cases h]
      walk_at "wY1"
      refine ow_eq (x := PyData.bool false) rfl ?_
      walk_at "wY1"
      refine ow_eq (sort_up sh.up) ?_
      refine ow_neInts ?_
      walk_at "wY1"
      refine ow_dispV (by decide) ?_
      walk_at "wY1"
      refine ow_eq (look3 hw) ?_
      rw [lo_look]
      walk_at "wY1"
      refine ow_dispV (by decide) ?_
      walk_at "wY1"
      refine ow_eq (look3 hw) ?_
      rw [hi_look]
      walk_at "wY1"
      refine sw_if ?_
      walk_at "wY1"
      refine iw_t (decide_eq_true (by have := sh.lo; omega)) ?_
      walk_at "wY1"
      refine iw_f (show (!decide ((x.shown.length : Int) ≤ (hiOf r x.word : Nat))) = false by rw [decide_eq_true (by have := sh.hi; omega)]; rfl) ?_
      walk_at "wY1"
      have ndl : x.shown.length ≤ 1000 := by
        have h1 := sh.hi
        have : hiOf r x.word ≤ 1000 := by
          have := g.o2; have := g.m2
          unfold hiOf
          split
          · omega
          · split <;> omega
        omega
      refine ow_eq (lenSet_ev rfl (lenSetI (sh.up.imp fun h e => by omega) ndl).2) ?_
      walk_at "wY1"
      refine iw_f (decide_eq_false (by omega)) ?_
      walk_at "wY1"
      refine ow_eq (last_tup sh.last) ?_
      walk_at "wY1"
      exact ⟨_, _, _, _, _, rfl⟩
    · refine iw_f (by rw [look3n (fun z => by rcases hw with y | y <;> rcases z with z | z | z <;> rw [y] at z <;> exact absurd z (by decide +kernel))]; rfl) ?_
      walk_at "wY1"
      refine sw_if ?_
      walk_at "wY1"
      refine ow_eq (x := PyData.bool false) (by rw [hs]; rfl) ?_
      walk_at "wY1"
      refine ow_eq (ninP (p := (x.day, x.word)) hmem) ?_
      walk_at "wY1"
      exact ⟨_, _, _, _, _, rfl⟩
  · rintro ds ⟨o5, o6, o7, o8, o9, rfl⟩
    walk_at "wY1"
    refine ow_lcAll t.fd eH (fun x => .str x.word) ?_
    walk_at "wY1"
    refine ⟨rfl, fun x hx => by walk_at "wY1"; rfl, ?_⟩
    walk_at "wY1"
    refine sw_if ?_
    walk_at "wY1"
    refine ow_lcSome (List.range t.fd.length) (fun k => .int (k : Nat)) (fun _ => false) (fun k => .int (k : Nat)) ?_
    walk_at "wY1"
    refine ow_rng1 (n := t.fd.length) (by have := (runR_inv ht).len; omega) ?_
    refine ⟨rfl, fun k hk => ?_, ?_⟩
    · have hk := List.mem_range.mp hk
      have hx : t.fd[k]? = some t.fd[k] := List.getElem?_eq_getElem hk
      have alt := (run_alt ht).2 k _ hx
      walk_at "wY1"
      refine ow_eq (x := PyData.str t.fd[k].word) (ixL_nat (by rw [List.getElem?_map, hx]; rfl)) ?_
      generalize t.fd[k] = x at alt
      walk_at "wY1"
      have ee : decide (x.word = ("earned" : Str)) = decide ((k : Int) % 2 = 0) := decide_eq_decide.mpr (alt.trans (by omega))
      rw [ee]
      refine ow_eq (x := PyData.bool false) (by cases decide ((k : Int) % 2 = 0) <;> rfl) ?_
      walk_at "wY1"
      exact ⟨rfl, nofun⟩
    rw [show (List.range t.fd.length).filter (fun _ => false) = [] from List.filter_eq_nil_iff.mpr fun _ _ h => by cases h]
    walk_at "wY1"
    refine ow_eq (x := PyData.bool false) rfl ?_
    walk_at "wY1"
    refine sw_if ?_
    walk_at "wY1"
    have fH : ∀ x ∈ t.fd, (x.word = "earned" ∨ x.word = "missed" ∨ x.word = "away") → kwOf x.word ∈ (l.filter heldP).map (·.2) := fun x hx hw => by
      rcases run_kind g gl ht hx with ⟨_, sh⟩ | ⟨hw2, _, _⟩
      · exact sh.word (kw_held hw)
      · rcases hw2 with y | y <;> rcases hw with z | z | z <;> rw [y] at z <;> exact absurd z (by decide +kernel)
    have fA : ("away" : Str) ∈ t.fd.map (·.word) → ("told" : Str) ∈ (l.filter heldP).map (·.2) := fun h => by
      obtain ⟨x, hx, e⟩ := List.mem_map.mp h
      have := fH x hx (.inr (.inr e))
      rw [e, kw_awy] at this
      exact this
    have fM : ("missed" : Str) ∈ t.fd.map (·.word) → ("missed" : Str) ∈ (l.filter heldP).map (·.2) := fun h => by
      obtain ⟨x, hx, e⟩ := List.mem_map.mp h
      have := fH x hx (.inr (.inl e))
      rw [e, kw_mis] at this
      exact this
    have fE : t.fd ≠ [] → ("came" : Str) ∈ (l.filter heldP).map (·.2) := fun h => by
      cases hz : t.fd with
      | nil => exact absurd hz h
      | cons x xs =>
        have e := ((run_alt ht).2 0 x (by rw [hz]; rfl)).mpr rfl
        have := fH x (by rw [hz]; simp) (.inl e)
        rw [e, kw_ear] at this
        exact this
    rw [show t.fd.map (fun x => PyData.str x.word) = (t.fd.map (·.word)).map .str by rw [List.map_map]; rfl]
    refine ow_inVals (x := "told") rfl rfl (wKv_vals l) ?_
    walk_at "wY1"
    refine ⟨fun h => ?_, fun h => ?_⟩
    · have n1 : ¬ ("told" : Str) ∈ (l.filter heldP).map (·.2) := fun z => by
        have h : (!decide (("told" : Str) ∈ (l.filter heldP).map (·.2))) = true := h
        rw [decide_eq_true z] at h
        cases h
      walk_at "wY1"
      refine ow_eq (inL "away" (t.fd.map (·.word))) ?_
      rw [decide_eq_false fun z => n1 (fA z)]
      walk_at "wY1"
      refine ow_inVals (x := "missed") rfl rfl (wKv_vals l) ?_
      walk_at "wY1"
      refine ⟨fun h2 => ?_, fun h2 => ?_⟩
      · have n2 : ¬ ("missed" : Str) ∈ (l.filter heldP).map (·.2) := fun z => by
          have h2 : (!decide (("missed" : Str) ∈ (l.filter heldP).map (·.2))) = true := h2
          rw [decide_eq_true z] at h2
          cases h2
        walk_at "wY1"
        refine ow_eq (inL "missed" (t.fd.map (·.word))) ?_
        rw [decide_eq_false fun z => n2 (fM z)]
        walk_at "wY1"
        refine ow_inVals (x := "came") rfl rfl (wKv_vals l) ?_
        walk_at "wY1"
        refine ⟨fun h3 => ?_, fun h3 => ?_⟩
        · have h3 : decide (("came" : Str) ∈ (l.filter heldP).map (·.2)) = true := h3
          refine ⟨rfl, ?_⟩
          show MO.d (PyData.bool (decide (("came" : Str) ∈ (l.filter heldP).map (·.2)))) = _
          rw [h3]
        · have h3 : decide (("came" : Str) ∈ (l.filter heldP).map (·.2)) = false := h3
          have hz : t.fd = [] := Classical.byContradiction fun z => (of_decide_eq_false h3) (fE z)
          rw [hz]
          walk_at "wY1"
          refine ow_eq (x := PyData.bool true) rfl ?_
          walk_at "wY1"
          rfl
      · walk_at "wY1"
        refine ow_inVals (x := "came") rfl rfl (wKv_vals l) ?_
        walk_at "wY1"
        refine ⟨fun h3 => ?_, fun h3 => ?_⟩
        · have h3 : decide (("came" : Str) ∈ (l.filter heldP).map (·.2)) = true := h3
          refine ⟨rfl, ?_⟩
          show MO.d (PyData.bool (decide (("came" : Str) ∈ (l.filter heldP).map (·.2)))) = _
          rw [h3]
        · have h3 : decide (("came" : Str) ∈ (l.filter heldP).map (·.2)) = false := h3
          have hz : t.fd = [] := Classical.byContradiction fun z => (of_decide_eq_false h3) (fE z)
          rw [hz]
          walk_at "wY1"
          refine ow_eq (x := PyData.bool true) rfl ?_
          walk_at "wY1"
          rfl
    · walk_at "wY1"
      refine ow_inVals (x := "missed") rfl rfl (wKv_vals l) ?_
      walk_at "wY1"
      refine ⟨fun h2 => ?_, fun h2 => ?_⟩
      · have n2 : ¬ ("missed" : Str) ∈ (l.filter heldP).map (·.2) := fun z => by
          have h2 : (!decide (("missed" : Str) ∈ (l.filter heldP).map (·.2))) = true := h2
          rw [decide_eq_true z] at h2
          cases h2
        walk_at "wY1"
        refine ow_eq (inL "missed" (t.fd.map (·.word))) ?_
        rw [decide_eq_false fun z => n2 (fM z)]
        walk_at "wY1"
        refine ow_inVals (x := "came") rfl rfl (wKv_vals l) ?_
        walk_at "wY1"
        refine ⟨fun h3 => ?_, fun h3 => ?_⟩
        · have h3 : decide (("came" : Str) ∈ (l.filter heldP).map (·.2)) = true := h3
          refine ⟨rfl, ?_⟩
          show MO.d (PyData.bool (decide (("came" : Str) ∈ (l.filter heldP).map (·.2)))) = _
          rw [h3]
        · have h3 : decide (("came" : Str) ∈ (l.filter heldP).map (·.2)) = false := h3
          have hz : t.fd = [] := Classical.byContradiction fun z => (of_decide_eq_false h3) (fE z)
          rw [hz]
          walk_at "wY1"
          refine ow_eq (x := PyData.bool true) rfl ?_
          walk_at "wY1"
          rfl
      · walk_at "wY1"
        refine ow_inVals (x := "came") rfl rfl (wKv_vals l) ?_
        walk_at "wY1"
        refine ⟨fun h3 => ?_, fun h3 => ?_⟩
        · have h3 : decide (("came" : Str) ∈ (l.filter heldP).map (·.2)) = true := h3
          refine ⟨rfl, ?_⟩
          show MO.d (PyData.bool (decide (("came" : Str) ∈ (l.filter heldP).map (·.2)))) = _
          rw [h3]
        · have h3 : decide (("came" : Str) ∈ (l.filter heldP).map (·.2)) = false := h3
          have hz : t.fd = [] := Classical.byContradiction fun z => (of_decide_eq_false h3) (fE z)
          rw [hz]
          walk_at "wY1"
          refine ow_eq (x := PyData.bool true) rfl ?_
          walk_at "wY1"
          rfl
theorem cut_neg1 (xs : List D) : DL.cutD xs none (some (-1)) = xs.take (xs.length - 1) := by
  unfold DL.cutD
  have h : HT.sIx xs.length xs.length (some (-1)) = xs.length - 1 := by
    unfold HT.sIx
    simp
    omega
  rw [h]
  show (xs.drop 0).take _ = _
  rw [List.drop_zero]
  rfl
theorem sl_neg1 (l : List HRow) : slA (.list (l.map eH)) none (some (-1)) = some (.list ((l.take (l.length - 1)).map eH)) := by
  show some (PyData.list (DL.cutD _ none (some (-1)))) = _
  rw [cut_neg1, List.length_map, List.map_take]
theorem split3 {l : List HRow} {k : Nat} {x y : HRow} : l.take k ++ y :: l.drop (k + 1) = (l.take k ++ [y]) ++ l.drop (k + 1) := by rw [List.append_assoc]; rfl
theorem noD_eH (x : HRow) : noD (eH x) = true := by
  have h : noDAll (x.shown.map .int) = true := noD_ints _
  show (true && (true && (noDAll (x.shown.map PyData.int) && true))) = true
  rw [h]
  rfl
theorem addH (l : List HRow) (x : HRow) (h : l.length + 1 ≤ 1000000) : addA (.list (l.map eH)) (.list [eH x]) = some (.list ((l ++ [x]).map eH)) := by
  have sz : (1000000 : Nat) ≤ sizeLine := by decide
  rw [addL_l (by rw [List.length_map]; simp; omega), List.map_append]
  rfl
theorem addHH (a b : List HRow) (h : a.length + b.length ≤ 1000000) : addA (.list (a.map eH)) (.list (b.map eH)) = some (.list ((a ++ b).map eH)) := by
  have sz : (1000000 : Nat) ≤ sizeLine := by decide
  rw [addL_l (by rw [List.length_map, List.length_map]; omega), List.map_append]
theorem ne_nilT (d : Int) (ds : List Int) : neD (.tuple ((d :: ds).map .int)) (.tuple []) = some (.bool true) := by
  unfold neD
  rw [if_pos ⟨Nat.le_trans (Nat.min_le_right _ _) (by decide), noD_ints _, rfl⟩]
  rfl
theorem w_checked {B : Nat} {s : List (Key × D)} {r : Rl} {l : List Pr} {t : RS} {Q : MO St2 → List (Key × D) → Prop} (w : SK (B + 1) s) (g : GRl r) (gl : GLn l) (hl : l.length ≤ 400) (ht : runR r l l.length = some t) (q : ∀ s', SK B s' → Q (.d (.bool true)) s') : PW2 (F_law_checked_right s [encRl r, .tuple (l.map eP), .list (t.fd.map eH)]) Q := by
  have sz : (1000000 : Nat) ≤ sizeLine := by decide
  have tl : t.fd.length ≤ 400 := by have := (runR_inv ht).len; omega
  unfold F_law_checked_right g_law_checked_right
  refine pw_runV [some (.dic s), some (.d (encRl r)), some (.d (.tuple (l.map eP))), some (.d (.list (t.fd.map eH))), none, none, none, none, none, none] rfl ?_
  walk_at "wY1"
  refine sw_if ?_
  walk_at "wY1"
  refine ow_eq (refused_ok g gl ht (m := t.fd) (by omega)) ?_
  rw [chk_self]
  walk_at "wY1"
  refine iw_f (by decide) ?_
  walk_at "wY1"
  refine ow_eq (show addA (.list (t.fd.map eH)) (.list [.tuple [.int 0, .str "given", .tuple []]]) = some (.list ((t.fd ++ [(⟨0, "given", []⟩ : HRow)]).map eH)) from addH t.fd ⟨0, "given", []⟩ (by omega)) ?_
  walk_at "wY1"
  refine ow_eq (refused_ok g gl ht (m := t.fd ++ [(⟨0, "given", []⟩ : HRow)]) (by rw [List.length_append, List.length_singleton]; omega)) ?_
  rw [chk_more]
  walk_at "wY1"
  refine iw_f (by unfold rfI; rw [decide_eq_true rfl]; rfl) ?_
  walk_at "wY1"
  refine sw_if ?_
  walk_at "wY1"
  refine ow_eq (eq_nilL (noDAll_of noD_eH t.fd)) ?_
  walk_at "wY1"
  cases hz : t.fd with
  | nil =>
    refine iw_t rfl ?_
    walk_at "wY1"
    exact q s (w.mono (by omega))
  | cons x0 xs0 =>
  have hpos : 0 < t.fd.length := by rw [hz]; exact Nat.succ_pos _
  rw [← hz]
  refine iw_f (by rw [hz]; rfl) ?_
  walk_at "wY1"
  refine w_next w (by omega) (by omega) fun r1 s1 a1 b1 w => ?_
  walk_at "wY1"
  obtain ⟨k, rfl⟩ := Int.eq_ofNat_of_zero_le a1
  have hk : k < t.fd.length := by omega
  have hx : t.fd[k]? = some t.fd[k] := List.getElem?_eq_getElem hk
  refine ow_eq (x := eH t.fd[k]) (ixL_nat (by rw [List.getElem?_map, hx]; rfl)) ?_
  generalize t.fd[k] = x at hx
  have tkl : (t.fd.take k).length ≤ 400 := by rw [List.length_take]; omega
  have drl : (t.fd.drop (k + 1)).length ≤ 400 := by rw [List.length_drop]; omega
  walk_at "wY1"
  refine ow_eq (sl_takeH t.fd k) ?_
  walk_at "wY1"
  refine ow_eq (show _ = some (PyData.list ((t.fd.take k ++ [(⟨x.day + 1, x.word, x.shown⟩ : HRow)]).map eH)) from addH (t.fd.take k) ⟨x.day + 1, x.word, x.shown⟩ (by omega)) ?_
  walk_at "wY1"
  refine ow_eq (show _ = some (PyData.list ((t.fd.drop (k + 1)).map eH)) from sl_dropH t.fd (k + 1)) ?_
  refine ow_eq (addHH _ _ (by rw [List.length_append, List.length_singleton]; omega)) ?_
  rw [← split3 (x := x)]
  walk_at "wY1"
  refine sw_if ?_
  walk_at "wY1"
  refine ow_eq (refused_ok g gl ht (m := t.fd.take k ++ (⟨x.day + 1, x.word, x.shown⟩ : HRow) :: t.fd.drop (k + 1)) (by rw [List.length_append, List.length_cons]; omega)) ?_
  rw [chk_other hx (fun z => by have := congrArg HRow.day z; have this : x.day + 1 = x.day := this; omega)]
  walk_at "wY1"
  refine iw_f (by unfold rfI; rw [decide_eq_true rfl]; rfl) ?_
  walk_at "wY1"
  refine ow_eq (sl_neg1 t.fd) ?_
  walk_at "wY1"
  refine ow_eq (refused_ok g gl ht (m := t.fd.take (t.fd.length - 1)) (by rw [List.length_take]; omega)) ?_
  rw [chk_less (show t.fd.length - 1 < t.fd.length by omega)]
  walk_at "wY1"
  refine iw_f (show (!decide (((t.fd.length - 1 : Nat) : Int) = (t.fd.length : Int) - 1)) = false by rw [decide_eq_true (by omega)]; rfl) ?_
  walk_at "wY1"
  refine ow_eq (sl_takeH t.fd k) ?_
  walk_at "wY1"
  cases hsh : x.shown with
  | nil =>
    refine ow_eq (x := PyData.bool false) rfl ?_
    walk_at "wY1"
    refine ow_eq (show _ = some (PyData.list ((t.fd.take k ++ [(⟨x.day, x.word, [x.day]⟩ : HRow)]).map eH)) from addH (t.fd.take k) ⟨x.day, x.word, [x.day]⟩ (by omega)) ?_
    walk_at "wY1"
    refine ow_eq (show _ = some (PyData.list ((t.fd.drop (k + 1)).map eH)) from sl_dropH t.fd (k + 1)) ?_
    refine ow_eq (addHH _ _ (by rw [List.length_append, List.length_singleton]; omega)) ?_
    rw [← split3 (x := x)]
    walk_at "wY1"
    refine ow_eq (refused_ok g gl ht (m := t.fd.take k ++ (⟨x.day, x.word, [x.day]⟩ : HRow) :: t.fd.drop (k + 1)) (by rw [List.length_append, List.length_cons]; omega)) ?_
    rw [chk_other hx (fun z => by have z := congrArg HRow.shown z; have z : [x.day] = x.shown := z; rw [hsh] at z; have z := congrArg List.length z; simp at z)]
    walk_at "wY1"
    rw [show decide (rfI (some k) = ((k : Nat) : Int)) = true from decide_eq_true rfl]
    exact q s1 w
  | cons d0 ds0 =>
    refine ow_eq (x := PyData.bool true) (ne_nilT d0 ds0) ?_
    walk_at "wY1"
    refine ow_eq (show _ = some (PyData.tuple (ds0.map .int)) from by show some (PyData.tuple (DL.cutD _ (some ((1 : Nat) : Int)) none)) = _; rw [cut_from]; rfl) ?_
    walk_at "wY1"
    refine ow_eq (show _ = some (PyData.list ((t.fd.take k ++ [(⟨x.day, x.word, ds0⟩ : HRow)]).map eH)) from addH (t.fd.take k) ⟨x.day, x.word, ds0⟩ (by omega)) ?_
    walk_at "wY1"
    refine ow_eq (show _ = some (PyData.list ((t.fd.drop (k + 1)).map eH)) from sl_dropH t.fd (k + 1)) ?_
    refine ow_eq (addHH _ _ (by rw [List.length_append, List.length_singleton]; omega)) ?_
    rw [← split3 (x := x)]
    walk_at "wY1"
    refine ow_eq (refused_ok g gl ht (m := t.fd.take k ++ (⟨x.day, x.word, ds0⟩ : HRow) :: t.fd.drop (k + 1)) (by rw [List.length_append, List.length_cons]; omega)) ?_
    rw [chk_other hx (fun z => by have z := congrArg HRow.shown z; have z : ds0 = x.shown := z; rw [hsh] at z; have z := congrArg List.length z; simp at z)]
    walk_at "wY1"
    rw [show decide (rfI (some k) = ((k : Nat) : Int)) = true from decide_eq_true rfl]
    exact q s1 w
theorem state_ok (ns : List Int) : F_law_state [.list (ns.map .int)] = some (.dic (stK ns 0 0 0)) := by
  refine ow_get ?_
  unfold F_law_state g_law_state
  refine ow_runP [some (.d (.list (ns.map .int)))] rfl ?_
  walk_at "wY1"
  rfl
theorem sl_neg1P (l : List Pr) : slA (.tuple (l.map eP)) none (some (-1)) = some (.tuple ((l.take (l.length - 1)).map eP)) := by
  show some (PyData.tuple (DL.cutD _ none (some (-1)))) = _
  rw [cut_neg1, List.length_map, List.map_take]
theorem gln_more {l : List Pr} (g : GLn l) (hl : l.length ≤ 1000) (h5 : ∀ p ∈ l, p.1 ≤ 5000) : GLn (l.take (l.length - 1) ++ [(9999, ("given" : Str))]) := by
  have ln := (gln_ln (gln_take g (l.length - 1))).app (p := (9999, ("given" : Str))) ⟨by decide, by decide, by show ("given" : Str) ∈ W5; decide +kernel⟩ fun q hq => by
    rw [List.getLast?_eq_getElem?, List.length_take, Nat.min_eq_left (by omega)] at hq
    have h2 := (List.getElem?_eq_some_iff.mp hq).1
    rw [List.length_take] at h2
    rw [List.getElem?_take_of_lt (by omega)] at hq
    have hl2 : l[l.length - 1 - 1 + 1]? = some l[l.length - 1 - 1 + 1] := List.getElem?_eq_getElem (by omega)
    have := h5 q (List.mem_of_getElem? hq)
    exact ⟨(g.nx _ q _ hq hl2).1, .inl (by show q.1 < 9999; omega)⟩
  exact ⟨by rw [List.length_append, List.length_take, List.length_singleton]; omega, ln.all, ln.nx⟩
theorem plain (ns : List Int) (hn : ns.length ≤ 63) : F_law ns [] = some (.d (.bool true)) := by
  refine ow_get ?_
  unfold F_law g_law
  refine ow_runC [some (.scr ns), none, none, none, none, none] rfl ?_
  walk_at "wY1"
  refine ow_scSl (ns := ns) rfl (by have : (1000000 : Nat) ≤ sizeLine := (by decide); omega) ?_
  walk_at "wY1"
  have c63 : DL.cutD (ns.map PyData.int) none (some 63) = ns.map .int := by
    unfold DL.cutD
    rw [show (some (63 : Int)) = some ((63 : Nat) : Int) from rfl, HT.sIx_nat, HT.sIx_none, List.drop_zero]
    exact List.take_of_length_le (by rw [List.length_map]; omega)
  rw [c63]
  refine ow_eq (state_ok ns) ?_
  walk_at "wY1"
  rw [show (2 + if (ns.length : Int) / 8 < 3 then (ns.length : Int) / 8 else 3) = ((2 + min 3 (ns.length / 8) : Nat) : Int) by split <;> omega]
  refine ow_rng1 (by omega) ?_
  generalize hN : 2 + min 3 (ns.length / 8) = N
  have hN8 : N ≤ 8 := by omega
  walk_at "wY1"
  refine fw_xs (List.range N) rfl (fun n ds => ∃ s o2 o3 o4 o5, SK (3000 * (N - n)) s ∧ ds = [some (.scr ns), some (.dic s), o2, o3, o4, o5]) ⟨_, _, _, _, _, ⟨ns, 0, 0, 0, rfl, by decide, by omega, by decide, by decide, hn⟩, rfl⟩ ?_ ?_
  · rintro n k hk ds ⟨s, o2, o3, o4, o5, w, rfl⟩
    obtain ⟨hn2, _⟩ := List.getElem?_eq_some_iff.mp hk
    rw [List.length_range] at hn2
    have w : SK (3000 * (N - (n + 1)) + 2990 + 8) s := w.mono (by omega)
    walk_at "wY1"
    refine w_rules w fun r s1 g w => ?_
    walk_at "wY1"
    refine w_next (by exact w.mono (by omega) : SK (3000 * (N - (n + 1)) + 2980 + 1) _) (by decide) (by decide) fun r1 s2 a1 b1 w => ?_
    walk_at "wY1"
    obtain ⟨y1, e1, h1⟩ := ix2 (a := 30) (b := 85) (r := r1 / 3) (by omega) (by omega)
    refine ow_eq e1 ?_
    walk_at "wY1"
    refine w_next (by exact w.mono (by omega) : SK (3000 * (N - (n + 1)) + 2970 + 1) _) (by omega) (by omega) fun r2 s3 a2 b2 w => ?_
    walk_at "wY1"
    obtain ⟨j, rfl⟩ := Int.eq_ofNat_of_zero_le a2
    rw [show (6 : Int) + ((j : Nat) : Int) = ((6 + j : Nat) : Int) by omega]
    have hj : j < 85 := by omega
    refine w_line (B := 3000 * (N - (n + 1)) + 2200) (N := 6 + j) (w.mono (by omega)) (by omega) g fun l s4 gl hl ⟨t, ht⟩ h5 w => ?_
    have hl4 : l.length ≤ 190 := by omega
    walk_at "wY1"
    refine ow_eq (rows_ok g gl ht) ?_
    walk_at "wY1"
    refine sw_if ?_
    walk_at "wY1"
    refine ow_eq (okX_ok (needLine_ok gl)) ?_
    walk_at "wY1"
    refine ow_eq (shown_ok g gl (by omega) ht) ?_
    walk_at "wY1"
    refine sw_if ?_
    walk_at "wY1"
    refine w_cuts (B := 3000 * (N - (n + 1)) + 2000) (w.mono (by omega)) g gl (by omega) ht fun s5 w => ?_
    walk_at "wY1"
    refine ow_eq (rests_ok g gl (by omega) ht) ?_
    walk_at "wY1"
    refine sw_if ?_
    walk_at "wY1"
    refine w_renamed (B := 3000 * (N - (n + 1)) + 1000) (w.mono (by omega)) g gl (by omega) ht fun s6 w => ?_
    walk_at "wY1"
    refine w_checked (B := 3000 * (N - (n + 1))) (w.mono (by omega)) g gl (by omega) ht fun s7 w => ?_
    walk_at "wY1"
    refine sw_if ?_
    walk_at "wY1"
    refine ow_eq (sl_neg1P l) ?_
    walk_at "wY1"
    obtain ⟨t', ht'⟩ := run_le ht (n := l.length - 1) (by omega)
    have hll : (l.take (l.length - 1)).length = l.length - 1 := by rw [List.length_take]; omega
    have h' : runR r (l.take (l.length - 1)) (l.take (l.length - 1)).length = some t' := by rw [hll, runR_take (Nat.le_refl _)]; exact ht'
    have gl' := gln_take gl (l.length - 1)
    refine ow_eq (stands_ok g gl' h') ?_
    walk_at "wY1"
    cases he : t'.er with
    | some e0 =>
      refine iw_f rfl ?_
      walk_at "wY1"
      exact ⟨_, _, _, _, _, w, rfl⟩
    | none =>
      refine iw_t rfl ?_
      walk_at "wY1"
      refine ow_eq (sl_neg1P l) ?_
      walk_at "wY1"
      refine addP (by rw [hll]; omega) ?_
      walk_at "wY1"
      refine ow_eq (noLine_ok g (gln_more gl (by omega) h5) h' he) ?_
      walk_at "wY1"
      exact ⟨_, _, _, _, _, w, rfl⟩
  · rintro ds ⟨s, o2, o3, o4, o5, w, rfl⟩
    walk_at "wY1"
    rfl
theorem all_mk {l : PySem.W.OpenLaw} {w : World} {K : PySem.W.Frag} {h : Heap} {mg : Str → Option Value} {fa f1 f2 f3 f4 f5 f6 f7 f8 f9 f10 f11 f12 f13 f14 f15 f16 f17 f18 f19 f20 f21 f22 f23 f24 f25 f26 f27 f28 : Addr} (X : K.In h) (G : h.Ns mainGlobals mg) (hfa : mg "law" = some (.ref fa))
    {od1 an1 od2 an2 od3 an3 od4 an4 od5 an5 od6 an6 od7 an7 od8 an8 od9 an9 od10 an10 od11 an11 od12 an12 od13 an13 od14 an14 od15 an15 od16 an16 od17 an17 od18 an18 od19 an19 od20 an20 od21 an21 od22 an22 od23 an23 od24 an24 od25 an25 od26 an26 od27 an27 od28 an28 : Option Addr} {sl1 sl2 sl3 sl4 sl5 sl6 sl7 sl8 sl9 sl10 sl11 sl12 sl13 sl14 sl15 sl16 sl17 sl18 sl19 sl20 sl21 sl22 sl23 sl24 sl25 sl26 sl27 sl28 : Array (Option Value)} {oc1 kV1 dc1 pm1 cd1 ct1 oc2 kV2 dc2 pm2 cd2 ct2 oc3 kV3 dc3 pm3 cd3 ct3 oc4 kV4 dc4 pm4 cd4 ct4 oc5 kV5 dc5 pm5 cd5 ct5 oc6 kV6 dc6 pm6 cd6 ct6 oc7 kV7 dc7 pm7 cd7 ct7 oc8 kV8 dc8 pm8 cd8 ct8 oc9 kV9 dc9 pm9 cd9 ct9 oc10 kV10 dc10 pm10 cd10 ct10 oc11 kV11 dc11 pm11 cd11 ct11 oc12 kV12 dc12 pm12 cd12 ct12 oc13 kV13 dc13 pm13 cd13 ct13 oc14 kV14 dc14 pm14 cd14 ct14 oc15 kV15 dc15 pm15 cd15 ct15 oc16 kV16 dc16 pm16 cd16 ct16 oc17 kV17 dc17 pm17 cd17 ct17 oc18 kV18 dc18 pm18 cd18 ct18 oc19 kV19 dc19 pm19 cd19 ct19 oc20 kV20 dc20 pm20 cd20 ct20 oc21 kV21 dc21 pm21 cd21 ct21 oc22 kV22 dc22 pm22 cd22 ct22 oc23 kV23 dc23 pm23 cd23 ct23 oc24 kV24 dc24 pm24 cd24 ct24 oc25 kV25 dc25 pm25 cd25 ct25 oc26 kV26 dc26 pm26 cd26 ct26 oc27 kV27 dc27 pm27 cd27 ct27 oc28 kV28 dc28 pm28 cd28 ct28 : Value} {t_MOST_OF t_MOST_DAY t_MOST_PAIRS : Tok} {d_LINE_WORDS : Addr} {e_LINE_WORDS : Array Value} {n_LINE_WORDS : Nat} {s_LINE_WORDS : Array (Option Value)} {d_ROLL_WORDS : Addr} {e_ROLL_WORDS : Array Value} {n_ROLL_WORDS : Nat} {s_ROLL_WORDS : Array (Option Value)} {c_BadRules c_BadLineup c_BadHistory c_MarketError : Addr} {o_Roll : Addr} {nm_BadHistory q_BadHistory : Str} {N_BadHistory fi_BadHistory : Addr} {bs_BadHistory sub_BadHistory : List Value} {sn_BadHistory : List Str} {ab_BadHistory : Bool} {col_BadHistory : Option Bool} {dd_BadHistory odi_BadHistory ani_BadHistory : Option Addr} {k0_BadHistory k1_BadHistory k2_BadHistory k3_BadHistory k5_BadHistory : Option Value} {oci_BadHistory kVi_BadHistory dci_BadHistory pmi_BadHistory cdi_BadHistory cti_BadHistory : Value} {sli_BadHistory : Array (Option Value)}
    (a1 : PySem.W.nsIn K mainGlobals "is_whole" = some (some (.ref f1)))
    (l1 : K.lookup f1 = some ⟨oc1, od1, .func (PySem.W.fnOf "is_whole" "is_whole" (defArgs st_is_whole) (defBody st_is_whole) (defScope st_is_whole) .none kV1 dc1 pm1 an1 cd1 ct1), sl1⟩) (c1 : PySem.W.codeIn K cd1 "is_whole" = true) (k1 : PySem.W.keepIn K (.ref f1) = true)
    (a2 : PySem.W.nsIn K mainGlobals "need_rules" = some (some (.ref f2)))
    (l2 : K.lookup f2 = some ⟨oc2, od2, .func (PySem.W.fnOf "need_rules" "need_rules" (defArgs st_need_rules) (defBody st_need_rules) (defScope st_need_rules) .none kV2 dc2 pm2 an2 cd2 ct2), sl2⟩) (c2 : PySem.W.codeIn K cd2 "need_rules" = true) (k2 : PySem.W.keepIn K (.ref f2) = true)
    (a3 : PySem.W.nsIn K mainGlobals "is_pair" = some (some (.ref f3)))
    (l3 : K.lookup f3 = some ⟨oc3, od3, .func (PySem.W.fnOf "is_pair" "is_pair" (defArgs st_is_pair) (defBody st_is_pair) (defScope st_is_pair) .none kV3 dc3 pm3 an3 cd3 ct3), sl3⟩) (c3 : PySem.W.codeIn K cd3 "is_pair" = true) (k3 : PySem.W.keepIn K (.ref f3) = true)
    (a4 : PySem.W.nsIn K mainGlobals "may_follow" = some (some (.ref f4)))
    (l4 : K.lookup f4 = some ⟨oc4, od4, .func (PySem.W.fnOf "may_follow" "may_follow" (defArgs st_may_follow) (defBody st_may_follow) (defScope st_may_follow) .none kV4 dc4 pm4 an4 cd4 ct4), sl4⟩) (c4 : PySem.W.codeIn K cd4 "may_follow" = true) (k4 : PySem.W.keepIn K (.ref f4) = true)
    (a5 : PySem.W.nsIn K mainGlobals "need_line" = some (some (.ref f5)))
    (l5 : K.lookup f5 = some ⟨oc5, od5, .func (PySem.W.fnOf "need_line" "need_line" (defArgs st_need_line) (defBody st_need_line) (defScope st_need_line) .none kV5 dc5 pm5 an5 cd5 ct5), sl5⟩) (c5 : PySem.W.codeIn K cd5 "need_line" = true) (k5 : PySem.W.keepIn K (.ref f5) = true)
    (a6 : PySem.W.nsIn K mainGlobals "days_of" = some (some (.ref f6)))
    (l6 : K.lookup f6 = some ⟨oc6, od6, .func (PySem.W.fnOf "days_of" "days_of" (defArgs st_days_of) (defBody st_days_of) (defScope st_days_of) .none kV6 dc6 pm6 an6 cd6 ct6), sl6⟩) (c6 : PySem.W.codeIn K cd6 "days_of" = true) (k6 : PySem.W.keepIn K (.ref f6) = true)
    (a7 : PySem.W.findIn K (.ref o_Roll) "__init__" = some (some (.ref f7))) (i7 : PySem.W.isFn K (.ref f7) = true)
    (l7 : K.lookup f7 = some ⟨oc7, od7, .func (PySem.W.fnOf "__init__" "Roll.__init__" (defArgs st_Roll___init__) (defBody st_Roll___init__) (defScope st_Roll___init__) .none kV7 dc7 pm7 an7 cd7 ct7), sl7⟩) (c7 : PySem.W.codeIn K cd7 "Roll.__init__" = true) (k7 : PySem.W.keepIn K (.ref f7) = true)
    (a8 : PySem.W.findIn K (.ref o_Roll) "has_standing" = some (some (.ref f8))) (i8 : PySem.W.isFn K (.ref f8) = true)
    (l8 : K.lookup f8 = some ⟨oc8, od8, .func (PySem.W.fnOf "has_standing" "Roll.has_standing" (defArgs st_Roll_has_standing) (defBody st_Roll_has_standing) (defScope st_Roll_has_standing) .none kV8 dc8 pm8 an8 cd8 ct8), sl8⟩) (c8 : PySem.W.codeIn K cd8 "Roll.has_standing" = true) (k8 : PySem.W.keepIn K (.ref f8) = true)
    (a9 : PySem.W.findIn K (.ref o_Roll) "emptied" = some (some (.ref f9))) (i9 : PySem.W.isFn K (.ref f9) = true)
    (l9 : K.lookup f9 = some ⟨oc9, od9, .func (PySem.W.fnOf "emptied" "Roll.emptied" (defArgs st_Roll_emptied) (defBody st_Roll_emptied) (defScope st_Roll_emptied) .none kV9 dc9 pm9 an9 cd9 ct9), sl9⟩) (c9 : PySem.W.codeIn K cd9 "Roll.emptied" = true) (k9 : PySem.W.keepIn K (.ref f9) = true)
    (a10 : PySem.W.findIn K (.ref o_Roll) "lost_by" = some (some (.ref f10))) (i10 : PySem.W.isFn K (.ref f10) = true)
    (l10 : K.lookup f10 = some ⟨oc10, od10, .func (PySem.W.fnOf "lost_by" "Roll.lost_by" (defArgs st_Roll_lost_by) (defBody st_Roll_lost_by) (defScope st_Roll_lost_by) .none kV10 dc10 pm10 an10 cd10 ct10), sl10⟩) (c10 : PySem.W.codeIn K cd10 "Roll.lost_by" = true) (k10 : PySem.W.keepIn K (.ref f10) = true)
    (a11 : PySem.W.findIn K (.ref o_Roll) "came_days" = some (some (.ref f11))) (i11 : PySem.W.isFn K (.ref f11) = true)
    (l11 : K.lookup f11 = some ⟨oc11, od11, .func (PySem.W.fnOf "came_days" "Roll.came_days" (defArgs st_Roll_came_days) (defBody st_Roll_came_days) (defScope st_Roll_came_days) .none kV11 dc11 pm11 an11 cd11 ct11), sl11⟩) (c11 : PySem.W.codeIn K cd11 "Roll.came_days" = true) (k11 : PySem.W.keepIn K (.ref f11) = true)
    (a12 : PySem.W.findIn K (.ref o_Roll) "went_on" = some (some (.ref f12))) (i12 : PySem.W.isFn K (.ref f12) = true)
    (l12 : K.lookup f12 = some ⟨oc12, od12, .func (PySem.W.fnOf "went_on" "Roll.went_on" (defArgs st_Roll_went_on) (defBody st_Roll_went_on) (defScope st_Roll_went_on) .none kV12 dc12 pm12 an12 cd12 ct12), sl12⟩) (c12 : PySem.W.codeIn K cd12 "Roll.went_on" = true) (k12 : PySem.W.keepIn K (.ref f12) = true)
    (a13 : PySem.W.nsIn K mainGlobals "rows_by" = some (some (.ref f13)))
    (l13 : K.lookup f13 = some ⟨oc13, od13, .func (PySem.W.fnOf "rows_by" "rows_by" (defArgs st_rows_by) (defBody st_rows_by) (defScope st_rows_by) .none kV13 dc13 pm13 an13 cd13 ct13), sl13⟩) (c13 : PySem.W.codeIn K cd13 "rows_by" = true) (k13 : PySem.W.keepIn K (.ref f13) = true)
    (a14 : PySem.W.nsIn K mainGlobals "is_row" = some (some (.ref f14)))
    (l14 : K.lookup f14 = some ⟨oc14, od14, .func (PySem.W.fnOf "is_row" "is_row" (defArgs st_is_row) (defBody st_is_row) (defScope st_is_row) .none kV14 dc14 pm14 an14 cd14 ct14), sl14⟩) (c14 : PySem.W.codeIn K cd14 "is_row" = true) (k14 : PySem.W.keepIn K (.ref f14) = true)
    (a15 : PySem.W.nsIn K mainGlobals "check_rows" = some (some (.ref f15)))
    (l15 : K.lookup f15 = some ⟨oc15, od15, .func (PySem.W.fnOf "check_rows" "check_rows" (defArgs st_check_rows) (defBody st_check_rows) (defScope st_check_rows) .none kV15 dc15 pm15 an15 cd15 ct15), sl15⟩) (c15 : PySem.W.codeIn K cd15 "check_rows" = true) (k15 : PySem.W.keepIn K (.ref f15) = true)
    (a16 : PySem.W.nsIn K mainGlobals "_law_next" = some (some (.ref f16)))
    (l16 : K.lookup f16 = some ⟨oc16, od16, .func (PySem.W.fnOf "_law_next" "_law_next" (defArgs st_law_next) (defBody st_law_next) (defScope st_law_next) .none kV16 dc16 pm16 an16 cd16 ct16), sl16⟩) (c16 : PySem.W.codeIn K cd16 "_law_next" = true) (k16 : PySem.W.keepIn K (.ref f16) = true)
    (a17 : PySem.W.nsIn K mainGlobals "_law_state" = some (some (.ref f17)))
    (l17 : K.lookup f17 = some ⟨oc17, od17, .func (PySem.W.fnOf "_law_state" "_law_state" (defArgs st_law_state) (defBody st_law_state) (defScope st_law_state) .none kV17 dc17 pm17 an17 cd17 ct17), sl17⟩) (c17 : PySem.W.codeIn K cd17 "_law_state" = true) (k17 : PySem.W.keepIn K (.ref f17) = true)
    (a18 : PySem.W.nsIn K mainGlobals "_law_rules" = some (some (.ref f18)))
    (l18 : K.lookup f18 = some ⟨oc18, od18, .func (PySem.W.fnOf "_law_rules" "_law_rules" (defArgs st_law_rules) (defBody st_law_rules) (defScope st_law_rules) .none kV18 dc18 pm18 an18 cd18 ct18), sl18⟩) (c18 : PySem.W.codeIn K cd18 "_law_rules" = true) (k18 : PySem.W.keepIn K (.ref f18) = true)
    (a19 : PySem.W.nsIn K mainGlobals "_law_stands" = some (some (.ref f19)))
    (l19 : K.lookup f19 = some ⟨oc19, od19, .func (PySem.W.fnOf "_law_stands" "_law_stands" (defArgs st_law_stands) (defBody st_law_stands) (defScope st_law_stands) .none kV19 dc19 pm19 an19 cd19 ct19), sl19⟩) (c19 : PySem.W.codeIn K cd19 "_law_stands" = true) (k19 : PySem.W.keepIn K (.ref f19) = true)
    (a20 : PySem.W.nsIn K mainGlobals "_law_line" = some (some (.ref f20)))
    (l20 : K.lookup f20 = some ⟨oc20, od20, .func (PySem.W.fnOf "_law_line" "_law_line" (defArgs st_law_line) (defBody st_law_line) (defScope st_law_line) .none kV20 dc20 pm20 an20 cd20 ct20), sl20⟩) (c20 : PySem.W.codeIn K cd20 "_law_line" = true) (k20 : PySem.W.keepIn K (.ref f20) = true)
    (a21 : PySem.W.nsIn K mainGlobals "_law_refused" = some (some (.ref f21)))
    (l21 : K.lookup f21 = some ⟨oc21, od21, .func (PySem.W.fnOf "_law_refused" "_law_refused" (defArgs st_law_refused) (defBody st_law_refused) (defScope st_law_refused) .none kV21 dc21 pm21 an21 cd21 ct21), sl21⟩) (c21 : PySem.W.codeIn K cd21 "_law_refused" = true) (k21 : PySem.W.keepIn K (.ref f21) = true)
    (a22 : PySem.W.nsIn K mainGlobals "_law_is_no_line" = some (some (.ref f22)))
    (l22 : K.lookup f22 = some ⟨oc22, od22, .func (PySem.W.fnOf "_law_is_no_line" "_law_is_no_line" (defArgs st_law_is_no_line) (defBody st_law_is_no_line) (defScope st_law_is_no_line) .none kV22 dc22 pm22 an22 cd22 ct22), sl22⟩) (c22 : PySem.W.codeIn K cd22 "_law_is_no_line" = true) (k22 : PySem.W.keepIn K (.ref f22) = true)
    (a23 : PySem.W.nsIn K mainGlobals "_law_cuts_right" = some (some (.ref f23)))
    (l23 : K.lookup f23 = some ⟨oc23, od23, .func (PySem.W.fnOf "_law_cuts_right" "_law_cuts_right" (defArgs st_law_cuts_right) (defBody st_law_cuts_right) (defScope st_law_cuts_right) .none kV23 dc23 pm23 an23 cd23 ct23), sl23⟩) (c23 : PySem.W.codeIn K cd23 "_law_cuts_right" = true) (k23 : PySem.W.keepIn K (.ref f23) = true)
    (a24 : PySem.W.nsIn K mainGlobals "_law_rests_right" = some (some (.ref f24)))
    (l24 : K.lookup f24 = some ⟨oc24, od24, .func (PySem.W.fnOf "_law_rests_right" "_law_rests_right" (defArgs st_law_rests_right) (defBody st_law_rests_right) (defScope st_law_rests_right) .none kV24 dc24 pm24 an24 cd24 ct24), sl24⟩) (c24 : PySem.W.codeIn K cd24 "_law_rests_right" = true) (k24 : PySem.W.keepIn K (.ref f24) = true)
    (a25 : PySem.W.nsIn K mainGlobals "_law_renamed_right" = some (some (.ref f25)))
    (l25 : K.lookup f25 = some ⟨oc25, od25, .func (PySem.W.fnOf "_law_renamed_right" "_law_renamed_right" (defArgs st_law_renamed_right) (defBody st_law_renamed_right) (defScope st_law_renamed_right) .none kV25 dc25 pm25 an25 cd25 ct25), sl25⟩) (c25 : PySem.W.codeIn K cd25 "_law_renamed_right" = true) (k25 : PySem.W.keepIn K (.ref f25) = true)
    (a26 : PySem.W.nsIn K mainGlobals "_law_shown_right" = some (some (.ref f26)))
    (l26 : K.lookup f26 = some ⟨oc26, od26, .func (PySem.W.fnOf "_law_shown_right" "_law_shown_right" (defArgs st_law_shown_right) (defBody st_law_shown_right) (defScope st_law_shown_right) .none kV26 dc26 pm26 an26 cd26 ct26), sl26⟩) (c26 : PySem.W.codeIn K cd26 "_law_shown_right" = true) (k26 : PySem.W.keepIn K (.ref f26) = true)
    (a27 : PySem.W.nsIn K mainGlobals "_law_checked_right" = some (some (.ref f27)))
    (l27 : K.lookup f27 = some ⟨oc27, od27, .func (PySem.W.fnOf "_law_checked_right" "_law_checked_right" (defArgs st_law_checked_right) (defBody st_law_checked_right) (defScope st_law_checked_right) .none kV27 dc27 pm27 an27 cd27 ct27), sl27⟩) (c27 : PySem.W.codeIn K cd27 "_law_checked_right" = true) (k27 : PySem.W.keepIn K (.ref f27) = true)
    (a28 : PySem.W.nsIn K mainGlobals "law" = some (some (.ref f28)))
    (l28 : K.lookup f28 = some ⟨oc28, od28, .func (PySem.W.fnOf "law" "law" (defArgs st_law) (defBody st_law) (defScope st_law) .none kV28 dc28 pm28 an28 cd28 ct28), sl28⟩) (c28 : PySem.W.codeIn K cd28 "law" = true) (k28 : PySem.W.keepIn K (.ref f28) = true)
    (oa_Roll : PySem.W.nsIn K mainGlobals "Roll" = some (some (.ref o_Roll))) (ob_Roll : PySem.W.plainGet K o_Roll Str.empty = true) (oc_Roll : PySem.W.hasDictIn K o_Roll = true) (od_Roll : PySem.W.plainOver K o_Roll = true) (oe_Roll : PySem.W.findIn K (.ref o_Roll) "__setattr__" = some (some (.builtin "object.__setattr__"))) (of_Roll : PySem.W.makesIn K o_Roll = true) (og_Roll : PySem.W.keepIn K (.ref o_Roll) = true)
    (oh_Roll_own_rules : PySem.W.findIn K (.ref o_Roll) "own_rules" = some none)
    (oh_Roll_pairs : PySem.W.findIn K (.ref o_Roll) "pairs" = some none)
    (oh_Roll_earned_by : PySem.W.findIn K (.ref o_Roll) "earned_by" = some none)
    (z_bool : PySem.W.nsIn K mainGlobals "bool" = some none)
    (z_isinstance : PySem.W.nsIn K mainGlobals "isinstance" = some none)
    (z_int : PySem.W.nsIn K mainGlobals "int" = some none)
    (z_len : PySem.W.nsIn K mainGlobals "len" = some none)
    (z_tuple : PySem.W.nsIn K mainGlobals "tuple" = some none)
    (z_all : PySem.W.nsIn K mainGlobals "all" = some none)
    (z_str : PySem.W.nsIn K mainGlobals "str" = some none)
    (z_zip : PySem.W.nsIn K mainGlobals "zip" = some none)
    (z_max : PySem.W.nsIn K mainGlobals "max" = some none)
    (z_list : PySem.W.nsIn K mainGlobals "list" = some none)
    (z_enumerate : PySem.W.nsIn K mainGlobals "enumerate" = some none)
    (z_abs : PySem.W.nsIn K mainGlobals "abs" = some none)
    (z_min : PySem.W.nsIn K mainGlobals "min" = some none)
    (z_range : PySem.W.nsIn K mainGlobals "range" = some none)
    (z_repr : PySem.W.nsIn K mainGlobals "repr" = some none)
    (z_sorted : PySem.W.nsIn K mainGlobals "sorted" = some none)
    (z_set : PySem.W.nsIn K mainGlobals "set" = some none)
    (z_dict : PySem.W.nsIn K mainGlobals "dict" = some none)
    (y_MOST_OF : PySem.W.nsIn K mainGlobals "MOST_OF" = some (some (.int 30 t_MOST_OF)))
    (y_MOST_DAY : PySem.W.nsIn K mainGlobals "MOST_DAY" = some (some (.int 9999 t_MOST_DAY)))
    (y_MOST_PAIRS : PySem.W.nsIn K mainGlobals "MOST_PAIRS" = some (some (.int 2000 t_MOST_PAIRS)))
    (u_LINE_WORDS : PySem.W.nsIn K mainGlobals "LINE_WORDS" = some (some (.ref d_LINE_WORDS))) (v_LINE_WORDS : K.lookup d_LINE_WORDS = some ⟨.type "tuple", none, .seq e_LINE_WORDS n_LINE_WORDS, s_LINE_WORDS⟩) (r_LINE_WORDS : Vals ((["came", "told", "missed", "given", "struck"] : List Str).map V.str) e_LINE_WORDS.toList)
    (u_ROLL_WORDS : PySem.W.nsIn K mainGlobals "ROLL_WORDS" = some (some (.ref d_ROLL_WORDS))) (v_ROLL_WORDS : K.lookup d_ROLL_WORDS = some ⟨.type "tuple", none, .seq e_ROLL_WORDS n_ROLL_WORDS, s_ROLL_WORDS⟩) (r_ROLL_WORDS : Vals ((["came", "told", "missed"] : List Str).map V.str) e_ROLL_WORDS.toList)
    (xa_BadRules : PySem.W.nsIn K mainGlobals "BadRules" = some (some (.ref c_BadRules))) (xt_BadRules : PySem.W.typeIn K (.ref c_BadRules) = some (.type "type")) (xd_BadRules : PySem.W.hasDictIn K c_BadRules = true) (xs_BadRules : PySem.W.subIn K (.ref c_BadRules) (.type "BaseException") = some true)
    (xa_BadLineup : PySem.W.nsIn K mainGlobals "BadLineup" = some (some (.ref c_BadLineup))) (xt_BadLineup : PySem.W.typeIn K (.ref c_BadLineup) = some (.type "type")) (xd_BadLineup : PySem.W.hasDictIn K c_BadLineup = true) (xs_BadLineup : PySem.W.subIn K (.ref c_BadLineup) (.type "BaseException") = some true)
    (xa_BadHistory : PySem.W.nsIn K mainGlobals "BadHistory" = some (some (.ref c_BadHistory))) (xt_BadHistory : PySem.W.typeIn K (.ref c_BadHistory) = some (.type "type")) (xd_BadHistory : PySem.W.hasDictIn K c_BadHistory = true) (xs_BadHistory : PySem.W.subIn K (.ref c_BadHistory) (.type "BaseException") = some true)
    (xa_MarketError : PySem.W.nsIn K mainGlobals "MarketError" = some (some (.ref c_MarketError))) (xt_MarketError : PySem.W.typeIn K (.ref c_MarketError) = some (.type "type")) (xd_MarketError : PySem.W.hasDictIn K c_MarketError = true) (xs_MarketError : PySem.W.subIn K (.ref c_MarketError) (.type "BaseException") = some true)
    (xk_BadHistory : PySem.W.keepIn K (.ref c_BadHistory) = true) (xz_BadHistory : PySem.W.subIn K (.ref c_BadHistory) (.ref c_BadHistory) = some true)
    (xb_BadHistory : PySem.W.findIn K (.ref c_BadHistory) "__getattribute__" = some (some (.builtin "BaseException.__getattribute__"))) (xc_BadHistory : PySem.W.findIn K (.ref c_BadHistory) "__getattr__" = some none) (xe_BadHistory : PySem.W.findIn K (.ref c_BadHistory) "__class__" = some (some (.builtin "object.__class__"))) (xf_BadHistory : PySem.W.specialIn K (.builtin "object.__class__") "__get__" = some (some (.builtin "getset_descriptor.__get__"))) (xg_BadHistory : PySem.W.takesIn K (.builtin "object.__class__") = some true) (xh_BadHistory : PySem.W.mroIn K c_BadHistory (.type "object") = some true)
    (xq_BadLineup : PySem.W.excIn K c_BadLineup [.type "ValueError", .type "Exception", .type "BaseException", .type "object"] "ValueError.__new__" = true)
    (xk_BadLineup : PySem.W.keepIn K (.ref c_BadLineup) = true) (xz_BadLineup : PySem.W.subIn K (.ref c_BadLineup) (.ref c_BadLineup) = some true)
    (xb_BadLineup : PySem.W.findIn K (.ref c_BadLineup) "__getattribute__" = some (some (.builtin "BaseException.__getattribute__"))) (xc_BadLineup : PySem.W.findIn K (.ref c_BadLineup) "__getattr__" = some none) (xe_BadLineup : PySem.W.findIn K (.ref c_BadLineup) "__class__" = some (some (.builtin "object.__class__"))) (xf_BadLineup : PySem.W.specialIn K (.builtin "object.__class__") "__get__" = some (some (.builtin "getset_descriptor.__get__"))) (xg_BadLineup : PySem.W.takesIn K (.builtin "object.__class__") = some true) (xh_BadLineup : PySem.W.mroIn K c_BadLineup (.type "object") = some true)
    (xq_BadRules : PySem.W.excIn K c_BadRules [.type "ValueError", .type "Exception", .type "BaseException", .type "object"] "ValueError.__new__" = true)
    (xk_BadRules : PySem.W.keepIn K (.ref c_BadRules) = true) (xz_BadRules : PySem.W.subIn K (.ref c_BadRules) (.ref c_BadRules) = some true)
    (xb_BadRules : PySem.W.findIn K (.ref c_BadRules) "__getattribute__" = some (some (.builtin "BaseException.__getattribute__"))) (xc_BadRules : PySem.W.findIn K (.ref c_BadRules) "__getattr__" = some none) (xe_BadRules : PySem.W.findIn K (.ref c_BadRules) "__class__" = some (some (.builtin "object.__class__"))) (xf_BadRules : PySem.W.specialIn K (.builtin "object.__class__") "__get__" = some (some (.builtin "getset_descriptor.__get__"))) (xg_BadRules : PySem.W.takesIn K (.builtin "object.__class__") = some true) (xh_BadRules : PySem.W.mroIn K c_BadRules (.type "object") = some true)
    (ya_BadHistory : K.lookup c_BadHistory = some (excClassObj nm_BadHistory q_BadHistory c_BadHistory N_BadHistory bs_BadHistory [.ref c_MarketError, .type "ValueError", .type "Exception", .type "BaseException", .type "object"] true sn_BadHistory sub_BadHistory ab_BadHistory col_BadHistory dd_BadHistory k0_BadHistory k1_BadHistory k2_BadHistory k3_BadHistory k5_BadHistory "ValueError.__new__")) (yb_BadHistory : PySem.W.findIn K (.ref c_BadHistory) "__setattr__" = some (some (.builtin "object.__setattr__"))) (yc_BadHistory : PySem.W.findIn K (.ref c_BadHistory) "row" = some none) (yd_BadHistory : PySem.W.findIn K (.ref c_BadHistory) "__init__" = some (some (.ref fi_BadHistory))) (ye_BadHistory : PySem.W.typeIn K (.ref fi_BadHistory) = some (.type "function"))
    (yf_BadHistory : K.lookup fi_BadHistory = some ⟨oci_BadHistory, odi_BadHistory, .func (PySem.W.fnOf "__init__" "BadHistory.__init__" (defArgs st_BadHistory___init__) (defBody st_BadHistory___init__) (defScope st_BadHistory___init__) .none kVi_BadHistory dci_BadHistory pmi_BadHistory ani_BadHistory cdi_BadHistory cti_BadHistory), sli_BadHistory⟩) (yg_BadHistory : PySem.W.codeIn K cdi_BadHistory "BadHistory.__init__" = true) (yh_BadHistory : PySem.W.keepIn K (.ref fi_BadHistory) = true)
    (yi_BadHistory : PySem.W.specialIn K (.ref c_MarketError) "__getattribute__" = some (some (.builtin "type.__getattribute__"))) (yj_BadHistory : PySem.W.readsIn K c_MarketError (.type "type") = true) (yk_BadHistory : PySem.W.findCls K (.ref c_MarketError) (.type "type") "__init__" = some (.val (.builtin "ValueError.__init__")))
    (xw_BadHistory_BadHistory : PySem.W.subIn K (.ref c_BadHistory) (.ref c_BadHistory) = some true)
    (xw_BadLineup_BadLineup : PySem.W.subIn K (.ref c_BadLineup) (.ref c_BadLineup) = some true)
    : ∃ fd : FuncData, (∀ (s : Shared) (v : Value), BindsTo s fd ⟨[v], []⟩ [("_law_script", v)]) ∧ ∀ base : Heap, K.In base → base.Ns mainGlobals mg → FnG l.prog w K mg base CX0 8 fa fd ["_law_script"] (spC K R2i 1 F_law) := by
  have e := hfa.symm.trans (PySem.W.mg_of X G a28)
  cases e
  have Z1 := fun_mk (st := st_is_whole) l1 c1 k1
  have b1 := Z1.binds (ps := ["thing", "least", "most"]) fun _ _ _ _ _ _ us hl => match us, hl with | [_, _, _], _ => rfl
  have h1 := PySem.W.mg_of X G a1
  have Z2 := fun_mk (st := st_need_rules) l2 c2 k2
  have b2 := Z2.binds (ps := ["thing"]) fun _ _ _ _ _ _ us hl => match us, hl with | [_], _ => rfl
  have h2 := PySem.W.mg_of X G a2
  have Z3 := fun_mk (st := st_is_pair) l3 c3 k3
  have b3 := Z3.binds (ps := ["thing"]) fun _ _ _ _ _ _ us hl => match us, hl with | [_], _ => rfl
  have h3 := PySem.W.mg_of X G a3
  have Z4 := fun_mk (st := st_may_follow) l4 c4 k4
  have b4 := Z4.binds (ps := ["one", "other"]) fun _ _ _ _ _ _ us hl => match us, hl with | [_, _], _ => rfl
  have h4 := PySem.W.mg_of X G a4
  have Z5 := fun_mk (st := st_need_line) l5 c5 k5
  have b5 := Z5.binds (ps := ["thing"]) fun _ _ _ _ _ _ us hl => match us, hl with | [_], _ => rfl
  have h5 := PySem.W.mg_of X G a5
  have Z6 := fun_mk (st := st_days_of) l6 c6 k6
  have b6 := Z6.binds (ps := ["pairs", "word"]) fun _ _ _ _ _ _ us hl => match us, hl with | [_, _], _ => rfl
  have h6 := PySem.W.mg_of X G a6
  have Z7 := fun_mk (st := st_Roll___init__) l7 c7 k7
  have b7 := Z7.binds (ps := ["self", "rules"]) fun _ _ _ _ _ _ us hl => match us, hl with | [_, _], _ => rfl
  have Z8 := fun_mk (st := st_Roll_has_standing) l8 c8 k8
  have b8 := Z8.binds (ps := ["self"]) fun _ _ _ _ _ _ us hl => match us, hl with | [_], _ => rfl
  have Z9 := fun_mk (st := st_Roll_emptied) l9 c9 k9
  have b9 := Z9.binds (ps := ["self"]) fun _ _ _ _ _ _ us hl => match us, hl with | [_], _ => rfl
  have Z10 := fun_mk (st := st_Roll_lost_by) l10 c10 k10
  have b10 := Z10.binds (ps := ["self"]) fun _ _ _ _ _ _ us hl => match us, hl with | [_], _ => rfl
  have Z11 := fun_mk (st := st_Roll_came_days) l11 c11 k11
  have b11 := Z11.binds (ps := ["self"]) fun _ _ _ _ _ _ us hl => match us, hl with | [_], _ => rfl
  have Z12 := fun_mk (st := st_Roll_went_on) l12 c12 k12
  have b12 := Z12.binds (ps := ["self", "day", "word"]) fun _ _ _ _ _ _ us hl => match us, hl with | [_, _, _], _ => rfl
  have Z13 := fun_mk (st := st_rows_by) l13 c13 k13
  have b13 := Z13.binds (ps := ["rules", "line"]) fun _ _ _ _ _ _ us hl => match us, hl with | [_, _], _ => rfl
  have h13 := PySem.W.mg_of X G a13
  have Z14 := fun_mk (st := st_is_row) l14 c14 k14
  have b14 := Z14.binds (ps := ["row", "due"]) fun _ _ _ _ _ _ us hl => match us, hl with | [_, _], _ => rfl
  have h14 := PySem.W.mg_of X G a14
  have Z15 := fun_mk (st := st_check_rows) l15 c15 k15
  have b15 := Z15.binds (ps := ["rules", "line", "rows"]) fun _ _ _ _ _ _ us hl => match us, hl with | [_, _, _], _ => rfl
  have h15 := PySem.W.mg_of X G a15
  have Z16 := fun_mk (st := st_law_next) l16 c16 k16
  have b16 := Z16.binds (ps := ["_law_state_here", "_law_many"]) fun _ _ _ _ _ _ us hl => match us, hl with | [_, _], _ => rfl
  have h16 := PySem.W.mg_of X G a16
  have Z17 := fun_mk (st := st_law_state) l17 c17 k17
  have b17 := Z17.binds (ps := ["_law_cells"]) fun _ _ _ _ _ _ us hl => match us, hl with | [_], _ => rfl
  have h17 := PySem.W.mg_of X G a17
  have Z18 := fun_mk (st := st_law_rules) l18 c18 k18
  have b18 := Z18.binds (ps := ["_law_state_here"]) fun _ _ _ _ _ _ us hl => match us, hl with | [_], _ => rfl
  have h18 := PySem.W.mg_of X G a18
  have Z19 := fun_mk (st := st_law_stands) l19 c19 k19
  have b19 := Z19.binds (ps := ["_law_rules_here", "_law_line_here"]) fun _ _ _ _ _ _ us hl => match us, hl with | [_, _], _ => rfl
  have h19 := PySem.W.mg_of X G a19
  have Z20 := fun_mk (st := st_law_line) l20 c20 k20
  have b20 := Z20.binds (ps := ["_law_state_here", "_law_rules_here", "_law_many"]) fun _ _ _ _ _ _ us hl => match us, hl with | [_, _, _], _ => rfl
  have h20 := PySem.W.mg_of X G a20
  have Z21 := fun_mk (st := st_law_refused) l21 c21 k21
  have b21 := Z21.binds (ps := ["_law_rules_here", "_law_line_here", "_law_rows"]) fun _ _ _ _ _ _ us hl => match us, hl with | [_, _, _], _ => rfl
  have h21 := PySem.W.mg_of X G a21
  have Z22 := fun_mk (st := st_law_is_no_line) l22 c22 k22
  have b22 := Z22.binds (ps := ["_law_rules_here", "_law_line_here"]) fun _ _ _ _ _ _ us hl => match us, hl with | [_, _], _ => rfl
  have h22 := PySem.W.mg_of X G a22
  have Z23 := fun_mk (st := st_law_cuts_right) l23 c23 k23
  have b23 := Z23.binds (ps := ["_law_state_here", "_law_rules_here", "_law_line_here", "_law_rows"]) fun _ _ _ _ _ _ us hl => match us, hl with | [_, _, _, _], _ => rfl
  have h23 := PySem.W.mg_of X G a23
  have Z24 := fun_mk (st := st_law_rests_right) l24 c24 k24
  have b24 := Z24.binds (ps := ["_law_rules_here", "_law_line_here", "_law_rows"]) fun _ _ _ _ _ _ us hl => match us, hl with | [_, _, _], _ => rfl
  have h24 := PySem.W.mg_of X G a24
  have Z25 := fun_mk (st := st_law_renamed_right) l25 c25 k25
  have b25 := Z25.binds (ps := ["_law_state_here", "_law_rules_here", "_law_line_here", "_law_rows"]) fun _ _ _ _ _ _ us hl => match us, hl with | [_, _, _, _], _ => rfl
  have h25 := PySem.W.mg_of X G a25
  have Z26 := fun_mk (st := st_law_shown_right) l26 c26 k26
  have b26 := Z26.binds (ps := ["_law_rules_here", "_law_line_here", "_law_rows"]) fun _ _ _ _ _ _ us hl => match us, hl with | [_, _, _], _ => rfl
  have h26 := PySem.W.mg_of X G a26
  have Z27 := fun_mk (st := st_law_checked_right) l27 c27 k27
  have b27 := Z27.binds (ps := ["_law_state_here", "_law_rules_here", "_law_line_here", "_law_rows"]) fun _ _ _ _ _ _ us hl => match us, hl with | [_, _, _, _], _ => rfl
  have h27 := PySem.W.mg_of X G a27
  have Z28 := fun_mk (st := st_law) l28 c28 k28
  have b28 := Z28.binds (ps := ["_law_script"]) fun _ _ _ _ _ _ us hl => match us, hl with | [_], _ => rfl
  have h28 := PySem.W.mg_of X G a28
  have cx_Roll : ClsX K "Roll" o_Roll := ⟨oa_Roll, ⟨ob_Roll, oc_Roll, od_Roll, oe_Roll⟩⟩
  have na_Roll_own_rules : NoAttr K o_Roll "own_rules" := oh_Roll_own_rules
  have na_Roll_pairs : NoAttr K o_Roll "pairs" := oh_Roll_pairs
  have na_Roll_earned_by : NoAttr K o_Roll "earned_by" := oh_Roll_earned_by
  have m_bool := PySem.W.mg_none_of X G z_bool
  have m_isinstance := PySem.W.mg_none_of X G z_isinstance
  have m_int := PySem.W.mg_none_of X G z_int
  have m_len := PySem.W.mg_none_of X G z_len
  have m_tuple := PySem.W.mg_none_of X G z_tuple
  have m_all := PySem.W.mg_none_of X G z_all
  have m_str := PySem.W.mg_none_of X G z_str
  have m_zip := PySem.W.mg_none_of X G z_zip
  have m_max := PySem.W.mg_none_of X G z_max
  have m_list := PySem.W.mg_none_of X G z_list
  have m_enumerate := PySem.W.mg_none_of X G z_enumerate
  have m_abs := PySem.W.mg_none_of X G z_abs
  have m_min := PySem.W.mg_none_of X G z_min
  have m_range := PySem.W.mg_none_of X G z_range
  have m_repr := PySem.W.mg_none_of X G z_repr
  have m_sorted := PySem.W.mg_none_of X G z_sorted
  have m_set := PySem.W.mg_none_of X G z_set
  have m_dict := PySem.W.mg_none_of X G z_dict
  have g_MOST_OF : ∃ t, mg "MOST_OF" = some (.int 30 t) := ⟨_, PySem.W.mg_of X G y_MOST_OF⟩
  have g_MOST_DAY : ∃ t, mg "MOST_DAY" = some (.int 9999 t) := ⟨_, PySem.W.mg_of X G y_MOST_DAY⟩
  have g_MOST_PAIRS : ∃ t, mg "MOST_PAIRS" = some (.int 2000 t) := ⟨_, PySem.W.mg_of X G y_MOST_PAIRS⟩
  have x_BadRules := PySem.W.mg_of X G xa_BadRules
  have x_BadLineup := PySem.W.mg_of X G xa_BadLineup
  have x_BadHistory := PySem.W.mg_of X G xa_BadHistory
  have x_MarketError := PySem.W.mg_of X G xa_MarketError
  have ec_BadHistory : ExcC K c_BadHistory := ⟨xb_BadHistory, xc_BadHistory, xs_BadHistory, xd_BadHistory, xe_BadHistory, xf_BadHistory, xg_BadHistory, xh_BadHistory⟩
  have e_BadLineup : ExcT K mg "BadLineup" := ⟨_, _, _, _, _, PySem.F.excBase_ValueError, xq_BadLineup, x_BadLineup, xk_BadLineup, xs_BadLineup, xt_BadLineup⟩
  have ec_BadLineup : ExcC K c_BadLineup := ⟨xb_BadLineup, xc_BadLineup, xs_BadLineup, xd_BadLineup, xe_BadLineup, xf_BadLineup, xg_BadLineup, xh_BadLineup⟩
  have e_BadRules : ExcT K mg "BadRules" := ⟨_, _, _, _, _, PySem.F.excBase_ValueError, xq_BadRules, x_BadRules, xk_BadRules, xs_BadRules, xt_BadRules⟩
  have ec_BadRules : ExcC K c_BadRules := ⟨xb_BadRules, xc_BadRules, xs_BadRules, xd_BadRules, xe_BadRules, xf_BadRules, xg_BadRules, xh_BadRules⟩
  have t_LINE_WORDS : TopTup K mg "LINE_WORDS" ["came", "told", "missed", "given", "struck"] := ⟨_, _, _, _, PySem.W.mg_of X G u_LINE_WORDS, v_LINE_WORDS, rfl, rfl, rfl, r_LINE_WORDS⟩
  have t_ROLL_WORDS : TopTup K mg "ROLL_WORDS" ["came", "told", "missed"] := ⟨_, _, _, _, PySem.W.mg_of X G u_ROLL_WORDS, v_ROLL_WORDS, rfl, rfl, rfl, r_ROLL_WORDS⟩
  have zi_BadHistory := fun_mk (st := st_BadHistory___init__) yf_BadHistory yg_BadHistory yh_BadHistory
  have fd_BadHistory : FldT K mg "row" "BadHistory" := ⟨_, x_BadHistory, xb_BadHistory, xc_BadHistory, xs_BadHistory, xd_BadHistory, yc_BadHistory⟩
  refine ⟨PySem.W.fnOf "law" "law" (defArgs st_law) (defBody st_law) (defScope st_law) .none kV28 dc28 pm28 an28 cd28 ct28, fun s v => .of_eq rfl, fun base _ _ => ?_⟩
  have ef_BadHistory : ExcF l.prog w K mg base 1 "BadHistory" "row" := ⟨_, _, _, _, ⟨⟨_, _, _, _, _, _, _, _, _, _, _, _, _, _, _, ya_BadHistory, by rfl⟩, yb_BadHistory, xs_BadHistory, xt_BadHistory, xk_BadHistory⟩, x_BadHistory, yd_BadHistory, ye_BadHistory, ok_BadHistory___init__ (P := l.prog) (w := w) (mg := mg) (base := base) zi_BadHistory x_MarketError yi_BadHistory yj_BadHistory yk_BadHistory, zi_BadHistory.binds (ps := ["self", "row"]) fun _ _ _ _ _ _ us hl => match us, hl with | [_, _], _ => rfl, yc_BadHistory⟩
  have o_is_whole := ok_is_whole (P := l.prog) (w := w) (mg := mg) (base := base) Z1  m_bool m_int m_isinstance     
  have c_is_whole : Cl l.prog w K mg base 1 "is_whole" (spP K R2i 3 F_is_whole) := ⟨f1, _, _, o_is_whole, b1, k1, h1⟩
  have o_need_rules := ok_need_rules (P := l.prog) (w := w) (mg := mg) (base := base) Z2 c_is_whole m_all m_isinstance m_len m_tuple g_MOST_OF    e_BadRules
  have cx_need_rules : ClX l.prog w K R2i mg base 2 "need_rules" 1 FX_need_rules := ⟨f2, _, _, o_need_rules, b2, k2, h2⟩
  have c_need_rules : Cl l.prog w K mg base 2 "need_rules" (spP K R2i 1 F_need_rules) := clX_ok cx_need_rules
  have o_is_pair := ok_is_pair (P := l.prog) (w := w) (mg := mg) (base := base) Z3 c_is_whole m_isinstance m_len m_str m_tuple g_MOST_DAY  t_LINE_WORDS  
  have c_is_pair : Cl l.prog w K mg base 2 "is_pair" (spP K R2i 1 F_is_pair) := ⟨f3, _, _, o_is_pair, b3, k3, h3⟩
  have o_may_follow := ok_may_follow (P := l.prog) (w := w) (mg := mg) (base := base) Z4       
  have c_may_follow : Cl l.prog w K mg base 1 "may_follow" (spP K R2i 2 F_may_follow) := ⟨f4, _, _, o_may_follow, b4, k4, h4⟩
  have o_need_line := ok_need_line (P := l.prog) (w := w) (mg := mg) (base := base) Z5 c_is_pair c_may_follow m_all m_isinstance m_len m_tuple m_zip g_MOST_PAIRS    e_BadLineup
  have cx_need_line : ClX l.prog w K R2i mg base 3 "need_line" 1 FX_need_line := ⟨f5, _, _, o_need_line, b5, k5, h5⟩
  have c_need_line : Cl l.prog w K mg base 3 "need_line" (spP K R2i 1 F_need_line) := clX_ok cx_need_line
  have o_days_of := ok_days_of (P := l.prog) (w := w) (mg := mg) (base := base) Z6  m_tuple     
  have c_days_of : Cl l.prog w K mg base 1 "days_of" (spP K R2i 2 F_days_of) := ⟨f6, _, _, o_days_of, b6, k6, h6⟩
  have o_Roll___init__ := ok_Roll___init__ (P := l.prog) (w := w) (mg := mg) (base := base) Z7      cx_Roll na_Roll_own_rules na_Roll_pairs na_Roll_earned_by 
  have ck_Roll : ClK l.prog w K mg base 1 o_Roll "Roll" (spB K R2i "Roll" 2 F_Roll___init__) := ⟨f7, _, _, o_Roll___init__, b7, ⟨of_Roll, a7, i7, og_Roll⟩, PySem.W.mg_of X G oa_Roll⟩
  have o_Roll_has_standing := ok_Roll_has_standing (P := l.prog) (w := w) (mg := mg) (base := base) Z8      cx_Roll na_Roll_earned_by 
  have cm_Roll_has_standing : ClM l.prog w K mg base 1 o_Roll "has_standing" (spP K R2i 1 F_Roll_has_standing) := ⟨f8, _, _, o_Roll_has_standing, b8, ⟨a8, i8, k8⟩⟩
  have o_Roll_emptied := ok_Roll_emptied (P := l.prog) (w := w) (mg := mg) (base := base) Z9      cx_Roll na_Roll_pairs na_Roll_earned_by 
  have cm_Roll_emptied : ClM l.prog w K mg base 1 o_Roll "emptied" (spB K R2i "Roll" 1 F_Roll_emptied) := ⟨f9, _, _, o_Roll_emptied, b9, ⟨a9, i9, k9⟩⟩
  have o_Roll_lost_by := ok_Roll_lost_by (P := l.prog) (w := w) (mg := mg) (base := base) Z10 c_days_of m_len m_max    cx_Roll na_Roll_own_rules na_Roll_pairs na_Roll_earned_by 
  have cm_Roll_lost_by : ClM l.prog w K mg base 2 o_Roll "lost_by" (spP K R2i 1 F_Roll_lost_by) := ⟨f10, _, _, o_Roll_lost_by, b10, ⟨a10, i10, k10⟩⟩
  have o_Roll_came_days := ok_Roll_came_days (P := l.prog) (w := w) (mg := mg) (base := base) Z11 c_days_of m_len m_max    cx_Roll na_Roll_pairs na_Roll_own_rules 
  have cm_Roll_came_days : ClM l.prog w K mg base 2 o_Roll "came_days" (spP K R2i 1 F_Roll_came_days) := ⟨f11, _, _, o_Roll_came_days, b11, ⟨a11, i11, k11⟩⟩
  have o_Roll_went_on := ok_Roll_went_on (P := l.prog) (w := w) (mg := mg) (base := base) Z12  m_len    cx_Roll na_Roll_pairs na_Roll_own_rules na_Roll_earned_by cm_Roll_has_standing cm_Roll_lost_by cm_Roll_emptied cm_Roll_came_days 
  have cm_Roll_went_on : ClM l.prog w K mg base 3 o_Roll "went_on" (spB K R2i "Roll" 3 F_Roll_went_on) := ⟨f12, _, _, o_Roll_went_on, b12, ⟨a12, i12, k12⟩⟩
  have o_rows_by := ok_rows_by (P := l.prog) (w := w) (mg := mg) (base := base) Z13     t_ROLL_WORDS cx_Roll cm_Roll_went_on cm_Roll_has_standing cm_Roll_emptied ck_Roll cx_need_rules cx_need_line e_BadLineup
  have cx_rows_by : ClX l.prog w K R2i mg base 4 "rows_by" 2 FX_rows_by := ⟨f13, _, _, o_rows_by, b13, k13, h13⟩
  have c_rows_by : Cl l.prog w K mg base 4 "rows_by" (spP K R2i 2 F_rows_by) := clX_ok cx_rows_by
  have o_is_row := ok_is_row (P := l.prog) (w := w) (mg := mg) (base := base) Z14 c_is_whole m_all m_isinstance m_len m_str m_tuple m_zip     
  have c_is_row : Cl l.prog w K mg base 2 "is_row" (spP K R2i 2 F_is_row) := ⟨f14, _, _, o_is_row, b14, k14, h14⟩
  have o_check_rows := ok_check_rows (P := l.prog) (w := w) (mg := mg) (base := base) Z15 c_is_row m_all m_enumerate m_isinstance m_len m_list m_tuple     cx_rows_by ef_BadHistory
  have cx_check_rows : ClX l.prog w K R2i mg base 5 "check_rows" 3 FX_check_rows := ⟨f15, _, _, o_check_rows, b15, k15, h15⟩
  have c_check_rows : Cl l.prog w K mg base 5 "check_rows" (spP K R2i 3 F_check_rows) := clX_ok cx_check_rows
  have o_law_next := ok_law_next (P := l.prog) (w := w) (mg := mg) (base := base) Z16  m_abs m_int m_len     
  have c_law_next : Cl l.prog w K mg base 1 "_law_next" (spV K R2i 2 F_law_next) := ⟨f16, _, _, o_law_next, b16, k16, h16⟩
  have o_law_state := ok_law_state (P := l.prog) (w := w) (mg := mg) (base := base) Z17       
  have c_law_state : Cl l.prog w K mg base 1 "_law_state" (spP K R2i 1 F_law_state) := ⟨f17, _, _, o_law_state, b17, k17, h17⟩
  have o_law_rules := ok_law_rules (P := l.prog) (w := w) (mg := mg) (base := base) Z18 c_law_next m_min     
  have c_law_rules : Cl l.prog w K mg base 2 "_law_rules" (spV K R2i 1 F_law_rules) := ⟨f18, _, _, o_law_rules, b18, k18, h18⟩
  have o_law_stands := ok_law_stands (P := l.prog) (w := w) (mg := mg) (base := base) Z19 c_rows_by      
  have c_law_stands : Cl l.prog w K mg base 5 "_law_stands" (spP K R2i 2 F_law_stands) := ⟨f19, _, _, o_law_stands, b19, k19, h19⟩
  have o_law_line := ok_law_line (P := l.prog) (w := w) (mg := mg) (base := base) Z20 c_law_next c_law_stands m_int m_len m_range     
  have c_law_line : Cl l.prog w K mg base 6 "_law_line" (spV K R2i 3 F_law_line) := ⟨f20, _, _, o_law_line, b20, k20, h20⟩
  have o_law_refused := ok_law_refused (P := l.prog) (w := w) (mg := mg) (base := base) Z21       cx_check_rows x_BadHistory (List.forall_mem_cons.mpr ⟨fd_BadHistory, nofun⟩) (fun e h => by rcases List.mem_cons.mp h with rfl | h; exact ⟨_, x_BadHistory, PySem.W.exm_ref xs_BadHistory xd_BadHistory xt_BadHistory xw_BadHistory_BadHistory⟩; cases h)
  have c_law_refused : Cl l.prog w K mg base 6 "_law_refused" (spP K R2i 3 F_law_refused) := ⟨f21, _, _, o_law_refused, b21, k21, h21⟩
  have o_law_is_no_line := ok_law_is_no_line (P := l.prog) (w := w) (mg := mg) (base := base) Z22       cx_rows_by x_BadLineup (fun e h => by rcases List.mem_cons.mp h with rfl | h; exact ⟨_, x_BadLineup, PySem.W.exm_ref xs_BadLineup xd_BadLineup xt_BadLineup xw_BadLineup_BadLineup⟩; cases h)
  have c_law_is_no_line : Cl l.prog w K mg base 5 "_law_is_no_line" (spP K R2i 2 F_law_is_no_line) := ⟨f22, _, _, o_law_is_no_line, b22, k22, h22⟩
  have o_law_cuts_right := ok_law_cuts_right (P := l.prog) (w := w) (mg := mg) (base := base) Z23 c_law_next c_rows_by m_len m_range     
  have c_law_cuts_right : Cl l.prog w K mg base 5 "_law_cuts_right" (spV K R2i 4 F_law_cuts_right) := ⟨f23, _, _, o_law_cuts_right, b23, k23, h23⟩
  have o_law_rests_right := ok_law_rests_right (P := l.prog) (w := w) (mg := mg) (base := base) Z24 c_rows_by m_enumerate     
  have c_law_rests_right : Cl l.prog w K mg base 5 "_law_rests_right" (spP K R2i 3 F_law_rests_right) := ⟨f24, _, _, o_law_rests_right, b24, k24, h24⟩
  have o_law_renamed_right := ok_law_renamed_right (P := l.prog) (w := w) (mg := mg) (base := base) Z25 c_law_next c_rows_by m_repr m_tuple     
  have c_law_renamed_right : Cl l.prog w K mg base 5 "_law_renamed_right" (spV K R2i 4 F_law_renamed_right) := ⟨f25, _, _, o_law_renamed_right, b25, k25, h25⟩
  have o_law_shown_right := ok_law_shown_right (P := l.prog) (w := w) (mg := mg) (base := base) Z26  m_dict m_len m_list m_range m_set m_sorted     
  have c_law_shown_right : Cl l.prog w K mg base 1 "_law_shown_right" (spP K R2i 3 F_law_shown_right) := ⟨f26, _, _, o_law_shown_right, b26, k26, h26⟩
  have o_law_checked_right := ok_law_checked_right (P := l.prog) (w := w) (mg := mg) (base := base) Z27 c_law_refused c_law_next m_len     
  have c_law_checked_right : Cl l.prog w K mg base 7 "_law_checked_right" (spV K R2i 4 F_law_checked_right) := ⟨f27, _, _, o_law_checked_right, b27, k27, h27⟩
  exact ok_law Z28 c_law_state c_law_rules c_law_line c_law_next c_rows_by c_law_shown_right c_need_line c_law_rests_right c_law_cuts_right c_law_checked_right c_law_renamed_right c_law_is_no_line c_law_stands m_len m_min m_range     
end LAW
open PySem PySem.W PyProof.Rows
set_option maxRecDepth 100000 in
set_option maxHeartbeats 0 in
theorem PySem.Challenge.cw_pitchward_k60_whole_lines_and_rows_holds : PySem.Challenge.rw_pitchward_k60_whole_lines_and_rows.Holds := by
  w_on; o_law; k_head; (case hw => w_witness2)
  k_fill
  refine DL.walkG (l := PySem.Challenge.rw_pitchward_k60_whole_lines_and_rows) (n := 63) (k := 8) (x := "_law_script") (sp := fun K => DL.spC K DL.R2i 1 LAW.F_law) rfl (by decide) rfl ⟨rfl, by decide, by decide⟩ (fun w h Y => PySem.W.kIn_of Y) ?F (fun K H a ns hl hS => DL.sp_of (R := DL.R2i) (F := LAW.F_law) (n := 63) LAW.plain H a ns hl hS)
  case F =>
    intro w mg fa h KX G hmg
    refine' LAW.all_mk KX G hmg ?a1 ?l1 ?c1 ?k1 ?a2 ?l2 ?c2 ?k2 ?a3 ?l3 ?c3 ?k3 ?a4 ?l4 ?c4 ?k4 ?a5 ?l5 ?c5 ?k5 ?a6 ?l6 ?c6 ?k6 ?a7 ?i7 ?l7 ?c7 ?k7 ?a8 ?i8 ?l8 ?c8 ?k8 ?a9 ?i9 ?l9 ?c9 ?k9 ?a10 ?i10 ?l10 ?c10 ?k10 ?a11 ?i11 ?l11 ?c11 ?k11 ?a12 ?i12 ?l12 ?c12 ?k12 ?a13 ?l13 ?c13 ?k13 ?a14 ?l14 ?c14 ?k14 ?a15 ?l15 ?c15 ?k15 ?a16 ?l16 ?c16 ?k16 ?a17 ?l17 ?c17 ?k17 ?a18 ?l18 ?c18 ?k18 ?a19 ?l19 ?c19 ?k19 ?a20 ?l20 ?c20 ?k20 ?a21 ?l21 ?c21 ?k21 ?a22 ?l22 ?c22 ?k22 ?a23 ?l23 ?c23 ?k23 ?a24 ?l24 ?c24 ?k24 ?a25 ?l25 ?c25 ?k25 ?a26 ?l26 ?c26 ?k26 ?a27 ?l27 ?c27 ?k27 ?a28 ?l28 ?c28 ?k28 ?oa_Roll ?ob_Roll ?oc_Roll ?od_Roll ?oe_Roll ?of_Roll ?og_Roll ?oh_Roll_own_rules ?oh_Roll_pairs ?oh_Roll_earned_by ?z_bool ?z_isinstance ?z_int ?z_len ?z_tuple ?z_all ?z_str ?z_zip ?z_max ?z_list ?z_enumerate ?z_abs ?z_min ?z_range ?z_repr ?z_sorted ?z_set ?z_dict ?y_MOST_OF ?y_MOST_DAY ?y_MOST_PAIRS ?u_LINE_WORDS ?v_LINE_WORDS ?r_LINE_WORDS ?u_ROLL_WORDS ?v_ROLL_WORDS ?r_ROLL_WORDS ?xa_BadRules ?xt_BadRules ?xd_BadRules ?xs_BadRules ?xa_BadLineup ?xt_BadLineup ?xd_BadLineup ?xs_BadLineup ?xa_BadHistory ?xt_BadHistory ?xd_BadHistory ?xs_BadHistory ?xa_MarketError ?xt_MarketError ?xd_MarketError ?xs_MarketError ?xk_BadHistory ?xz_BadHistory ?xb_BadHistory ?xc_BadHistory ?xe_BadHistory ?xf_BadHistory ?xg_BadHistory ?xh_BadHistory ?xq_BadLineup ?xk_BadLineup ?xz_BadLineup ?xb_BadLineup ?xc_BadLineup ?xe_BadLineup ?xf_BadLineup ?xg_BadLineup ?xh_BadLineup ?xq_BadRules ?xk_BadRules ?xz_BadRules ?xb_BadRules ?xc_BadRules ?xe_BadRules ?xf_BadRules ?xg_BadRules ?xh_BadRules ?ya_BadHistory ?yb_BadHistory ?yc_BadHistory ?yd_BadHistory ?ye_BadHistory ?yf_BadHistory ?yg_BadHistory ?yh_BadHistory ?yi_BadHistory ?yj_BadHistory ?yk_BadHistory ?xw_BadHistory_BadHistory ?xw_BadLineup_BadLineup
    (case oa_Roll => k_is)
    (case a1 => k_is)
    (case l1 => k_is)
    (case c1 => k_is)
    (case k1 => k_is)
    (case a2 => k_is)
    (case l2 => k_is)
    (case c2 => k_is)
    (case k2 => k_is)
    (case a3 => k_is)
    (case l3 => k_is)
    (case c3 => k_is)
    (case k3 => k_is)
    (case a4 => k_is)
    (case l4 => k_is)
    (case c4 => k_is)
    (case k4 => k_is)
    (case a5 => k_is)
    (case l5 => k_is)
    (case c5 => k_is)
    (case k5 => k_is)
    (case a6 => k_is)
    (case l6 => k_is)
    (case c6 => k_is)
    (case k6 => k_is)
    (case a7 => k_is)
    (case i7 => k_is)
    (case l7 => k_is)
    (case c7 => k_is)
    (case k7 => k_is)
    (case a8 => k_is)
    (case i8 => k_is)
    (case l8 => k_is)
    (case c8 => k_is)
    (case k8 => k_is)
    (case a9 => k_is)
    (case i9 => k_is)
    (case l9 => k_is)
    (case c9 => k_is)
    (case k9 => k_is)
    (case a10 => k_is)
    (case i10 => k_is)
    (case l10 => k_is)
    (case c10 => k_is)
    (case k10 => k_is)
    (case a11 => k_is)
    (case i11 => k_is)
    (case l11 => k_is)
    (case c11 => k_is)
    (case k11 => k_is)
    (case a12 => k_is)
    (case i12 => k_is)
    (case l12 => k_is)
    (case c12 => k_is)
    (case k12 => k_is)
    (case a13 => k_is)
    (case l13 => k_is)
    (case c13 => k_is)
    (case k13 => k_is)
    (case a14 => k_is)
    (case l14 => k_is)
    (case c14 => k_is)
    (case k14 => k_is)
    (case a15 => k_is)
    (case l15 => k_is)
    (case c15 => k_is)
    (case k15 => k_is)
    (case a16 => k_is)
    (case l16 => k_is)
    (case c16 => k_is)
    (case k16 => k_is)
    (case a17 => k_is)
    (case l17 => k_is)
    (case c17 => k_is)
    (case k17 => k_is)
    (case a18 => k_is)
    (case l18 => k_is)
    (case c18 => k_is)
    (case k18 => k_is)
    (case a19 => k_is)
    (case l19 => k_is)
    (case c19 => k_is)
    (case k19 => k_is)
    (case a20 => k_is)
    (case l20 => k_is)
    (case c20 => k_is)
    (case k20 => k_is)
    (case a21 => k_is)
    (case l21 => k_is)
    (case c21 => k_is)
    (case k21 => k_is)
    (case a22 => k_is)
    (case l22 => k_is)
    (case c22 => k_is)
    (case k22 => k_is)
    (case a23 => k_is)
    (case l23 => k_is)
    (case c23 => k_is)
    (case k23 => k_is)
    (case a24 => k_is)
    (case l24 => k_is)
    (case c24 => k_is)
    (case k24 => k_is)
    (case a25 => k_is)
    (case l25 => k_is)
    (case c25 => k_is)
    (case k25 => k_is)
    (case a26 => k_is)
    (case l26 => k_is)
    (case c26 => k_is)
    (case k26 => k_is)
    (case a27 => k_is)
    (case l27 => k_is)
    (case c27 => k_is)
    (case k27 => k_is)
    (case a28 => k_is)
    (case l28 => k_is)
    (case c28 => k_is)
    (case k28 => k_is)
    (case ob_Roll => k_is)
    (case oc_Roll => k_is)
    (case od_Roll => k_is)
    (case oe_Roll => k_is)
    (case of_Roll => k_is)
    (case og_Roll => k_is)
    (case oh_Roll_own_rules => k_is)
    (case oh_Roll_pairs => k_is)
    (case oh_Roll_earned_by => k_is)
    (case z_bool => k_is)
    (case z_isinstance => k_is)
    (case z_int => k_is)
    (case z_len => k_is)
    (case z_tuple => k_is)
    (case z_all => k_is)
    (case z_str => k_is)
    (case z_zip => k_is)
    (case z_max => k_is)
    (case z_list => k_is)
    (case z_enumerate => k_is)
    (case z_abs => k_is)
    (case z_min => k_is)
    (case z_range => k_is)
    (case z_repr => k_is)
    (case z_sorted => k_is)
    (case z_set => k_is)
    (case z_dict => k_is)
    (case y_MOST_OF => k_is)
    (case y_MOST_DAY => k_is)
    (case y_MOST_PAIRS => k_is)
    (case u_LINE_WORDS => k_is)
    (case v_LINE_WORDS => k_is)
    (case r_LINE_WORDS => (repeat first | exact .nil | refine .cons ⟨_, rfl⟩ ?_))
    (case u_ROLL_WORDS => k_is)
    (case v_ROLL_WORDS => k_is)
    (case r_ROLL_WORDS => (repeat first | exact .nil | refine .cons ⟨_, rfl⟩ ?_))
    (case xa_BadRules => k_is)
    (case xt_BadRules => k_is)
    (case xd_BadRules => k_is)
    (case xs_BadRules => k_is)
    (case xa_BadLineup => k_is)
    (case xt_BadLineup => k_is)
    (case xd_BadLineup => k_is)
    (case xs_BadLineup => k_is)
    (case xa_BadHistory => k_is)
    (case xt_BadHistory => k_is)
    (case xd_BadHistory => k_is)
    (case xs_BadHistory => k_is)
    (case xa_MarketError => k_is)
    (case xt_MarketError => k_is)
    (case xd_MarketError => k_is)
    (case xs_MarketError => k_is)
    (case xk_BadHistory => k_is)
    (case xz_BadHistory => k_is)
    (case xb_BadHistory => k_is)
    (case xc_BadHistory => k_is)
    (case xe_BadHistory => k_is)
    (case xf_BadHistory => k_is)
    (case xg_BadHistory => k_is)
    (case xh_BadHistory => k_is)
    (case xq_BadLineup => k_exc)
    (case xk_BadLineup => k_is)
    (case xz_BadLineup => k_is)
    (case xb_BadLineup => k_is)
    (case xc_BadLineup => k_is)
    (case xe_BadLineup => k_is)
    (case xf_BadLineup => k_is)
    (case xg_BadLineup => k_is)
    (case xh_BadLineup => k_is)
    (case xq_BadRules => k_exc)
    (case xk_BadRules => k_is)
    (case xz_BadRules => k_is)
    (case xb_BadRules => k_is)
    (case xc_BadRules => k_is)
    (case xe_BadRules => k_is)
    (case xf_BadRules => k_is)
    (case xg_BadRules => k_is)
    (case xh_BadRules => k_is)
    (case ya_BadHistory => k_is)
    (case yb_BadHistory => k_is)
    (case yc_BadHistory => k_is)
    (case yd_BadHistory => k_is)
    (case ye_BadHistory => k_is)
    (case yf_BadHistory => k_is)
    (case yg_BadHistory => k_is)
    (case yh_BadHistory => k_is)
    (case yi_BadHistory => k_is)
    (case yj_BadHistory => k_is)
    (case yk_BadHistory => k_is)
    (case xw_BadHistory_BadHistory => k_is)
    (case xw_BadLineup_BadLineup => k_is)
