import PyProof.Rows.All
import Wide.All
import OpenK.AllK
import Wide.FinOn
import PySem.Challenge.RW_pitchward_k54_grounds_of_days
import HandS.ForMost
import HandS.Conv
import HandS.Strs
import HandS.IsInst
import HandS.Flow
import HandS.Zip
import HandS.Small
import HandS.TupAny
import HandS.Wide
import HandS.Deep
import KE.SortData
import KE.LtData
import KE.SortKeyHeap
import PyProof.ReprRoads
import HandS.Style
import PyProof.EnumMake
import PyProof.Draws
import PyProof.WalksEnum
import KE.GoesEnum
import KE.GoesMore
import PyProof.StrOps2
import HandS.Dict
import PyProof.DictWalks
import PyProof.CollectWalk
import PyProof.ListNew
import KE.KItemsList
import HandS.Sort
import HandS.Comp
import HandS.TryOnly
import PyProof.AutoSeq1
import HandS.Exc
import HandS.SetFor
import HandS.SetKeys
import KE.KSortKey
import HandS.SortKw
import KE.KDictList
import HandS.More
import HandS.Codes
set_option Elab.async false
set_option linter.all false
set_option maxRecDepth 100000
set_option maxHeartbeats 4000000
/-! A layer of plain data over the hand layer: what an expression of a def gives, as a function on data. -/
namespace DL
open PySem PySem.Spec PyProof.Rows L2

abbrev D := PyData

/-! ### what a value stands for -/
mutual
inductive Den (K : PySem.W.Frag) (G : Hp) : V → D → Prop
  | non : Den K G .non .none
  | bl (b : Bool) : Den K G (.bl b) (.bool b)
  | int (i : Int) : Den K G (.int i) (.int i)
  | str (x : Str) : x.length ≤ sizeLine → PyData.strOk x = true → Den K G (.str x) (.str x)
  | lst {a : Addr} {vs : List V} {ds : List D} : G a = some (.lst vs) → vs.length ≤ sizeLine → DenAll K G vs ds → Den K G (.ref a) (.list ds)
  | tup {a : Addr} {vs : List V} {ds : List D} : SqT K G a vs → vs.length ≤ sizeLine → DenAll K G vs ds → Den K G (.ref a) (.tuple ds)
inductive DenAll (K : PySem.W.Frag) (G : Hp) : List V → List D → Prop
  | nil : DenAll K G [] []
  | cons {v : V} {vs : List V} {d : D} {ds : List D} : Den K G v d → DenAll K G vs ds → DenAll K G (v :: vs) (d :: ds)
end

section
variable {K : PySem.W.Frag} {G G' : Hp}
mutual
theorem Den.mono (s : Same G G') : ∀ {v : V} {d : D}, Den K G v d → Den K G' v d
  | _, _, .non => .non
  | _, _, .bl b => .bl b
  | _, _, .int i => .int i
  | _, _, .str x h o => .str x h o
  | _, _, .lst e z r => .lst (s _ _ e) z (DenAll.mono s r)
  | _, _, .tup (.inl (.inl e)) z r => .tup (.inl (.inl (s _ _ e))) z (DenAll.mono s r)
  | _, _, .tup (.inl (.inr ⟨o, e⟩)) z r => .tup (.inl (.inr ⟨o, s _ _ e⟩)) z (DenAll.mono s r)
  | _, _, .tup (.inr e) z r => .tup (.inr e) z (DenAll.mono s r)
theorem DenAll.mono (s : Same G G') : ∀ {vs : List V} {ds : List D}, DenAll K G vs ds → DenAll K G' vs ds
  | _, _, .nil => .nil
  | _, _, .cons h r => .cons (Den.mono s h) (DenAll.mono s r)
end
mutual
theorem Den.dp : ∀ {v : V} {d : D}, Den K G v d → Dp K G v d
  | _, _, .non => .non
  | _, _, .bl b => .bl b
  | _, _, .int i => .int i
  | _, _, .str x h o => .str x
  | _, _, .lst e z r => .lst (SqL.of e) (DenAll.dp r)
  | _, _, .tup e z r => .tup e (DenAll.dp r)
theorem DenAll.dp : ∀ {vs : List V} {ds : List D}, DenAll K G vs ds → DpAll K G vs ds
  | _, _, .nil => .nil
  | _, _, .cons h r => .cons (Den.dp h) (DenAll.dp r)
end
theorem DenAll.length : ∀ {vs : List V} {ds : List D}, DenAll K G vs ds → vs.length = ds.length
  | _, _, .nil => rfl
  | _, _, .cons _ r => congrArg (· + 1) (DenAll.length r)
theorem DenAll.get : ∀ {vs : List V} {ds : List D} {i : Nat} {d : D}, DenAll K G vs ds → ds[i]? = some d → ∃ v, vs[i]? = some v ∧ Den K G v d
  | _, _, _, _, .nil, e => by simp at e
  | _, _, 0, _, .cons h _, e => by simp at e; subst e; exact ⟨_, rfl, h⟩
  | _, _, i + 1, _, .cons _ r, e => by
    obtain ⟨v, h1, h2⟩ := DenAll.get (i := i) r (by simpa using e)
    exact ⟨v, by simpa using h1, h2⟩
theorem DenAll.getV : ∀ {vs : List V} {ds : List D} {i : Nat} {v : V}, DenAll K G vs ds → vs[i]? = some v → ∃ d, ds[i]? = some d ∧ Den K G v d
  | _, _, _, _, .nil, e => by simp at e
  | _, _, 0, _, .cons h _, e => by simp at e; subst e; exact ⟨_, rfl, h⟩
  | _, _, i + 1, _, .cons _ r, e => by
    obtain ⟨v, h1, h2⟩ := DenAll.getV (i := i) r (by simpa using e)
    exact ⟨v, by simpa using h1, h2⟩
theorem DenAll.append : ∀ {vs ws : List V} {ds es : List D}, DenAll K G vs ds → DenAll K G ws es → DenAll K G (vs ++ ws) (ds ++ es)
  | _, _, _, _, .nil, s => s
  | _, _, _, _, .cons h r, s => .cons h (DenAll.append r s)
theorem DenAll.take : ∀ {vs : List V} {ds : List D} (n : Nat), DenAll K G vs ds → DenAll K G (vs.take n) (ds.take n)
  | _, _, 0, _ => by simp only [List.take_zero]; exact .nil
  | _, _, _ + 1, .nil => by simp only [List.take_nil]; exact .nil
  | _, _, n + 1, .cons h r => .cons h (DenAll.take n r)
theorem DenAll.drop : ∀ {vs : List V} {ds : List D} (n : Nat), DenAll K G vs ds → DenAll K G (vs.drop n) (ds.drop n)
  | _, _, 0, r => by simpa using r
  | _, _, _ + 1, .nil => by simp only [List.drop_nil]; exact .nil
  | _, _, n + 1, .cons _ r => by simpa using DenAll.drop n r
theorem DenAll.set {v : V} {d : D} (h : Den K G v d) : ∀ {vs : List V} {ds : List D} (i : Nat), DenAll K G vs ds → DenAll K G (vs.set i v) (ds.set i d)
  | _, _, _, .nil => .nil
  | _, _, 0, .cons _ r => .cons h r
  | _, _, i + 1, .cons q r => .cons q (DenAll.set h i r)
theorem DenAll.erase : ∀ {vs : List V} {ds : List D} (i : Nat), DenAll K G vs ds → DenAll K G (vs.eraseIdx i) (ds.eraseIdx i)
  | _, _, _, .nil => .nil
  | _, _, 0, .cons _ r => r
  | _, _, i + 1, .cons h r => .cons h (DenAll.erase i r)
theorem Den.at_new {p : Addr} {o : HO} {v : V} {d : D} (h : Den K G v d) (hn : G p = none) : Den K (upd G p o) v d := h.mono fun b u e => by rw [upd_ne (ne_of_none e hn)]; exact e
end

/-! ### growth: G is the part that never changes again -/
structure Gr (G H G' H' : Hp) : Prop where
  keep : Same G G'
  sub : Same G' H'
  all : Same H H'
  new : ∀ b, G' b ≠ none → G b ≠ none ∨ H b = none
theorem Gr.refl {G H : Hp} (s : Same G H) : Gr G H G H := ⟨Same.refl _, s, Same.refl _, fun _ h => .inl h⟩
theorem Gr.trans {G H G1 H1 G2 H2 : Hp} (a : Gr G H G1 H1) (b : Gr G1 H1 G2 H2) : Gr G H G2 H2 := ⟨a.keep.trans b.keep, b.sub, a.all.trans b.all, fun c h => by
  rcases b.new c h with h1 | h1
  · exact a.new c h1
  · exact .inr (a.all.free h1)⟩
/-- a new object, frozen at once -/
theorem Gr.upd {G H : Hp} {p : Addr} {o : HO} (s : Same G H) (hp : H p = none) : Gr G H (L2.upd G p o) (L2.upd H p o) := by
  have hg : G p = none := s.free hp
  refine ⟨fun b u e => ?_, fun b u e => ?_, fun b u e => ?_, fun b h => ?_⟩
  · rw [upd_ne (ne_of_none e hg)]; exact e
  · by_cases hb : b = p
    · subst hb; rw [upd_same] at e ⊢; exact e
    · rw [upd_ne hb] at e ⊢; exact s b u e
  · rw [upd_ne (ne_of_none e hp)]; exact e
  · by_cases hb : b = p
    · subst hb; exact .inr hp
    · rw [upd_ne hb] at h; exact .inl h
/-- a new object, not frozen yet -/
theorem Gr.own {G H : Hp} {p : Addr} {o : HO} (s : Same G H) (hp : H p = none) : Gr G H G (L2.upd H p o) := by
  refine ⟨Same.refl _, fun b u e => ?_, fun b u e => ?_, fun b h => .inl h⟩
  · rw [upd_ne (ne_of_none (s b u e) hp)]; exact s b u e
  · rw [upd_ne (ne_of_none e hp)]; exact e
/-- freeze what is new -/
theorem Gr.freeze {G H G' H' : Hp} {p : Addr} {o : HO} (g : Gr G H G' H') (h1 : G' p = none) (h2 : H p = none) (h3 : H' p = some o) : Gr G H (L2.upd G' p o) H' := by
  refine ⟨fun b u e => ?_, fun b u e => ?_, g.all, fun b h => ?_⟩
  · have e' := g.keep b u e
    rw [upd_ne (ne_of_none e' h1)]; exact e'
  · by_cases hb : b = p
    · subst hb; rw [upd_same] at e; cases e; exact h3
    · rw [upd_ne hb] at e; exact g.sub b u e
  · by_cases hb : b = p
    · subst hb; exact .inr h2
    · rw [upd_ne hb] at h; exact g.new b h

/-! ### a dict's pairs -/
def kD : Key → D
  | .inl i => .int i
  | .inr x => .str x
inductive KVsD (K : PySem.W.Frag) (G : Hp) : List (Key × V) → List (Key × D) → Prop
  | nil : KVsD K G [] []
  | cons {k : Key} {v : V} {d : D} {r : List (Key × V)} {s : List (Key × D)} : Den K G (kV k) (kD k) → Den K G v d → KVsD K G r s → KVsD K G ((k, v) :: r) ((k, d) :: s)
theorem KVsD.mono {K : PySem.W.Frag} {G G' : Hp} (s : Same G G') : ∀ {xs : List (Key × V)} {kvs : List (Key × D)}, KVsD K G xs kvs → KVsD K G' xs kvs
  | _, _, .nil => .nil
  | _, _, .cons a b r => .cons (a.mono s) (b.mono s) (KVsD.mono s r)
theorem KVsD.length {K : PySem.W.Frag} {G : Hp} : ∀ {xs : List (Key × V)} {kvs : List (Key × D)}, KVsD K G xs kvs → xs.length = kvs.length
  | _, _, .nil => rfl
  | _, _, .cons _ _ r => congrArg (· + 1) (KVsD.length r)

/-! ### the slots -/
/-- what a slot holds: data; a list that is this frame's own; the draws' state; the script -/
inductive MO (S : Type) where
  | d (x : D) | lst (xs : List D) | st (s : S) | scr (ns : List Int) | dic (kvs : List (Key × D))
abbrev DS (S : Type) := List (Option (MO S))

def ViewAt (K : PySem.W.Frag) (G : Hp) {S : Type} (v : V) : MO S → Prop
  | .d x => Den K G v x
  | .lst xs => Den K G v (.list xs)
  | .st _ => True
  | .scr ns => ∃ a, v = .ref a ∧ SqL K G a (ns.map V.int)
  | .dic kvs => ∃ a xs, v = .ref a ∧ G a = some (.dK xs) ∧ KVsD K G xs kvs
structure View (K : PySem.W.Frag) (G : Hp) {S : Type} (σ : L2.St) (ds : DS S) : Prop where
  len : ds.length = σ.length
  has : ∀ (i : Nat) (m : MO S), ds[i]? = some (some m) → ∃ v, σ[i]? = some (some v) ∧ ViewAt K G v m
theorem sql_mono {K : PySem.W.Frag} {G G' : Hp} {a : Addr} {xs : List V} (s : Same G G') (h : SqL K G a xs) : SqL K G' a xs := s.seq h
theorem sqt_mono {K : PySem.W.Frag} {G G' : Hp} {a : Addr} {xs : List V} (s : Same G G') (h : SqT K G a xs) : SqT K G' a xs := by
  rcases h with (h | ⟨o, h⟩) | h
  · exact .inl (.inl (s _ _ h))
  · exact .inl (.inr ⟨o, s _ _ h⟩)
  · exact .inr h
theorem ViewAt.mono {K : PySem.W.Frag} {G G' : Hp} {S : Type} {v : V} {m : MO S} (s : Same G G') (h : ViewAt K G v m) : ViewAt K G' v m := by
  cases m with
  | d x => exact Den.mono s h
  | lst xs => exact Den.mono s h
  | st _ => trivial
  | scr ns => obtain ⟨a, e, h⟩ := h; exact ⟨a, e, sql_mono s h⟩
  | dic kvs => obtain ⟨a, xs, e, q, h⟩ := h; exact ⟨a, xs, e, s _ _ q, h.mono s⟩
theorem View.mono {K : PySem.W.Frag} {G G' : Hp} {S : Type} {σ : L2.St} {ds : DS S} (s : Same G G') (h : View K G σ ds) : View K G' σ ds := ⟨h.len, fun i m e => by
  obtain ⟨v, h1, h2⟩ := h.has i m e
  exact ⟨v, h1, h2.mono s⟩⟩

/-! ### pure readings -/
section
variable {S : Type}
def tP (K : PySem.W.Frag) (g : DS S → Option D) : TE := fun σ H Q => ∃ G ds d, Same G H ∧ View K G σ ds ∧ g ds = some d ∧ ∀ v G' H', Gr G H G' H' → Den K G' v d → Q v H'
/-- a new list -/
def tF (K : PySem.W.Frag) (g : DS S → Option (List D)) : TE := fun σ H Q => ∃ G ds xs, Same G H ∧ View K G σ ds ∧ g ds = some xs ∧
  ∀ p vs G' H', Gr G H G' H' → G' p = none → H p = none → H' p = some (.lst vs) → vs.length ≤ sizeLine → DenAll K G' vs xs → Q (.ref p) H'
def tPT (K : PySem.W.Frag) (g : DS S → Option Bool) : TT := fun σ H Q => ∃ G ds b, Same G H ∧ View K G σ ds ∧ g ds = some b ∧ ∀ G' H', Gr G H G' H' → Q b H'
def tPA (K : PySem.W.Frag) (g : DS S → Option (List D)) : TA := fun σ H Q => ∃ G ds xs, Same G H ∧ View K G σ ds ∧ g ds = some xs ∧ ∀ vs G' H', Gr G H G' H' → DenAll K G' vs xs → Q vs H'
end

theorem PE.imp {X : Cx} {e : Expr} {t t' : TE} (h : PE X e t) (i : ∀ σ H Q, t' σ H Q → t σ H Q) : PE X e t' := ⟨fun pins s σ H Q I q => h.run pins s σ H Q I (i σ H Q q)⟩
theorem PT.imp {X : Cx} {e : Expr} {t t' : TT} (h : PT X e t) (i : ∀ σ H Q, t' σ H Q → t σ H Q) : PT X e t' := ⟨fun pins s σ H Q I q => h.run pins s σ H Q I (i σ H Q q)⟩
theorem PW.imp {X : Cx} {e : Expr} {t t' : TT} (h : PW X e t) (i : ∀ σ H Q, t' σ H Q → t σ H Q) : PW X e t' := ⟨fun wh pins s σ H Q I q => h.run wh pins s σ H Q I (i σ H Q q)⟩
theorem PTs.imp {X : Cx} {e : List Expr} {t t' : TT} (h : PTs X e t) (i : ∀ σ H Q, t' σ H Q → t σ H Q) : PTs X e t' := ⟨fun pins s σ H Q I q => h.run pins s σ H Q I (i σ H Q q)⟩
theorem PA.imp {X : Cx} {e : List Expr} {t t' : TA} (h : PA X e t) (i : ∀ σ H Q, t' σ H Q → t σ H Q) : PA X e t' := ⟨fun pos pins s σ H Q I q => h.run pos pins s σ H Q I (i σ H Q q)⟩
theorem PS.imp {X : Cx} {e : Stmt} {t t' : TS} (h : PS X e t) (i : ∀ D σ H, t' D σ H → t D σ H) : PS X e t' := ⟨fun pins s σ H D I q => h.run pins s σ H D I (i D σ H q)⟩
theorem PSs.imp {X : Cx} {e : List Stmt} {t t' : TS} (h : PSs X e t) (i : ∀ D σ H, t' D σ H → t D σ H) : PSs X e t' := ⟨fun pins s σ H D I q => h.run pins s σ H D I (i D σ H q)⟩

section
variable {S : Type} {X : Cx} {a b c e : Expr} {es : List Expr} {ga gb gc : DS S → Option D} {pos : Pos}

/-! names, constants -/
def gVar (i : Nat) : DS S → Option D := fun ds => match ds[i]? with
  | some (some (.d x)) => some x
  | some (some (.lst xs)) => some (.list xs)
  | _ => none
theorem ep_var {i : Nat} (h : PE X e (tVar i)) : PE X e (tP X.K (gVar (S := S) i)) := PE.imp h fun σ H Q ⟨G, ds, d, s, w, e, k⟩ => by
  unfold gVar at e
  split at e
  · rename_i x q
    cases e
    obtain ⟨v, h1, h2⟩ := w.has i _ q
    exact ⟨v, h1, k v G H (.refl s) h2⟩
  · rename_i x q
    cases e
    obtain ⟨v, h1, h2⟩ := w.has i _ q
    exact ⟨v, h1, k v G H (.refl s) h2⟩
  · cases e
def gC (d : D) : DS S → Option D := fun _ => some d
theorem ep_c {v : V} {d : D} (h : PE X e (tC v)) (r : ∀ G, Den X.K G v d) : PE X e (tP X.K (gC (S := S) d)) := PE.imp h fun σ H Q ⟨G, ds, d, s, w, e, k⟩ => by
  cases e
  exact k v G H (.refl s) (r G)
theorem ep_int {i : Int} {j pos} : PE X (.Constant (.int i) j pos) (tP X.K (gC (S := S) (.int i))) := ep_c pe_int fun _ => .int i
theorem ep_bl {b : Bool} {j pos} : PE X (.Constant (.bool b) j pos) (tP X.K (gC (S := S) (.bool b))) := ep_c pe_bl fun _ => .bl b
theorem ep_non {j pos} : PE X (.Constant .none j pos) (tP X.K (gC (S := S) .none)) := ep_c pe_non fun _ => .non
theorem ep_str {x : Str} {j pos} (h : x.length ≤ sizeLine := by decide +kernel) (o : PyData.strOk x = true := by decide +kernel) : PE X (.Constant (.str x) j pos) (tP X.K (gC (S := S) (.str x))) := ep_c pe_str fun _ => .str x h o

/-! operators -/
def R2D (K : PySem.W.Frag) (r : R2) (g : D → D → Option D) : Prop := ∀ x y dx dy d G H (Q : VK), Same G H → Den K G x dx → Den K G y dy → g dx dy = some d → (∀ v G' H', Gr G H G' H' → Den K G' v d → Q v H') → r x y H Q
def R2F (K : PySem.W.Frag) (r : R2) (g : D → D → Option (List D)) : Prop := ∀ x y dx dy xs G H (Q : VK), Same G H → Den K G x dx → Den K G y dy → g dx dy = some xs →
  (∀ p vs G' H', Gr G H G' H' → G' p = none → H p = none → H' p = some (.lst vs) → vs.length ≤ sizeLine → DenAll K G' vs xs → Q (.ref p) H') → r x y H Q
def gOp (g : D → D → Option D) (ga gb : DS S → Option D) : DS S → Option D := fun ds => (ga ds).bind fun x => (gb ds).bind fun y => g x y
theorem p_op {r : R2} {g : D → D → Option D} (hr : R2D X.K r g) {σ : L2.St} {H : Hp} {Q : VK} (h : tP X.K (gOp g ga gb) σ H Q) : tOp r (tP X.K ga) (tP X.K gb) σ H Q := by
  obtain ⟨G, ds, d, s, w, e, k⟩ := h
  unfold gOp at e
  cases ea : ga ds with
  | none => rw [ea] at e; cases e
  | some x =>
    rw [ea] at e
    cases eb : gb ds with
    | none => simp [eb] at e
    | some y =>
      simp only [eb, Option.bind_some] at e
      refine ⟨G, ds, x, s, w, ea, fun v G1 H1 g1 d1 => ?_⟩
      refine ⟨G1, ds, y, g1.sub, w.mono g1.keep, eb, fun u G2 H2 g2 d2 => ?_⟩
      exact hr v u x y d G2 H2 Q g2.sub (d1.mono g2.keep) d2 e fun z G3 H3 g3 d3 => k z G3 H3 ((g1.trans g2).trans g3) d3
theorem ep_bin {op : Operator} {r : R2} {g : D → D → Option D} (ho : OpR X (binaryOp op) r) (hr : R2D X.K r g) (ha : PE X a (tP X.K ga)) (hb : PE X b (tP X.K gb)) : PE X (.BinOp a op b pos) (tP X.K (gOp g ga gb)) :=
  PE.imp (pe_op ho ha hb) fun _ _ _ h => p_op hr h
theorem ep_cmp {op : CmpOp} {r : R2} {g : D → D → Option D} (ho : OpR X (compareOp op) r) (hr : R2D X.K r g) (ha : PE X a (tP X.K ga)) (hb : PE X b (tP X.K gb)) (hm : behindInMarks op b = false) : PE X (.Compare a [op] [b] pos) (tP X.K (gOp g ga gb)) :=
  PE.imp (pe_cmpR ho ha hb hm) fun _ _ _ h => p_op hr h
theorem ep_ix {r : R2} {g : D → D → Option D} (ho : IxR X r) (hr : R2D X.K r g) (ha : PE X a (tP X.K ga)) (hb : PE X b (tP X.K gb)) (hs : PlainIx b) : PE X (.Subscript a b pos) (tP X.K (gOp g ga gb)) :=
  PE.imp (pe_ix ho ha hb hs) fun _ _ _ h => p_op hr h
def gOpF (g : D → D → Option (List D)) (ga gb : DS S → Option D) : DS S → Option (List D) := fun ds => (ga ds).bind fun x => (gb ds).bind fun y => g x y
theorem p_opF {r : R2} {g : D → D → Option (List D)} (hr : R2F X.K r g) {σ : L2.St} {H : Hp} {Q : VK} (h : tF X.K (gOpF g ga gb) σ H Q) : tOp r (tP X.K ga) (tP X.K gb) σ H Q := by
  obtain ⟨G, ds, d, s, w, e, k⟩ := h
  unfold gOpF at e
  cases ea : ga ds with
  | none => rw [ea] at e; cases e
  | some x =>
    rw [ea] at e
    cases eb : gb ds with
    | none => simp [eb] at e
    | some y =>
      simp only [eb, Option.bind_some] at e
      refine ⟨G, ds, x, s, w, ea, fun v G1 H1 g1 d1 => ?_⟩
      refine ⟨G1, ds, y, g1.sub, w.mono g1.keep, eb, fun u G2 H2 g2 d2 => ?_⟩
      exact hr v u x y d G2 H2 Q g2.sub (d1.mono g2.keep) d2 e fun p vs G3 H3 g3 h1 h2 h3 z d3 => k p vs G3 H3 ((g1.trans g2).trans g3) h1 ((g1.trans g2).all.free h2) h3 z d3
theorem ef_bin {op : Operator} {r : R2} {g : D → D → Option (List D)} (ho : OpR X (binaryOp op) r) (hr : R2F X.K r g) (ha : PE X a (tP X.K ga)) (hb : PE X b (tP X.K gb)) : PE X (.BinOp a op b pos) (tF X.K (gOpF g ga gb)) :=
  PE.imp (pe_op ho ha hb) fun _ _ _ h => p_opF hr h
/-- a new list as data -/
def gL (g : DS S → Option (List D)) : DS S → Option D := fun ds => (g ds).map .list
theorem ep_f {g : DS S → Option (List D)} (h : PE X e (tF X.K g)) : PE X e (tP X.K (gL g)) := PE.imp h fun σ H Q ⟨G, ds, d, s, w, e, k⟩ => by
  unfold gL at e
  cases eg : g ds with
  | none => rw [eg] at e; cases e
  | some xs =>
    rw [eg] at e
    cases e
    refine ⟨G, ds, xs, s, w, eg, fun p vs G' H' g h1 h2 h3 z d => ?_⟩
    refine k (.ref p) (upd G' p (.lst vs)) H' (g.freeze h1 h2 h3) (.lst upd_same z (d.mono fun b u e => ?_))
    rw [upd_ne (ne_of_none e h1)]; exact e
def R1D (K : PySem.W.Frag) (r : V → Hp → VK → Prop) (g : D → Option D) : Prop := ∀ x dx d G H (Q : VK), Same G H → Den K G x dx → g dx = some d → (∀ v G' H', Gr G H G' H' → Den K G' v d → Q v H') → r x H Q
def gUn (g : D → Option D) (ga : DS S → Option D) : DS S → Option D := fun ds => (ga ds).bind g
theorem ep_un {op : UnaryOp} {r : V → Hp → VK → Prop} {g : D → Option D} (ho : UnR X (unaryOp op) r) (hr : R1D X.K r g) (ha : PE X a (tP X.K ga)) : PE X (.UnaryOp op a pos) (tP X.K (gUn g ga)) :=
  PE.imp (pe_un ho ha) fun σ H Q ⟨G, ds, d, s, w, e, k⟩ => by
    unfold gUn at e
    cases ea : ga ds with
    | none => rw [ea] at e; cases e
    | some x =>
      rw [ea] at e
      refine ⟨G, ds, x, s, w, ea, fun v G1 H1 g1 d1 => ?_⟩
      exact hr v x d G1 H1 Q g1.sub d1 e fun z G3 H3 g3 d3 => k z G3 H3 (g1.trans g3) d3

/-! argument lists, displays -/
def gNil : DS S → Option (List D) := fun _ => some []
def gCons (g : DS S → Option D) (r : DS S → Option (List D)) : DS S → Option (List D) := fun ds => (g ds).bind fun x => (r ds).bind fun xs => some (x :: xs)
theorem ap_nil : PA X [] (tPA X.K (gNil (S := S))) := PA.imp pa_nil fun σ H Q ⟨G, ds, d, s, w, e, k⟩ => by
  cases e
  exact k [] G H (.refl s) .nil
theorem ap_cons {gr : DS S → Option (List D)} (ha : PE X e (tP X.K ga)) (hr : PA X es (tPA X.K gr)) (hs : starEach (e :: es) X.env = (false, eval e X.env) :: starEach es X.env := by rfl) : PA X (e :: es) (tPA X.K (gCons ga gr)) :=
  PA.imp (pa_cons ha hr hs) fun σ H Q ⟨G, ds, d, s, w, e, k⟩ => by
    unfold gCons at e
    cases ea : ga ds with
    | none => rw [ea] at e; cases e
    | some x =>
      rw [ea] at e
      cases eb : gr ds with
      | none => simp [eb] at e
      | some xs =>
        simp only [eb, Option.bind_some] at e
        cases e
        refine ⟨G, ds, x, s, w, ea, fun v G1 H1 g1 d1 => ?_⟩
        exact ⟨G1, ds, xs, g1.sub, w.mono g1.keep, eb, fun vs G2 H2 g2 d2 => k (v :: vs) G2 H2 (g1.trans g2) (.cons (d1.mono g2.keep) d2)⟩
def gTup (g : DS S → Option (List D)) : DS S → Option D := fun ds => (g ds).bind fun xs => if xs.length ≤ sizeLine then some (.tuple xs) else none
theorem ep_tup {g : DS S → Option (List D)} {x1} (h : PA X es (tPA X.K g)) : PE X (.Tuple es x1 pos) (tP X.K (gTup g)) := PE.imp (pe_tup h) fun σ H Q ⟨G, ds, d, s, w, e, k⟩ => by
  unfold gTup at e
  cases eg : g ds with
  | none => rw [eg] at e; cases e
  | some xs =>
    simp only [eg, Option.bind_some] at e
    split at e
    · cases e
      rename_i hz
      refine ⟨G, ds, xs, s, w, eg, fun vs G1 H1 g1 d1 => ⟨by rw [d1.length]; exact hz, fun p hp => ?_⟩⟩
      have hg := g1.sub.free hp
      exact k (.ref p) (upd G1 p (.tup vs)) _ (g1.trans (.upd g1.sub hp)) (.tup (.inl (.inl upd_same)) (by rw [d1.length]; exact hz) (d1.mono fun b u e => by rw [upd_ne (ne_of_none e hg)]; exact e))
    · cases e
def gLst (g : DS S → Option (List D)) : DS S → Option (List D) := fun ds => (g ds).bind fun xs => if xs.length ≤ sizeLine then some xs else none
theorem ef_lst {g : DS S → Option (List D)} (h : PA X es (tPA X.K g)) : PE X (.List es pos) (tF X.K (gLst g)) := PE.imp (pe_lst h) fun σ H Q ⟨G, ds, d, s, w, e, k⟩ => by
  unfold gLst at e
  cases eg : g ds with
  | none => rw [eg] at e; cases e
  | some xs =>
    simp only [eg, Option.bind_some] at e
    split at e
    · cases e
      rename_i hz
      refine ⟨G, ds, _, s, w, eg, fun vs G1 H1 g1 d1 => ⟨by rw [d1.length]; exact hz, fun p hp => ?_⟩⟩
      exact k p vs G1 (upd H1 p (.lst vs)) (g1.trans (.own g1.sub hp)) (g1.sub.free hp) (g1.all.free hp) upd_same (by rw [d1.length]; exact hz) d1
    · cases e

/-! truth, tests -/
def truD : D → Option Bool
  | .none => some false
  | .bool b => some b
  | .int i => some (i != 0)
  | .str x => some ((x.length : Int) != 0)
  | .list xs => some (!xs.isEmpty)
  | .tuple xs => some (!xs.isEmpty)
  | .dict _ => none
theorem isEmpty_den {K : PySem.W.Frag} {G : Hp} {vs : List V} {ds : List D} (h : DenAll K G vs ds) : vs.isEmpty = ds.isEmpty := by cases h <;> rfl
theorem truD_ok {K : PySem.W.Frag} {G H : Hp} {v : V} {d : D} {k : Bool} (s : Same G H) (h : Den K G v d) (e : truD d = some k) : TruV K v H k := by
  cases h with
  | non => cases e; rfl
  | bl b => cases e; rfl
  | int i => cases e; rfl
  | str x hx ho => cases e; exact ⟨hx, rfl⟩
  | lst q z r => cases e; exact .inl ⟨_, SqL.of (s _ _ q), by rw [isEmpty_den r]⟩
  | tup q z r => cases e; exact .inr (.inl ⟨_, sqt_mono s q, by rw [isEmpty_den r]⟩)
def gTr (g : DS S → Option D) : DS S → Option Bool := fun ds => (g ds).bind truD
theorem p_tr {σ : L2.St} {H : Hp} {Q : Bool → Hp → Prop} (h : tPT X.K (gTr ga) σ H Q) : tP X.K ga σ H fun x H' => ∃ k, TruV X.K x H' k ∧ Q k H' := by
  obtain ⟨G, ds, b, s, w, e, k⟩ := h
  unfold gTr at e
  cases ea : ga ds with
  | none => rw [ea] at e; cases e
  | some x =>
    rw [ea] at e
    exact ⟨G, ds, x, s, w, ea, fun v G1 H1 g1 d1 => ⟨b, truD_ok g1.sub d1 e, k G1 H1 g1⟩⟩
theorem tp_tr (ha : PE X a (tP X.K ga)) (he : ∀ whole, isTrue a X.env whole = (do let v ← whole; standAt a.pos; holding [v] (truthy v)) := by intro _; rfl) : PT X a (tPT X.K (gTr ga)) :=
  PT.imp (pt_truth ha he) fun _ _ _ h => p_tr h
def gB (g : DS S → Option D) : DS S → Option Bool := fun ds => match g ds with
  | some (.bool b) => some b
  | _ => none
theorem tp_cmp {op : CmpOp} {r : R2} {g : D → D → Option D} (ho : OpR X (compareOp op) r) (hr : R2D X.K r g) (ha : PE X a (tP X.K ga)) (hb : PE X b (tP X.K gb)) (hm : behindInMarks op b = false) : PT X (.Compare a [op] [b] pos) (tPT X.K (gB (gOp g ga gb))) :=
  PT.imp (pt_cmpR ho ha hb hm) fun σ H Q ⟨G, ds, b, s, w, e, k⟩ => by
    unfold gB at e
    split at e
    · cases e
      rename_i eg
      refine p_op (g := g) hr ⟨G, ds, _, s, w, eg, fun v G1 H1 g1 d1 => ?_⟩
      cases d1
      exact ⟨_, rfl, k G1 H1 g1⟩
    · cases e
def gNot (g : DS S → Option Bool) : DS S → Option Bool := fun ds => (g ds).map (!·)
theorem tp_not {g : DS S → Option Bool} (h : PT X a (tPT X.K g)) : PT X (.UnaryOp .Not a pos) (tPT X.K (gNot g)) := PT.imp (pt_not h) fun σ H Q ⟨G, ds, b, s, w, e, k⟩ => by
  unfold gNot at e
  cases eg : g ds with
  | none => rw [eg] at e; cases e
  | some c =>
    rw [eg] at e
    cases e
    exact ⟨G, ds, c, s, w, eg, fun G1 H1 g1 => k G1 H1 g1⟩
def gAnd (g h : DS S → Option Bool) : DS S → Option Bool := fun ds => (g ds).bind fun b => if b then h ds else some false
def gOr (g h : DS S → Option Bool) : DS S → Option Bool := fun ds => (g ds).bind fun b => if b then some true else h ds
variable {tests : List Expr} {h1 h2 : DS S → Option Bool}
theorem p_and {σ : L2.St} {H : Hp} {Q : Bool → Hp → Prop} (h : tPT X.K (gAnd h1 h2) σ H Q) : tAnd (tPT X.K h1) (tPT X.K h2) σ H Q := by
  obtain ⟨G, ds, b, s, w, e, k⟩ := h
  unfold gAnd at e
  cases e1 : h1 ds with
  | none => rw [e1] at e; cases e
  | some c =>
    rw [e1] at e
    refine ⟨G, ds, c, s, w, e1, fun G1 H1 g1 => ?_⟩
    cases c with
    | true => exact iteT ⟨G1, ds, b, g1.sub, w.mono g1.keep, by simpa using e, fun G2 H2 g2 => k G2 H2 (g1.trans g2)⟩
    | false =>
      have e' : b = false := by simpa using e.symm
      subst e'
      exact iteF (k G1 H1 g1)
theorem p_or {σ : L2.St} {H : Hp} {Q : Bool → Hp → Prop} (h : tPT X.K (gOr h1 h2) σ H Q) : tOr (tPT X.K h1) (tPT X.K h2) σ H Q := by
  obtain ⟨G, ds, b, s, w, e, k⟩ := h
  unfold gOr at e
  cases e1 : h1 ds with
  | none => rw [e1] at e; cases e
  | some c =>
    rw [e1] at e
    refine ⟨G, ds, c, s, w, e1, fun G1 H1 g1 => ?_⟩
    cases c with
    | false => exact iteF ⟨G1, ds, b, g1.sub, w.mono g1.keep, by simpa using e, fun G2 H2 g2 => k G2 H2 (g1.trans g2)⟩
    | true =>
      have e' : b = true := by simpa using e.symm
      subst e'
      exact iteT (k G1 H1 g1)
end
end DL
set_option Elab.async false
set_option linter.all false
set_option maxRecDepth 100000
set_option maxHeartbeats 4000000
namespace DL
open PySem PySem.Spec PyProof.Rows L2

section
variable {S : Type} {X : Cx} {a b c e : Expr} {es rest : List Expr} {ga gb gc : DS S → Option D} {h1 h2 : DS S → Option Bool} {pos : Pos}
theorem tw_and1 (ha : PT X a (tPT X.K h1)) : PW X (.BoolOp .And [a] pos) (tPT X.K h1) := pw_and1 ha
theorem tw_or1 (ha : PT X a (tPT X.K h1)) : PW X (.BoolOp .Or [a] pos) (tPT X.K h1) := pw_or1 ha
theorem tw_and (ha : PT X a (tPT X.K h1)) (hb : PW X (.BoolOp .And (b :: rest) pos) (tPT X.K h2)) : PW X (.BoolOp .And (a :: b :: rest) pos) (tPT X.K (gAnd h1 h2)) := PW.imp (pw_and ha hb) fun _ _ _ h => p_and h
theorem tw_or (ha : PT X a (tPT X.K h1)) (hb : PW X (.BoolOp .Or (b :: rest) pos) (tPT X.K h2)) : PW X (.BoolOp .Or (a :: b :: rest) pos) (tPT X.K (gOr h1 h2)) := PW.imp (pw_or ha hb) fun _ _ _ h => p_or h
/-- x or y, x and y, not x as values -/
def gOrV (ga gb : DS S → Option D) : DS S → Option D := fun ds => (ga ds).bind fun x => (truD x).bind fun k => if k then some x else gb ds
def gAndV (ga gb : DS S → Option D) : DS S → Option D := fun ds => (ga ds).bind fun x => (truD x).bind fun k => if k then gb ds else some x
def gNotV (ga : DS S → Option D) : DS S → Option D := fun ds => (ga ds).bind fun x => (truD x).map fun k => .bool (!k)
theorem ep_one {op} (h : PE X a (tP X.K ga)) : PE X (.BoolOp op [a] pos) (tP X.K ga) := pe_one h
theorem ep_or (ha : PE X a (tP X.K ga)) (hb : PE X (.BoolOp .Or (b :: rest) pos) (tP X.K gb)) : PE X (.BoolOp .Or (a :: b :: rest) pos) (tP X.K (gOrV ga gb)) := PE.imp (pe_orT ha hb) fun σ H Q ⟨G, ds, d, s, w, e, k⟩ => by
  unfold gOrV at e
  cases ea : ga ds with
  | none => rw [ea] at e; cases e
  | some x =>
    rw [ea] at e
    cases et : truD x with
    | none => simp [et] at e
    | some t =>
      simp only [et, Option.bind_some] at e
      refine ⟨G, ds, x, s, w, ea, fun v G1 H1 g1 d1 => ⟨t, truD_ok g1.sub d1 et, ?_⟩⟩
      cases t with
      | true =>
        have e' : x = d := by simpa using e
        subst e'
        exact iteT (k v G1 H1 g1 d1)
      | false => exact iteF ⟨G1, ds, d, g1.sub, w.mono g1.keep, by simpa using e, fun u G2 H2 g2 d2 => k u G2 H2 (g1.trans g2) d2⟩
theorem ep_and (ha : PE X a (tP X.K ga)) (hb : PE X (.BoolOp .And (b :: rest) pos) (tP X.K gb)) : PE X (.BoolOp .And (a :: b :: rest) pos) (tP X.K (gAndV ga gb)) := PE.imp (pe_andT ha hb) fun σ H Q ⟨G, ds, d, s, w, e, k⟩ => by
  unfold gAndV at e
  cases ea : ga ds with
  | none => rw [ea] at e; cases e
  | some x =>
    rw [ea] at e
    cases et : truD x with
    | none => simp [et] at e
    | some t =>
      simp only [et, Option.bind_some] at e
      refine ⟨G, ds, x, s, w, ea, fun v G1 H1 g1 d1 => ⟨t, truD_ok g1.sub d1 et, ?_⟩⟩
      cases t with
      | false =>
        have e' : x = d := by simpa using e
        subst e'
        exact iteF (k v G1 H1 g1 d1)
      | true => exact iteT ⟨G1, ds, d, g1.sub, w.mono g1.keep, by simpa using e, fun u G2 H2 g2 d2 => k u G2 H2 (g1.trans g2) d2⟩
theorem ep_not (ha : PE X a (tP X.K ga)) : PE X (.UnaryOp .Not a pos) (tP X.K (gNotV ga)) := PE.imp (pe_notT ha) fun σ H Q ⟨G, ds, d, s, w, e, k⟩ => by
  unfold gNotV at e
  cases ea : ga ds with
  | none => rw [ea] at e; cases e
  | some x =>
    rw [ea] at e
    cases et : truD x with
    | none => simp [et] at e
    | some t =>
      simp only [et, Option.map_some, Option.bind_some] at e
      cases e
      exact ⟨G, ds, x, s, w, ea, fun v G1 H1 g1 d1 => ⟨t, truD_ok g1.sub d1 et, k _ G1 H1 g1 (.bl _)⟩⟩
def gIf (h : DS S → Option Bool) (ga gb : DS S → Option D) : DS S → Option D := fun ds => (h ds).bind fun k => if k then ga ds else gb ds
theorem ep_if (hc : PT X c (tPT X.K h1)) (ha : PE X a (tP X.K ga)) (hb : PE X b (tP X.K gb)) : PE X (.IfExp c a b pos) (tP X.K (gIf h1 ga gb)) := PE.imp (pe_ifExp hc ha hb) fun σ H Q ⟨G, ds, d, s, w, e, k⟩ => by
  unfold gIf at e
  cases ea : h1 ds with
  | none => rw [ea] at e; cases e
  | some t =>
    rw [ea] at e
    refine ⟨G, ds, t, s, w, ea, fun G1 H1 g1 => ?_⟩
    cases t with
    | true => exact iteT ⟨G1, ds, d, g1.sub, w.mono g1.keep, by simpa using e, fun u G2 H2 g2 d2 => k u G2 H2 (g1.trans g2) d2⟩
    | false => exact iteF ⟨G1, ds, d, g1.sub, w.mono g1.keep, by simpa using e, fun u G2 H2 g2 d2 => k u G2 H2 (g1.trans g2) d2⟩
/-- a < b < c -/
def gChain (g g' : D → D → Option D) (ga gb gc : DS S → Option D) : DS S → Option D := fun ds => (ga ds).bind fun x => (gb ds).bind fun y => (g x y).bind fun z => match z with
  | .bool true => (gc ds).bind fun u => g' y u
  | .bool false => some (.bool false)
  | _ => none
theorem ep_chain {op op' : CmpOp} {r r' : R2} {g g' : D → D → Option D} (ho : OpR X (compareOp op) r) (hr : R2D X.K r g) (ho' : OpR X (compareOp op') r') (hr' : R2D X.K r' g') (ha : PE X a (tP X.K ga)) (hb : PE X b (tP X.K gb)) (hc : PE X c (tP X.K gc))
    (hm : lastMarks [op, op'] [b, c] = false := by with_unfolding_all rfl) : PE X (.Compare a [op, op'] [b, c] pos) (tP X.K (gChain g g' ga gb gc)) := PE.imp (pe_chain ho ho' ha hb hc hm) fun σ H Q ⟨G, ds, d, s, w, e, k⟩ => by
  unfold gChain at e
  cases ea : ga ds with
  | none => rw [ea] at e; cases e
  | some x =>
    cases eb : gb ds with
    | none => simp [ea, eb] at e
    | some y =>
      cases ez : g x y with
      | none => simp [ea, eb, ez] at e
      | some z =>
        simp only [ea, eb, ez, Option.bind_some] at e
        refine ⟨G, ds, x, s, w, ea, fun v G1 H1 g1 d1 => ?_⟩
        refine ⟨G1, ds, y, g1.sub, w.mono g1.keep, eb, fun u G2 H2 g2 d2 => ?_⟩
        refine hr v u x y z G2 H2 _ g2.sub (d1.mono g2.keep) d2 ez fun q G3 H3 g3 d3 => ?_
        cases z with
        | bool t =>
          cases d3
          refine ⟨t, rfl, ?_⟩
          cases t with
          | true =>
            cases ec : gc ds with
            | none => simp [ec] at e
            | some o =>
              simp only [ec, Option.bind_some] at e
              refine iteT ⟨G3, ds, o, g3.sub, w.mono ((g1.trans g2).trans g3).keep, ec, fun p G4 H4 g4 d4 => ?_⟩
              exact hr' u p y o d G4 H4 Q g4.sub (d2.mono (g3.trans g4).keep) d4 e fun r G5 H5 g5 d5 => k r G5 H5 ((((g1.trans g2).trans g3).trans g4).trans g5) d5
          | false =>
            have e' : d = .bool false := by simpa using e.symm
            subst e'
            exact iteF (k _ G3 H3 ((g1.trans g2).trans g3) (.bl false))
        | _ => cases e
/-- a value's test, where it is a bool -/
theorem tp_of (h : PE X e (tP X.K ga)) (he : ∀ whole, isTrue e X.env whole = (do let v ← whole; standAt e.pos; holding [v] (truthy v)) := by intro _; rfl) : PT X e (tPT X.K (gTr ga)) := tp_tr h he

/-! ### slices -/
def PartD : DS S → Option (Option D) := fun _ => some none
def tPO (K : PySem.W.Frag) (g : DS S → Option (Option Int)) : TO := fun σ H Q => ∃ G ds o, Same G H ∧ View K G σ ds ∧ g ds = some o ∧ ∀ G' H', Gr G H G' H' → Q o H'
theorem PO.imp {X : Cx} {e : Option Expr} {t t' : TO} (h : PO X e t) (i : ∀ σ H Q, t' σ H Q → t σ H Q) : PO X e t' := ⟨fun pins s σ H Q I q => h.run pins s σ H Q I (i σ H Q q)⟩
def gNoPart : DS S → Option (Option Int) := fun _ => some none
def gPart (g : DS S → Option D) : DS S → Option (Option Int) := fun ds => match g ds with
  | some (.int i) => some (some i)
  | _ => none
theorem op_no : PO X none (tPO X.K (gNoPart (S := S))) := PO.imp po_none fun σ H Q ⟨G, ds, d, s, w, e, k⟩ => by
  cases e
  exact k G H (.refl s)
theorem op_part (h : PE X e (tP X.K ga)) : PO X (some e) (tPO X.K (gPart ga)) := PO.imp (po_some h) fun σ H Q ⟨G, ds, d, s, w, e, k⟩ => by
  unfold gPart at e
  split at e
  · cases e
    rename_i i ea
    refine ⟨G, ds, .int i, s, w, ea, fun v G1 H1 g1 d1 => ?_⟩
    cases d1
    exact ⟨i, rfl, k G1 H1 g1⟩
  · cases e
/-- xs[lo:hi] -/
def cutD (xs : List D) (lo hi : Option Int) : List D := (xs.drop (HT.sIx xs.length 0 lo)).take (HT.sIx xs.length xs.length hi - HT.sIx xs.length 0 lo)
theorem den_cut {K : PySem.W.Frag} {G : Hp} {vs : List V} {ds : List D} (h : DenAll K G vs ds) (lo hi : Option Int) : DenAll K G (cutV vs lo hi) (cutD ds lo hi) := by
  unfold cutV cutD
  rw [h.length]
  exact (h.drop _).take _
def slL : D → Option Int → Option Int → Option (List D)
  | .list xs, lo, hi => some (cutD xs lo hi)
  | _, _, _ => none
def slT : D → Option Int → Option Int → Option D
  | .tuple xs, lo, hi => some (.tuple (cutD xs lo hi))
  | .str x, lo, hi => some (.str (cutS x lo hi))
  | _, _, _ => none
variable {lo hi : Option Expr} {gl gh : DS S → Option (Option Int)} {p2 : Pos}
def gSlF (ga : DS S → Option D) (gl gh : DS S → Option (Option Int)) : DS S → Option (List D) := fun ds => (ga ds).bind fun x => (gl ds).bind fun l => (gh ds).bind fun h => slL x l h
def gSl (ga : DS S → Option D) (gl gh : DS S → Option (Option Int)) : DS S → Option D := fun ds => (ga ds).bind fun x => (gl ds).bind fun l => (gh ds).bind fun h => slT x l h
theorem cutV_le (xs : List V) (lo hi : Option Int) : (cutV xs lo hi).length ≤ xs.length := cutV_length xs lo hi
theorem ef_sl (he : PE X e (tP X.K ga)) (hl : PO X lo (tPO X.K gl)) (hu : PO X hi (tPO X.K gh)) : PE X (.Subscript e (.Slice lo hi none p2) pos) (tF X.K (gSlF ga gl gh)) := PE.imp (pe_slice sl_list he hl hu) fun σ H Q ⟨G, ds, d, s, w, e, k⟩ => by
  unfold gSlF at e
  cases ea : ga ds with
  | none => rw [ea] at e; cases e
  | some x =>
    cases el : gl ds with
    | none => simp [ea, el] at e
    | some l =>
      cases eh : gh ds with
      | none => simp [ea, el, eh] at e
      | some h =>
        simp only [ea, el, eh, Option.bind_some] at e
        refine ⟨G, ds, x, s, w, ea, fun v G1 H1 g1 d1 => ?_⟩
        refine ⟨G1, ds, l, g1.sub, w.mono g1.keep, el, fun G2 H2 g2 => ?_⟩
        refine ⟨G2, ds, h, g2.sub, w.mono (g1.trans g2).keep, eh, fun G3 H3 g3 => ?_⟩
        have d1 := d1.mono (g2.trans g3).keep
        cases d1 with
        | lst q z r =>
          cases e
          refine ⟨_, _, rfl, SqL.of (g3.sub _ _ q), fun p hp => ?_⟩
          exact k p _ G3 _ (((g1.trans g2).trans g3).trans (.own g3.sub hp)) (g3.sub.free hp) (((g1.trans g2).trans g3).all.free hp) upd_same (Nat.le_trans (cutV_le _ _ _) z) (den_cut r l h)
        | _ => cases e
end
section
variable {X : Cx}
/-- s[a:b] and t[a:b] together -/
theorem sl_ts : SlR X (fun x lo hi H Q => rSlT X.K x lo hi H Q ∨ rSlS x lo hi H Q) := SlR.or sl_tup sl_str
end
end DL
set_option Elab.async false
set_option linter.all false
set_option maxRecDepth 100000
set_option maxHeartbeats 4000000
namespace DL
open PySem PySem.Spec PyProof.Rows L2

/-! ### what the data's shape gives -/
section
variable {K : PySem.W.Frag} {G : Hp}
mutual
theorem Den.lay : ∀ {v : V} {d : D}, Den K G v d → d.canLay0 = true
  | _, _, .non => rfl
  | _, _, .bl b => rfl
  | _, _, .int i => rfl
  | _, _, .str x _ o => by unfold PyData.canLay0; exact o
  | _, _, .lst _ _ r => by unfold PyData.canLay0; exact DenAll.lay r
  | _, _, .tup _ _ r => by unfold PyData.canLay0; exact DenAll.lay r
theorem DenAll.lay : ∀ {vs : List V} {ds : List D}, DenAll K G vs ds → PyData.canLayAll0 ds = true
  | _, _, .nil => rfl
  | _, _, .cons h r => by unfold PyData.canLayAll0; rw [Den.lay h, DenAll.lay r]; rfl
end
theorem strOk_app {x y : Str} (hx : PyData.strOk x = true) (hy : PyData.strOk y = true) : PyData.strOk (x ++ y) = true := by
  unfold PyData.strOk at *
  rw [← Array.all_toList] at *
  rw [show (x ++ y).cps.toList = x.cps.toList ++ y.cps.toList from by show (x.cps ++ y.cps).toList = _; simp, List.all_append, hx, hy]; rfl
theorem strOk_sub {x : Str} {l : List Nat} (hx : PyData.strOk x = true) (h : ∀ c, c ∈ l → c ∈ x.cps.toList) : PyData.strOk ⟨l.toArray⟩ = true := by
  unfold PyData.strOk at *
  rw [← Array.all_toList] at *
  simp only [List.toList_toArray]
  rw [List.all_eq_true] at *
  exact fun c hc => hx c (h c hc)
end

/-! ### operators -/
def addD : D → D → Option D
  | .int i, .int j => some (.int (i + j))
  | .str x, .str y => if x.length + y.length ≤ sizeLine then some (.str (x ++ y)) else none
  | .tuple xs, .tuple ys => if xs.length + ys.length ≤ sizeLine then some (.tuple (xs ++ ys)) else none
  | _, _ => none
def addL : D → D → Option (List D)
  | .list xs, .list ys => if xs.length + ys.length ≤ sizeLine then some (xs ++ ys) else none
  | _, _ => none
def subD : D → D → Option D
  | .int i, .int j => some (.int (i - j))
  | _, _ => none
def mulD : D → D → Option D
  | .int i, .int j => if (-(2 ^ 64) < i ∧ i < 2 ^ 64) ∨ (-(2 ^ 64) < j ∧ j < 2 ^ 64) then some (.int (i * j)) else none
  | _, _ => none
def divD : D → D → Option D
  | .int i, .int j => if 0 < j ∧ j.natAbs.log2 < 9000 then some (.int (i / j)) else none
  | _, _ => none
def modD : D → D → Option D
  | .int i, .int j => if 0 < j then some (.int (i % j)) else none
  | _, _ => none
def powD : D → D → Option D
  | .int i, .int j => if 0 ≤ j ∧ j ≤ 1000000 ∧ i.natAbs < 2 ^ 64 then some (.int (i ^ j.toNat)) else none
  | _, _ => none
def negD : D → Option D
  | .int i => some (.int (-i))
  | _ => none
def strLt (x y : Str) : Bool := decide (x.cps.toList < y.cps.toList)
def ltD : D → D → Option D
  | .int i, .int j => some (.bool (decide (i < j)))
  | .str x, .str y => some (.bool (strLt x y))
  | _, _ => none
def leD : D → D → Option D
  | .int i, .int j => some (.bool (decide (i ≤ j)))
  | .str x, .str y => some (.bool (!strLt y x))
  | _, _ => none
def gtD : D → D → Option D
  | .int i, .int j => some (.bool (decide (j < i)))
  | .str x, .str y => some (.bool (strLt y x))
  | _, _ => none
def geD : D → D → Option D
  | .int i, .int j => some (.bool (decide (j ≤ i)))
  | .str x, .str y => some (.bool (!strLt x y))
  | _, _ => none
/-- a < b of tuples (of alike data) -/
def ltTD : D → D → Option D
  | .tuple xs, .tuple ys => if PySem.W.alike (.tuple xs) (.tuple ys) = true ∧ min (PyData.depth (.tuple xs)) (PyData.depth (.tuple ys)) ≤ 64 then some (.bool (PySem.W.dataLt (.tuple xs) (.tuple ys))) else none
  | a, b => ltD a b
def eqD (x y : D) : Option D := if min x.depth y.depth ≤ 64 then some (.bool (PyData.eqv x y)) else none
def neD (x y : D) : Option D := if min x.depth y.depth ≤ 64 then some (.bool (!PyData.eqv x y)) else none
def anyEq (x : D) (ys : List D) : Bool := ys.any fun z => PyData.eqv z x
def inD : D → D → Option D
  | x, .list ys => if min (PyData.depthAll ys) x.depth ≤ 64 then some (.bool (anyEq x ys)) else none
  | x, .tuple ys => if min (PyData.depthAll ys) x.depth ≤ 64 then some (.bool (anyEq x ys)) else none
  | .str x, .str y => some (.bool (!(Builtin.Str.occurrences y x 0 y.length 1).isEmpty))
  | _, _ => none
def ninD : D → D → Option D
  | x, .list ys => if min (PyData.depthAll ys) x.depth ≤ 64 then some (.bool (!anyEq x ys)) else none
  | x, .tuple ys => if min (PyData.depthAll ys) x.depth ≤ 64 then some (.bool (!anyEq x ys)) else none
  | .str x, .str y => some (.bool (!(!(Builtin.Str.occurrences y x 0 y.length 1).isEmpty)))
  | _, _ => none
def isND : D → D → Option D
  | x, .none => some (.bool (match x with | .none => true | _ => false))
  | _, _ => none
def notND : D → D → Option D
  | x, .none => some (.bool (match x with | .none => false | _ => true))
  | _, _ => none
def ixD : D → D → Option D
  | .list xs, .int i => atI xs i
  | .tuple xs, .int i => atI xs i
  | .str x, .int i => (atI x.cps.toList i).map fun c => .str ⟨#[c]⟩
  | _, _ => none

section
variable {X : Cx} {K : PySem.W.Frag}
theorem r_I0 {f : Int → Int → Int} {g : D → D → Option D} (h : ∀ x y d, g x y = some d → ∃ i j, x = .int i ∧ y = .int j ∧ d = .int (f i j)) : R2D K (rI0 fun i j => .int (f i j)) g := by
  intro x y dx dy d G H Q s d1 d2 e k
  obtain ⟨i, j, rfl, rfl, rfl⟩ := h _ _ _ e
  cases d1; cases d2
  exact ⟨i, j, rfl, rfl, k _ G H (.refl s) (.int _)⟩
theorem r_I {C : Int → Int → Prop} {f : Int → Int → Int} {g : D → D → Option D} (h : ∀ x y d, g x y = some d → ∃ i j, x = .int i ∧ y = .int j ∧ C i j ∧ d = .int (f i j)) : R2D K (rI C fun i j => .int (f i j)) g := by
  intro x y dx dy d G H Q s d1 d2 e k
  obtain ⟨i, j, rfl, rfl, hc, rfl⟩ := h _ _ _ e
  cases d1; cases d2
  exact ⟨i, j, rfl, rfl, hc, k _ G H (.refl s) (.int _)⟩
def rAddD (K : PySem.W.Frag) : R2 := fun x y H Q => rI0 (fun i j => V.int (i + j)) x y H Q ∨ (fun x y H Q => ∃ i j, x = V.str i ∧ y = V.str j ∧ i.length + j.length ≤ sizeLine ∧ Q (.str (i ++ j)) H : R2) x y H Q ∨ rCatA K x y H Q
theorem o_add : OpR X (binaryOp .Add) (rAddD X.K) := OpR.or op_add (OpR.or op_add_str op_catA)
theorem d_add : R2D K (rAddD K) addD := by
  intro x y dx dy d G H Q s d1 d2 e k
  cases d1 with
  | int i =>
    cases d2 with
    | int j => cases e; exact .inl ⟨i, j, rfl, rfl, k _ G H (.refl s) (.int _)⟩
    | _ => cases e
  | str i hi oi =>
    cases d2 with
    | str j hj oj =>
      simp only [addD] at e
      split at e
      · cases e
        rename_i hz
        exact .inr (.inl ⟨i, j, rfl, rfl, hz, k _ G H (.refl s) (.str _ (by show (i.cps ++ j.cps).size ≤ _; rw [Array.size_append]; exact hz) (strOk_app oi oj))⟩)
      · cases e
    | _ => cases e
  | tup q1 z1 r1 =>
    cases d2 with
    | tup q2 z2 r2 =>
      simp only [addD] at e
      split at e
      · cases e
        rename_i vs1 ds1 vs2 ds2 hz
        have hz' := hz
        rw [← r1.length, ← r2.length] at hz
        refine .inr (.inr ⟨_, _, _, _, rfl, rfl, sqt_mono s q1, sqt_mono s q2, hz, fun h0 => ?_, fun h0 h1 => ?_, fun _ _ p hp => ?_⟩)
        · subst h0
          cases r1
          exact k _ G H (.refl s) (.tup q2 z2 r2)
        · subst h1
          cases r2
          exact k _ G H (.refl s) (by rw [List.append_nil]; exact .tup q1 z1 r1)
        · have hg := s.free hp
          exact k _ (upd G p _) _ (.upd s hp) (.tup (.inl (.inl upd_same)) (by rw [List.length_append]; exact hz) ((r1.append r2).mono fun b u e => by rw [upd_ne (ne_of_none e hg)]; exact e))
      · cases e
    | _ => cases e
  | _ => cases e
theorem d_addL : R2F K rCat addL := by
  intro x y dx dy xs G H Q s d1 d2 e k
  cases d1 with
  | lst q1 z1 r1 =>
    cases d2 with
    | lst q2 z2 r2 =>
      simp only [addL] at e
      split at e
      · cases e
        rename_i hz
        rw [← r1.length, ← r2.length] at hz
        exact ⟨_, _, _, _, rfl, rfl, s _ _ q1, s _ _ q2, hz, fun p hp => k p _ G _ (.own s hp) (s.free hp) hp upd_same (by rw [List.length_append]; exact hz) (r1.append r2)⟩
      · cases e
    | _ => cases e
  | _ => cases e
theorem d_sub : R2D K (rI0 fun i j => .int (i - j)) subD := r_I0 fun x y d e => by
  cases x <;> cases y <;> first | (cases e; exact ⟨_, _, rfl, rfl, rfl⟩) | cases e
theorem d_mul : R2D K (rI CMul fun i j => .int (i * j)) mulD := r_I fun x y d e => by
  cases x <;> cases y <;> first | (simp only [mulD] at e; split at e <;> cases e; exact ⟨_, _, rfl, rfl, by assumption, rfl⟩) | cases e
theorem d_div : R2D K (rI CDivW fun i j => .int (i / j)) divD := r_I fun x y d e => by
  cases x <;> cases y <;> first | (simp only [divD] at e; split at e <;> cases e; exact ⟨_, _, rfl, rfl, by assumption, rfl⟩) | cases e
theorem d_mod : R2D K (rI (fun _ j => 0 < j) fun i j => .int (i % j)) modD := r_I fun x y d e => by
  cases x <;> cases y <;> first | (simp only [modD] at e; split at e <;> cases e; exact ⟨_, _, rfl, rfl, by assumption, rfl⟩) | cases e
theorem d_pow : R2D K (rI CPow fun i j => .int (i ^ j.toNat)) powD := r_I fun x y d e => by
  cases x <;> cases y <;> first | (simp only [powD] at e; split at e <;> cases e; exact ⟨_, _, rfl, rfl, by assumption, rfl⟩) | cases e
theorem d_neg : R1D K (rU fun i => .int (-i)) negD := by
  intro x dx d G H Q s d1 e k
  cases d1 with
  | int i => cases e; exact ⟨i, rfl, k _ G H (.refl s) (.int _)⟩
  | _ => cases e
/-! order of ints and of texts -/
def rCmpD (p : Int → Int → Bool) (q : Str → Str → Bool) : R2 := fun x y H Q => rI0 (fun i j => V.bl (p i j)) x y H Q ∨ ∃ i j, x = V.str i ∧ y = V.str j ∧ Q (.bl (q i j)) H
theorem o_lt : OpR X (compareOp .Lt) (rCmpD (fun i j => decide (i < j)) strLt) := OpR.or op_lt op_lt_str
theorem o_le : OpR X (compareOp .LtE) (rCmpD (fun i j => decide (i ≤ j)) fun x y => !strLt y x) := OpR.or op_le op_le_str
theorem o_gt : OpR X (compareOp .Gt) (rCmpD (fun i j => decide (j < i)) fun x y => strLt y x) := OpR.or op_gt op_gt_str
theorem o_ge : OpR X (compareOp .GtE) (rCmpD (fun i j => decide (j ≤ i)) fun x y => !strLt x y) := OpR.or op_ge op_ge_str
theorem r_cmp {p : Int → Int → Bool} {q : Str → Str → Bool} {g : D → D → Option D} (h : ∀ x y d, g x y = some d → (∃ i j, x = .int i ∧ y = .int j ∧ d = .bool (p i j)) ∨ ∃ i j, x = .str i ∧ y = .str j ∧ d = .bool (q i j)) : R2D K (rCmpD p q) g := by
  intro x y dx dy d G H Q s d1 d2 e k
  rcases h _ _ _ e with ⟨i, j, rfl, rfl, rfl⟩ | ⟨i, j, rfl, rfl, rfl⟩
  · cases d1; cases d2
    exact .inl ⟨i, j, rfl, rfl, k _ G H (.refl s) (.bl _)⟩
  · cases d1; cases d2
    exact .inr ⟨i, j, rfl, rfl, k _ G H (.refl s) (.bl _)⟩
theorem d_lt : R2D K (rCmpD (fun i j => decide (i < j)) strLt) ltD := r_cmp fun x y d e => by
  cases x <;> cases y <;> first | (cases e; exact .inl ⟨_, _, rfl, rfl, rfl⟩) | (cases e; exact .inr ⟨_, _, rfl, rfl, rfl⟩) | cases e
theorem d_le : R2D K (rCmpD (fun i j => decide (i ≤ j)) fun x y => !strLt y x) leD := r_cmp fun x y d e => by
  cases x <;> cases y <;> first | (cases e; exact .inl ⟨_, _, rfl, rfl, rfl⟩) | (cases e; exact .inr ⟨_, _, rfl, rfl, rfl⟩) | cases e
theorem d_gt : R2D K (rCmpD (fun i j => decide (j < i)) fun x y => strLt y x) gtD := r_cmp fun x y d e => by
  cases x <;> cases y <;> first | (cases e; exact .inl ⟨_, _, rfl, rfl, rfl⟩) | (cases e; exact .inr ⟨_, _, rfl, rfl, rfl⟩) | cases e
theorem d_ge : R2D K (rCmpD (fun i j => decide (j ≤ i)) fun x y => !strLt x y) geD := r_cmp fun x y d e => by
  cases x <;> cases y <;> first | (cases e; exact .inl ⟨_, _, rfl, rfl, rfl⟩) | (cases e; exact .inr ⟨_, _, rfl, rfl, rfl⟩) | cases e
/-! == and != of any data -/
def rEqX (K : PySem.W.Frag) (n : Bool) : R2 := fun x y H Q => ∃ d e, Dp K H x d ∧ Dp K H y e ∧ d.canLay0 = true ∧ e.canLay0 = true ∧ min d.depth e.depth ≤ 64 ∧ Q (.bl (if n then !PyData.eqv d e else PyData.eqv d e)) H
theorem o_eq (hu : X.A.units + 65 < cLine) : OpR X (compareOp .Eq) (rEqX X.K false) := by
  intro pins s σ H x y v u Q I rx ry h
  obtain ⟨d, e, hd, he, sd, se, z, q⟩ := h
  obtain ⟨as, r1⟩ := Dp.reads I d x v hd rx
  obtain ⟨bs, r2⟩ := Dp.reads I e y u he ry
  exact SeqAt.compareEq_reads r1 r2 sd se (by omega) ⟨.bl _, H, I, rfl, q⟩
theorem o_ne (hu : X.A.units + 65 < cLine) : OpR X (compareOp .NotEq) (rEqX X.K true) := by
  intro pins s σ H x y v u Q I rx ry h
  obtain ⟨d, e, hd, he, sd, se, z, q⟩ := h
  obtain ⟨as, r1⟩ := Dp.reads I d x v hd rx
  obtain ⟨bs, r2⟩ := Dp.reads I e y u he ry
  exact SeqAt.compareNe_reads r1 r2 sd se (by omega) ⟨.bl _, H, I, rfl, q⟩
theorem d_eq : R2D K (rEqX K false) eqD := by
  intro x y dx dy d G H Q s d1 d2 e k
  unfold eqD at e
  split at e
  · cases e
    exact ⟨dx, dy, (d1.mono s).dp, (d2.mono s).dp, d1.lay, d2.lay, by assumption, k _ G H (.refl s) (.bl _)⟩
  · cases e
theorem d_ne : R2D K (rEqX K true) neD := by
  intro x y dx dy d G H Q s d1 d2 e k
  unfold neD at e
  split at e
  · cases e
    exact ⟨dx, dy, (d1.mono s).dp, (d2.mono s).dp, d1.lay, d2.lay, by assumption, k _ G H (.refl s) (.bl _)⟩
  · cases e
/-! in, not in -/
def rInX (K : PySem.W.Frag) (n : Bool) : R2 := fun x y H Q => ∃ d ds, Dp K H x d ∧ (Dp K H y (.list ds) ∨ Dp K H y (.tuple ds)) ∧ d.canLay0 = true ∧ PyData.canLayAll0 ds = true ∧ min (PyData.depthAll ds) d.depth ≤ 64 ∧ Q (.bl (if n then !anyEq d ds else anyEq d ds)) H
theorem o_inS (hu : X.A.units + 66 < cLine) : OpR X (compareOp .In) (rInX X.K false) := by
  intro pins s σ H x y v u Q I rx ry h
  obtain ⟨d, ds, hd, he, sd, se, z, q⟩ := h
  obtain ⟨as, r1⟩ := Dp.reads I d x v hd rx
  rcases he with he | he
  · obtain ⟨bs, r2⟩ := Dp.reads I (.list ds) y u he ry
    exact SeqAt.in_list_reads r2 r1 se sd (by omega) ⟨.bl _, H, I, rfl, q⟩
  · obtain ⟨bs, r2⟩ := Dp.reads I (.tuple ds) y u he ry
    exact SeqAt.in_tuple_reads r2 r1 se sd (by omega) ⟨.bl _, H, I, rfl, q⟩
theorem o_ninS (hu : X.A.units + 66 < cLine) : OpR X (compareOp .NotIn) (rInX X.K true) := by
  intro pins s σ H x y v u Q I rx ry h
  obtain ⟨d, ds, hd, he, sd, se, z, q⟩ := h
  obtain ⟨as, r1⟩ := Dp.reads I d x v hd rx
  rcases he with he | he
  · obtain ⟨bs, r2⟩ := Dp.reads I (.list ds) y u he ry
    exact SeqAt.notIn_list_reads r2 r1 se sd (by omega) ⟨.bl _, H, I, rfl, q⟩
  · obtain ⟨bs, r2⟩ := Dp.reads I (.tuple ds) y u he ry
    exact SeqAt.notIn_tuple_reads r2 r1 se sd (by omega) ⟨.bl _, H, I, rfl, q⟩
def rInY (K : PySem.W.Frag) (n : Bool) : R2 := fun x y H Q => rInX K n x y H Q ∨ ∃ i j, x = V.str i ∧ y = V.str j ∧ Q (.bl (if n then !(!(Builtin.Str.occurrences j i 0 j.length 1).isEmpty) else !(Builtin.Str.occurrences j i 0 j.length 1).isEmpty)) H
theorem o_in (hu : X.A.units + 66 < cLine) : OpR X (compareOp .In) (rInY X.K false) := OpR.or (o_inS hu) op_in_str
theorem o_nin (hu : X.A.units + 66 < cLine) : OpR X (compareOp .NotIn) (rInY X.K true) := OpR.or (o_ninS hu) op_notin_str
theorem lay_list {ds : List D} (h : (PyData.list ds).canLay0 = true) : PyData.canLayAll0 ds = true := by unfold PyData.canLay0 at h; exact h
theorem lay_tup {ds : List D} (h : (PyData.tuple ds).canLay0 = true) : PyData.canLayAll0 ds = true := by unfold PyData.canLay0 at h; exact h
theorem d_in : R2D K (rInY K false) inD := by
  intro x y dx dy d G H Q s d1 d2 e k
  have l2 := d2.lay
  have m2 := (d2.mono s).dp
  cases dy with
  | list ys =>
    simp only [inD] at e
    split at e
    · cases e
      exact .inl ⟨dx, ys, (d1.mono s).dp, .inl m2, d1.lay, lay_list l2, by assumption, k _ G H (.refl s) (.bl _)⟩
    · cases e
  | tuple ys =>
    simp only [inD] at e
    split at e
    · cases e
      exact .inl ⟨dx, ys, (d1.mono s).dp, .inr m2, d1.lay, lay_tup l2, by assumption, k _ G H (.refl s) (.bl _)⟩
    · cases e
  | str j =>
    cases d2
    cases d1 with
    | str i hi oi => cases e; exact .inr ⟨i, j, rfl, rfl, k _ G H (.refl s) (.bl _)⟩
    | _ => cases e
  | _ => cases dx <;> cases e
theorem d_nin : R2D K (rInY K true) ninD := by
  intro x y dx dy d G H Q s d1 d2 e k
  have l2 := d2.lay
  have m2 := (d2.mono s).dp
  cases dy with
  | list ys =>
    simp only [ninD] at e
    split at e
    · cases e
      exact .inl ⟨dx, ys, (d1.mono s).dp, .inl m2, d1.lay, lay_list l2, by assumption, k _ G H (.refl s) (.bl _)⟩
    · cases e
  | tuple ys =>
    simp only [ninD] at e
    split at e
    · cases e
      exact .inl ⟨dx, ys, (d1.mono s).dp, .inr m2, d1.lay, lay_tup l2, by assumption, k _ G H (.refl s) (.bl _)⟩
    · cases e
  | str j =>
    cases d2
    cases d1 with
    | str i hi oi => cases e; exact .inr ⟨i, j, rfl, rfl, k _ G H (.refl s) (.bl _)⟩
    | _ => cases e
  | _ => cases dx <;> cases e
/-! is None -/
theorem d_isN : R2D K (fun x y H Q => y = V.non ∧ Q (.bl (decide (x = .non))) H) isND := by
  intro x y dx dy d G H Q s d1 d2 e k
  cases d2 with
  | non =>
    cases e
    refine ⟨rfl, k _ G H (.refl s) ?_⟩
    cases d1 <;> exact .bl _
  | _ => cases dx <;> cases e
theorem d_notN : R2D K (fun x y H Q => y = V.non ∧ Q (.bl (!decide (x = .non))) H) notND := by
  intro x y dx dy d G H Q s d1 d2 e k
  cases d2 with
  | non =>
    cases e
    refine ⟨rfl, k _ G H (.refl s) ?_⟩
    cases d1 <;> exact .bl _
  | _ => cases dx <;> cases e
/-! xs[i] -/
theorem atI_len {α β : Type} {xs : List α} {ys : List β} (h : xs.length = ys.length) (i : Int) : ixN xs.length i = ixN ys.length i := by rw [h]
theorem den_at {G : Hp} {vs : List V} {ds : List D} (r : DenAll K G vs ds) {i : Int} {d : D} (e : atI ds i = some d) : ∃ v, atI vs i = some v ∧ Den K G v d := by
  unfold atI at *
  rw [r.length]
  cases h : ixN ds.length i with
  | none => rw [h] at e; cases e
  | some j =>
    rw [h] at e
    exact r.get e
theorem d_ix : R2D K (rIx K) ixD := by
  intro x y dx dy d G H Q s d1 d2 e k
  cases d2 with
  | int i =>
    cases d1 with
    | lst q z r =>
      obtain ⟨v, h1, h2⟩ := den_at r (show atI _ i = some d from e)
      exact .inl ⟨_, _, i, v, rfl, rfl, SqL.of (s _ _ q), h1, k v G H (.refl s) h2⟩
    | tup q z r =>
      obtain ⟨v, h1, h2⟩ := den_at r (show atI _ i = some d from e)
      exact .inr (.inl ⟨_, _, i, v, rfl, rfl, sqt_mono s q, h1, k v G H (.refl s) h2⟩)
    | str x hx ox =>
      have e' : (atI x.cps.toList i).map (fun c => PyData.str ⟨#[c]⟩) = some d := e
      cases h : atI x.cps.toList i with
      | none => rw [h] at e'; cases e'
      | some c =>
        rw [h] at e'
        cases e'
        have hc : c ∈ x.cps.toList := by
          obtain ⟨j, _, h2, _⟩ := atI_get h
          exact List.mem_of_getElem? h2
        exact .inr (.inr ⟨x, i, c, rfl, rfl, hx, h, k _ G H (.refl s) (.str _ (by show 1 ≤ sizeLine; decide) (strOk_sub (l := [c]) ox fun c' hc' => by simp at hc'; rw [hc']; exact hc))⟩)
    | _ => cases e
  | _ => cases dx <;> cases e
end
end DL
set_option Elab.async false
set_option linter.all false
set_option maxRecDepth 100000
set_option maxHeartbeats 4000000
namespace DL
open PySem PySem.Spec PyProof.Rows L2

/-! ### targets -/
def setAll (σ : L2.St) (l : List (Nat × V)) : L2.St := l.foldl (fun σ p => σ.set p.1 (some p.2)) σ
def setD {S : Type} (ds : DS S) (l : List (Nat × D)) : DS S := l.foldl (fun ds p => ds.set p.1 (some (.d p.2))) ds
abbrev AsgV (K : PySem.W.Frag) (G : Hp) : List (Nat × V) → List (Nat × D) → Prop := Paired fun (p : Nat × V) (q : Nat × D) => p.1 = q.1 ∧ Den K G p.2 q.2
section
variable {S : Type} {K : PySem.W.Frag} {G : Hp} {σ : L2.St} {ds : DS S}
theorem View.set {i : Nat} {v : V} {d : D} (h : View K G σ ds) (hd : Den K G v d) : View K G (σ.set i (some v)) (ds.set i (some (.d d))) := by
  refine ⟨by rw [List.length_set, List.length_set]; exact h.len, fun j m e => ?_⟩
  by_cases hj : i = j
  · subst hj
    by_cases hl : i < ds.length
    · rw [List.getElem?_set_self hl] at e
      cases e
      exact ⟨v, by rw [List.getElem?_set_self (by rw [← h.len]; exact hl)], hd⟩
    · rw [List.getElem?_eq_none (by rw [List.length_set]; omega)] at e; cases e
  · rw [List.getElem?_set_ne hj] at e ⊢
    exact h.has j m e
theorem View.none {i : Nat} (h : View K G σ ds) : View K G (σ.set i .none) (ds.set i .none) := by
  refine ⟨by rw [List.length_set, List.length_set]; exact h.len, fun j m e => ?_⟩
  by_cases hj : i = j
  · subst hj
    by_cases hl : i < ds.length
    · rw [List.getElem?_set_self hl] at e; cases e
    · rw [List.getElem?_eq_none (by rw [List.length_set]; omega)] at e; cases e
  · rw [List.getElem?_set_ne hj] at e ⊢
    exact h.has j m e
theorem View.setAll : ∀ {vs : List (Nat × V)} {as : List (Nat × D)} {σ : L2.St} {ds : DS S}, View K G σ ds → AsgV K G vs as → View K G (DL.setAll σ vs) (setD ds as)
  | _, _, _, _, h, .nil => h
  | _, _, σ, ds, h, .cons (a := p) (b := q) ⟨e, hd⟩ r => by
    refine View.setAll (σ := σ.set p.1 (some p.2)) (ds := ds.set q.1 (some (.d q.2))) ?_ r
    rw [← e]
    exact h.set hd
def wipeD (ds : DS S) : List Nat → DS S
  | [] => ds
  | v :: vs => (wipeD ds vs).set v none
theorem View.wipe (h : View K G σ ds) : ∀ vs : List Nat, View K G (L2.wipe σ vs) (wipeD ds vs)
  | [] => h
  | v :: vs => (View.wipe h vs).none
end
theorem wipe_set_out {σ : L2.St} {i : Nat} {o : Option V} : ∀ {vs : List Nat}, i ∉ vs → wipe (σ.set i o) vs = (wipe σ vs).set i o
  | [], _ => rfl
  | v :: vs, h => by
    have h1 : i ≠ v := fun z => h (by simp [z])
    have h2 : i ∉ vs := fun z => h (by simp [z])
    show (wipe (σ.set i o) vs).set v none = ((wipe σ vs).set v none).set i o
    rw [wipe_set_out h2, List.set_comm _ _ h1]
theorem wipe_set {σ : L2.St} {i : Nat} {o : Option V} : ∀ {vs : List Nat}, i ∈ vs → wipe (σ.set i o) vs = wipe σ vs
  | [], h => by cases h
  | v :: vs, h => by
    show (wipe (σ.set i o) vs).set v none = (wipe σ vs).set v none
    by_cases h2 : i ∈ vs
    · rw [wipe_set h2]
    · have h1 : i = v := by simpa [h2] using h
      subst h1
      rw [wipe_set_out h2, List.set_set]
theorem wipe_wipe {σ : L2.St} : ∀ {vs : List Nat}, wipe (wipe σ vs) vs = wipe σ vs
  | [] => rfl
  | v :: vs => by
    have h := wipe_set (σ := wipe σ vs) (i := v) (o := none) (vs := v :: vs) List.mem_cons_self
    show wipe ((wipe σ vs).set v none) (v :: vs) = _
    rw [h]
    show (wipe (wipe σ vs) vs).set v none = (wipe σ vs).set v none
    rw [wipe_wipe]
theorem wipe_setAll {own : List Nat} : ∀ {l : List (Nat × V)} {σ : L2.St}, (∀ p ∈ l, p.1 ∈ own) → wipe (setAll σ l) own = wipe σ own
  | [], _, _ => rfl
  | p :: l, σ, h => by
    show wipe (setAll (σ.set p.1 (some p.2)) l) own = _
    rw [wipe_setAll fun q hq => h q (List.mem_cons_of_mem _ hq), wipe_set (h p List.mem_cons_self)]

def TGD (K : PySem.W.Frag) (g : TG) (t : D → Option (List (Nat × D))) : Prop := ∀ x d as σ G H (Q : L2.St → Hp → Prop), Same G H → Den K G x d → t d = some as → (∀ vs, AsgV K G vs as → Q (setAll σ vs) H) → g x σ H Q
def asgN (i : Nat) : D → Option (List (Nat × D)) := fun d => some [(i, d)]
def asgT (is : List Nat) : D → Option (List (Nat × D))
  | .tuple ds => if ds.length = is.length then some (is.zip ds) else none
  | _ => none
theorem tgd_name {K : PySem.W.Frag} {i : Nat} : TGD K (gName i) (asgN i) := fun x d as σ G H Q s hd e k => by
  cases e
  exact k [(i, x)] (.cons ⟨rfl, hd⟩ .nil)
def gNames : List Nat → TGs
  | [] => L2.gNil
  | i :: is => L2.gCons (gName i) (gNames is)
theorem names_go {K : PySem.W.Frag} {G H : Hp} {Q : L2.St → Hp → Prop} : ∀ {is : List Nat} {vs : List V} {ds : List D} {σ : L2.St}, DenAll K G vs ds → ds.length = is.length → (∀ ws, AsgV K G ws (is.zip ds) → Q (setAll σ ws) H) → gNames is vs σ H Q
  | [], _, [], σ, .nil, _, k => ⟨rfl, k [] .nil⟩
  | i :: is, _, _ :: ds, σ, .cons (v := v) h r, z, k => ⟨v, _, rfl, names_go (σ := σ.set i (some v)) r (by simpa using z) fun ws a => k ((i, v) :: ws) (.cons ⟨rfl, h⟩ a)⟩
theorem tgd_tup {K : PySem.W.Frag} {is : List Nat} : TGD K (L2.gTup K is.length (gNames is)) (asgT is) := fun x d as σ G H Q s hd e k => by
  cases hd with
  | tup q z r =>
    simp only [asgT] at e
    split at e
    · cases e
      rename_i hz
      exact ⟨_, _, rfl, sqt_mono s q, by rw [r.length]; exact hz, names_go r hz k⟩
    · cases e
  | _ => cases e
theorem own_name {i : Nat} {own : List Nat} (h : i ∈ own) : ∀ d as, asgN i d = some as → ∀ p ∈ as, p.1 ∈ own := fun d as e p hp => by
  cases e
  simp at hp
  subst hp
  exact h
theorem own_tup {is own : List Nat} (h : ∀ i ∈ is, i ∈ own) : ∀ d as, asgT is d = some as → ∀ p ∈ as, p.1 ∈ own := fun d as e p hp => by
  cases d with
  | tuple ds =>
    simp only [asgT] at e
    split at e
    · cases e
      exact h _ (List.of_mem_zip hp).1
    · cases e
  | _ => cases e
theorem asgV_slots {K : PySem.W.Frag} {G : Hp} {own : List Nat} : ∀ {vs : List (Nat × V)} {as : List (Nat × D)}, AsgV K G vs as → (∀ p ∈ as, p.1 ∈ own) → ∀ p ∈ vs, p.1 ∈ own
  | _, _, .nil, _, p, hp => by cases hp
  | _, _, .cons ⟨e, _⟩ r, h, p, hp => by
    rcases List.mem_cons.mp hp with rfl | hp
    · rw [e]; exact h _ List.mem_cons_self
    · exact asgV_slots r (fun q hq => h q (List.mem_cons_of_mem _ hq)) p hp

/-! ### what is walked -/
structure ItD (K : PySem.W.Frag) (J : It) (xs : List D) (G : Hp) : Prop where
  len : xs.length ≤ sizeLine
  go : ∀ (i : Nat) H, Same G H → i < xs.length → J.go i H
  stop : ∀ (i : Nat) H, Same G H → xs.length ≤ i → i ≤ xs.length → J.stop i H
  yld : ∀ (i : Nat) H x H', Same G H → i < xs.length → J.yld i H x H' → ∃ d, xs[i]? = some d ∧ ∀ G0, Same G G0 → Same G0 H → ∃ G1, Gr G0 H G1 H' ∧ Den K G1 x d
def tI {S : Type} (K : PySem.W.Frag) (src : DS S → Option (List D)) : TI := fun σ H R => ∃ G ds xs, Same G H ∧ View K G σ ds ∧ src ds = some xs ∧ ∀ J G' H', Gr G H G' H' → ItD K J xs G' → R J H'
theorem PI.imp {X : Cx} {tg e : Expr} {t t' : TI} (h : PI X tg e t) (i : ∀ σ H R, t' σ H R → t σ H R) : PI X tg e t' := ⟨fun pins s σ H R I q => h.run pins s σ H R I (i σ H R q)⟩
theorem PI.or {X : Cx} {tg e : Expr} {t t' : TI} (h : PI X tg e t) (h' : PI X tg e t') : PI X tg e (fun σ H R => t σ H R ∨ t' σ H R) := ⟨fun pins s σ H R I q => q.elim (h.run pins s σ H R I) (h'.run pins s σ H R I)⟩
section
variable {S : Type} {X : Cx} {K : PySem.W.Frag} {tg e e2 : Expr} {ga gb : DS S → Option D} {G : Hp}
theorem itd_list {a : Addr} {vs : List V} {xs : List D} (q : G a = some (.lst vs)) (z : vs.length ≤ sizeLine) (r : DenAll K G vs xs) : ItD K (Itl K a) xs G where
  len := by rw [← r.length]; exact z
  go := fun i H s hi => by
    have hi' : i < vs.length := by rw [r.length]; exact hi
    exact ⟨vs, vs[i], SqL.of (s _ _ q), List.getElem?_eq_getElem hi'⟩
  stop := fun i H s hi _ => ⟨vs, SqL.of (s _ _ q), by rw [r.length]; exact hi⟩
  yld := fun i H x H' s hi ⟨e, y⟩ => by
    subst e
    obtain ⟨d, h1, h2⟩ := r.getV (y vs (SqL.of (s _ _ q)))
    exact ⟨d, h1, fun G0 s0 s1 => ⟨G0, .refl s1, h2.mono s0⟩⟩
theorem itd_tup {a : Addr} {vs : List V} {xs : List D} (q : SqT K G a vs) (z : vs.length ≤ sizeLine) (r : DenAll K G vs xs) : ItD K (Itt K a) xs G where
  len := by rw [← r.length]; exact z
  go := fun i H s hi => by
    have hi' : i < vs.length := by rw [r.length]; exact hi
    exact ⟨vs, vs[i], sqt_mono s q, List.getElem?_eq_getElem hi'⟩
  stop := fun i H s hi _ => ⟨vs, sqt_mono s q, by rw [r.length]; exact hi⟩
  yld := fun i H x H' s hi ⟨e, y⟩ => by
    subst e
    obtain ⟨d, h1, h2⟩ := r.getV (y vs (sqt_mono s q))
    exact ⟨d, h1, fun G0 s0 s1 => ⟨G0, .refl s1, h2.mono s0⟩⟩
def signsD (x : Str) : List D := x.cps.toList.map fun c => .str ⟨#[c]⟩
theorem itd_str {x : Str} (z : x.length ≤ sizeLine) (o : PyData.strOk x = true) : ItD K (Its x) (signsD x) G where
  len := by unfold signsD; rw [List.length_map, Array.length_toList]; exact z
  go := fun i H s hi => by show i < x.cps.size; simpa [signsD] using hi
  stop := fun i H s hi _ => by show x.cps.size ≤ i; simpa [signsD] using hi
  yld := fun i H v H' s hi ⟨e, c, hc, ev⟩ => by
    subst e ev
    have hc' : x.cps.toList[i]? = some c := by rw [Array.getElem?_toList]; exact hc
    refine ⟨.str ⟨#[c]⟩, by unfold signsD; rw [List.getElem?_map, hc']; rfl, fun G0 s0 s1 => ⟨G0, .refl s1, .str _ (by show 1 ≤ sizeLine; decide) (strOk_sub (l := [c]) o fun c' h => ?_)⟩⟩
    simp at h
    rw [h]
    exact List.mem_of_getElem? hc'
def srcD : D → Option (List D)
  | .list xs => some xs
  | .tuple xs => some xs
  | .str x => some (signsD x)
  | _ => none
def gSrc (g : DS S → Option D) : DS S → Option (List D) := fun ds => (g ds).bind srcD
theorem pi_any (h : PE X e (tP X.K ga)) : PI X tg e (tI X.K (gSrc ga)) := PI.imp (PI.or (pi_list h) (PI.or (pi_tup h) (pi_str h))) fun σ H R ⟨G, ds, xs, s, w, e, k⟩ => by
  unfold gSrc at e
  cases ea : ga ds with
  | none => rw [ea] at e; cases e
  | some d =>
    rw [ea] at e
    cases d with
    | list ys =>
      cases e
      refine .inl ⟨G, ds, _, s, w, ea, fun v G1 H1 g1 d1 => ?_⟩
      cases d1 with
      | lst q z r => exact ⟨_, rfl, ⟨_, SqL.of (g1.sub _ _ q)⟩, k _ G1 H1 g1 (itd_list q z r)⟩
    | tuple ys =>
      cases e
      refine .inr (.inl ⟨G, ds, _, s, w, ea, fun v G1 H1 g1 d1 => ?_⟩)
      cases d1 with
      | tup q z r => exact ⟨_, rfl, ⟨_, sqt_mono g1.sub q⟩, k _ G1 H1 g1 (itd_tup q z r)⟩
    | str x =>
      cases e
      refine .inr (.inr ⟨G, ds, _, s, w, ea, fun v G1 H1 g1 d1 => ?_⟩)
      cases d1 with
      | str _ z o => exact ⟨_, rfl, k _ G1 H1 g1 (itd_str z o)⟩
    | _ => cases e
/-! ranges -/
def rngD (lo : Int) (n : Nat) : List D := (List.range n).map fun (k : Nat) => .int (lo + (k : Int))
theorem itd_rng {lo : Int} {n : Nat} (z : n ≤ sizeLine) : ItD K (Itr lo n) (rngD lo n) G where
  len := by unfold rngD; simpa using z
  go := fun i H s hi => by simpa [rngD, Itr] using hi
  stop := fun i H s hi _ => by simpa [rngD, Itr] using hi
  yld := fun i H v H' s hi ⟨e, ev⟩ => by
    subst e ev
    have hi' : i < n := by simpa [rngD] using hi
    exact ⟨.int (lo + (i : Int)), by unfold rngD; rw [List.getElem?_map, List.getElem?_range hi']; rfl, fun G0 s0 s1 => ⟨G0, .refl s1, .int _⟩⟩
def rng1 : List D → Option (List D)
  | [.int j] => if j ≤ sizeLine ∧ -(2 ^ 62) ≤ j then some (rngD 0 j.toNat) else none
  | _ => none
def rng2 : List D → Option (List D)
  | [.int i, .int j] => if j - i ≤ sizeLine ∧ -(2 ^ 62) ≤ i ∧ i < 2 ^ 62 ∧ -(2 ^ 62) ≤ j ∧ j < 2 ^ 62 then some (rngD i (j - i).toNat) else none
  | _ => none
def gArgs (g : DS S → Option (List D)) (f : List D → Option (List D)) : DS S → Option (List D) := fun ds => (g ds).bind f
variable {g1 : DS S → Option (List D)} {p pos : Pos} {a b : Expr}
theorem pi_r1 (hg : Gl X "range") (hm : X.mg "range" = none) (ha : PA X [a] (tPA X.K g1)) (hs : starEach [a] X.env = [(false, eval a X.env)] := by rfl) : PI X tg (.Call (.Name "range" p) [a] [] pos) (tI X.K (gArgs g1 rng1)) :=
  PI.imp (pi_range1 hg hm ha hs) fun σ H R ⟨G, ds, xs, s, w, e, k⟩ => by
    unfold gArgs at e
    cases ea : g1 ds with
    | none => rw [ea] at e; cases e
    | some as =>
      rw [ea] at e
      match as, e with
      | [.int j], e =>
        simp only [Option.bind_some, rng1] at e
        split at e
        · cases e
          rename_i hz
          refine ⟨G, ds, _, s, w, ea, fun vs G1 H1 g1 d1 => ?_⟩
          cases d1 with
          | cons d1 r =>
            cases r
            cases d1
            have hl : (sizeLine : Int) < 2 ^ 62 := by decide
            exact ⟨j, rfl, hz.2, by omega, k _ G1 H1 g1 (itd_rng (by omega))⟩
        · cases e
theorem pi_r2 (hg : Gl X "range") (hm : X.mg "range" = none) (ha : PA X [a, b] (tPA X.K g1)) (hs : starEach [a, b] X.env = [(false, eval a X.env), (false, eval b X.env)] := by rfl) (hs2 : starEach [b] X.env = [(false, eval b X.env)] := by rfl) :
    PI X tg (.Call (.Name "range" p) [a, b] [] pos) (tI X.K (gArgs g1 rng2)) :=
  PI.imp (pi_range2 hg hm ha hs hs2) fun σ H R ⟨G, ds, xs, s, w, e, k⟩ => by
    unfold gArgs at e
    cases ea : g1 ds with
    | none => rw [ea] at e; cases e
    | some as =>
      rw [ea] at e
      match as, e with
      | [.int i, .int j], e =>
        simp only [Option.bind_some, rng2] at e
        split at e
        · cases e
          rename_i hz
          refine ⟨G, ds, _, s, w, ea, fun vs G1 H1 g1 d1 => ?_⟩
          cases d1 with
          | cons d1 r =>
            cases r with
            | cons d2 r =>
              cases r
              cases d1
              cases d2
              exact ⟨i, j, rfl, hz.2, k _ G1 H1 g1 (itd_rng (by omega))⟩
        · cases e
/-! enumerate, zip -/
def enumD : Nat → List D → List D
  | _, [] => []
  | k, x :: xs => .tuple [.int (k : Int), x] :: enumD (k + 1) xs
theorem enumD_len : ∀ (k : Nat) (xs : List D), (enumD k xs).length = xs.length
  | _, [] => rfl
  | k, x :: xs => congrArg (· + 1) (enumD_len (k + 1) xs)
theorem enumD_get : ∀ (k : Nat) (xs : List D) (i : Nat), (enumD k xs)[i]? = xs[i]?.map fun x => .tuple [.int ((k + i : Nat) : Int), x]
  | _, [], _ => by simp [enumD]
  | k, x :: xs, 0 => by simp [enumD]
  | k, x :: xs, i + 1 => by
    show (enumD (k + 1) xs)[i]? = _
    rw [enumD_get (k + 1) xs i]
    rw [List.getElem?_cons_succ, show k + 1 + i = k + (i + 1) from by omega]
theorem itd_enum {a : Addr} {vs : List V} {xs : List D} (q : G a = some (.lst vs)) (z : vs.length ≤ sizeLine) (r : DenAll K G vs xs) : ItD K (Ite K a) (enumD 0 xs) G where
  len := by rw [enumD_len, ← r.length]; exact z
  go := fun i H s hi => by
    have hi' : i < vs.length := by rw [r.length]; rw [enumD_len] at hi; exact hi
    exact ⟨vs, vs[i], SqL.of (s _ _ q), List.getElem?_eq_getElem hi'⟩
  stop := fun i H s hi _ => ⟨vs, SqL.of (s _ _ q), by rw [r.length]; rw [enumD_len] at hi; exact hi⟩
  yld := fun i H x H' s hi ⟨T, y, ev, hT, eh, hy⟩ => by
    subst ev eh
    obtain ⟨d, h1, h2⟩ := r.getV (hy vs (SqL.of (s _ _ q)))
    refine ⟨.tuple [.int (i : Int), d], by rw [enumD_get, h1]; simp, fun G0 s0 s1 => ⟨upd G0 T (.tup [.int (i : Int), y]), .upd s1 hT, ?_⟩⟩
    exact .tup (.inl (.inl upd_same)) (by show 2 ≤ sizeLine; decide) (.cons (.int _) (.cons ((h2.mono s0).at_new (s1.free hT)) .nil))
def enum1 : List D → Option (List D)
  | [.list xs] => some (enumD 0 xs)
  | _ => none
variable {tpos : Pos} {elts : List Expr} {kk : Nat}
theorem pi_en (hg : Gl X "enumerate") (hm : X.mg "enumerate" = none) (ha : PA X [e] (tPA X.K g1)) (hs : starEach [e] X.env = [(false, eval e X.env)] := by rfl) :
    PI X (.Tuple elts kk tpos) (.Call (.Name "enumerate" p) [e] [] pos) (tI X.K (gArgs g1 enum1)) :=
  PI.imp (pi_enum hg hm ha hs) fun σ H R ⟨G, ds, xs, s, w, e, k⟩ => by
    unfold gArgs at e
    cases ea : g1 ds with
    | none => rw [ea] at e; cases e
    | some as =>
      rw [ea] at e
      match as, e with
      | [.list ys], e =>
        cases e
        refine ⟨G, ds, _, s, w, ea, fun vs G1 H1 g1 d1 => ?_⟩
        cases d1 with
        | cons d1 r =>
          cases r
          cases d1 with
          | lst q z r => exact ⟨_, _, rfl, SqL.of (g1.sub _ _ q), k _ G1 H1 g1 (itd_enum q z r)⟩
def zipD (xs ys : List D) : List D := (xs.zip ys).map fun p => .tuple [p.1, p.2]
theorem zipD_len (xs ys : List D) : (zipD xs ys).length = min xs.length ys.length := by unfold zipD; rw [List.length_map, List.length_zip]
theorem zipD_get {xs ys : List D} {i : Nat} {x y : D} (hx : xs[i]? = some x) (hy : ys[i]? = some y) : (zipD xs ys)[i]? = some (.tuple [x, y]) := by
  unfold zipD
  have e : (xs.zip ys)[i]? = some (x, y) := by
    rw [List.getElem?_zip_eq_some]
    exact ⟨hx, hy⟩
  rw [List.getElem?_map, e]
  rfl
theorem itd_zipL {a b : Addr} {vs ws : List V} {xs ys : List D} (q : G a = some (.lst vs)) (z : vs.length ≤ sizeLine) (r : DenAll K G vs xs) (q' : G b = some (.lst ws)) (z' : ws.length ≤ sizeLine) (r' : DenAll K G ws ys) : ItD K (Itz K a b) (zipD xs ys) G where
  len := by rw [zipD_len, ← r.length]; exact Nat.le_trans (Nat.min_le_left _ _) z
  go := fun i H s hi => by
    rw [zipD_len, ← r.length, ← r'.length] at hi
    exact ⟨vs, ws, vs[i], ws[i], SqL.of (s _ _ q), SqL.of (s _ _ q'), List.getElem?_eq_getElem _, List.getElem?_eq_getElem _⟩
  stop := fun i H s hi _ => by
    rw [zipD_len, ← r.length, ← r'.length] at hi
    exact ⟨vs, ws, SqL.of (s _ _ q), SqL.of (s _ _ q'), by omega⟩
  yld := fun i H x H' s hi ⟨T, y, y2, ev, hT, eh, hy, hy2⟩ => by
    subst ev eh
    obtain ⟨d, h1, h2⟩ := r.getV (hy vs (SqL.of (s _ _ q)))
    obtain ⟨d2, h3, h4⟩ := r'.getV (hy2 ws (SqL.of (s _ _ q')))
    refine ⟨.tuple [d, d2], zipD_get h1 h3, fun G0 s0 s1 => ⟨upd G0 T (.tup [y, y2]), .upd s1 hT, ?_⟩⟩
    exact .tup (.inl (.inl upd_same)) (by show 2 ≤ sizeLine; decide) (.cons ((h2.mono s0).at_new (s1.free hT)) (.cons ((h4.mono s0).at_new (s1.free hT)) .nil))
theorem itd_zipT {a b : Addr} {vs ws : List V} {xs ys : List D} (q : SqT K G a vs) (z : vs.length ≤ sizeLine) (r : DenAll K G vs xs) (q' : SqT K G b ws) (z' : ws.length ≤ sizeLine) (r' : DenAll K G ws ys) : ItD K (RZ.ItzT K a b) (zipD xs ys) G where
  len := by rw [zipD_len, ← r.length]; exact Nat.le_trans (Nat.min_le_left _ _) z
  go := fun i H s hi => by
    rw [zipD_len, ← r.length, ← r'.length] at hi
    exact ⟨vs, ws, vs[i], ws[i], sqt_mono s q, sqt_mono s q', List.getElem?_eq_getElem _, List.getElem?_eq_getElem _⟩
  stop := fun i H s hi _ => by
    rw [zipD_len, ← r.length, ← r'.length] at hi
    exact ⟨vs, ws, sqt_mono s q, sqt_mono s q', by omega⟩
  yld := fun i H x H' s hi ⟨T, y, y2, ev, hT, eh, hy, hy2⟩ => by
    subst ev eh
    obtain ⟨d, h1, h2⟩ := r.getV (hy vs (sqt_mono s q))
    obtain ⟨d2, h3, h4⟩ := r'.getV (hy2 ws (sqt_mono s q'))
    refine ⟨.tuple [d, d2], zipD_get h1 h3, fun G0 s0 s1 => ⟨upd G0 T (.tup [y, y2]), .upd s1 hT, ?_⟩⟩
    exact .tup (.inl (.inl upd_same)) (by show 2 ≤ sizeLine; decide) (.cons ((h2.mono s0).at_new (s1.free hT)) (.cons ((h4.mono s0).at_new (s1.free hT)) .nil))
def zip2 : List D → Option (List D)
  | [.list xs, .list ys] => some (zipD xs ys)
  | [.tuple xs, .tuple ys] => some (zipD xs ys)
  | _ => none
theorem pi_zp (hg : Gl X "zip") (hm : X.mg "zip" = none) (ha : PA X [e, e2] (tPA X.K g1))
    (hs : starEach [e, e2] X.env = (false, eval e X.env) :: starEach [e2] X.env := by rfl) (hpl : (backTo pos (starEach [e2] X.env)).any (·.1) = false := by rfl) :
    PI X (.Tuple elts kk tpos) (.Call (.Name "zip" p) [e, e2] [] pos) (tI X.K (gArgs g1 zip2)) :=
  PI.imp (RZ.pi_zipA hg hm ha hs hpl) fun σ H R ⟨G, ds, xs, s, w, e, k⟩ => by
    unfold gArgs at e
    cases ea : g1 ds with
    | none => rw [ea] at e; cases e
    | some as =>
      rw [ea] at e
      match as, e with
      | [.list ys, .list zs], e =>
        cases e
        refine ⟨G, ds, _, s, w, ea, fun vs G1 H1 g1 d1 => ?_⟩
        match vs, d1 with
        | _, .cons (.lst q z r) (.cons (.lst q' z' r') .nil) => exact ⟨_, _, _, _, rfl, .inl ⟨SqL.of (g1.sub _ _ q), SqL.of (g1.sub _ _ q'), k _ G1 H1 g1 (itd_zipL q z r q' z' r')⟩⟩
      | [.tuple ys, .tuple zs], e =>
        cases e
        refine ⟨G, ds, _, s, w, ea, fun vs G1 H1 g1 d1 => ?_⟩
        match vs, d1 with
        | _, .cons (.tup q z r) (.cons (.tup q' z' r') .nil) => exact ⟨_, _, _, _, rfl, .inr ⟨sqt_mono g1.sub q, sqt_mono g1.sub q', k _ G1 H1 g1 (itd_zipT q z r q' z' r')⟩⟩
end

/-! ### list comprehensions -/
def lcRun (f : D → Option (Option D)) : List D → Option (List D)
  | [] => some []
  | x :: xs => (f x).bind fun o => (lcRun f xs).bind fun ys => some (match o with
    | some y => y :: ys
    | none => ys)
def lcOne {S : Type} (ds : DS S) (own : List Nat) (t : D → Option (List (Nat × D))) (h : DS S → Option Bool) (g : DS S → Option D) : D → Option (Option D) := fun x =>
  (t x).bind fun as => (h (setD (wipeD ds own) as)).bind fun b => if b then (g (setD (wipeD ds own) as)).map some else some none
def gLc {S : Type} (src : DS S → Option (List D)) (own : List Nat) (t : D → Option (List (Nat × D))) (h : DS S → Option Bool) (g : DS S → Option D) : DS S → Option (List D) := fun ds => (src ds).bind fun xs => lcRun (lcOne ds own t h g) xs
def gYes {S : Type} : DS S → Option Bool := fun _ => some true
section
variable {S : Type} {K : PySem.W.Frag} {src : DS S → Option (List D)} {own : List Nat} {t : D → Option (List (Nat × D))} {h : DS S → Option Bool} {g : DS S → Option D} {tg : TG}
theorem p_lc (ht : TGD K tg t) (ho : ∀ d as, t d = some as → ∀ p ∈ as, p.1 ∈ own) {σ : L2.St} {H : Hp} {Q : VK} (w0 : tF K (gLc src own t h g) σ H Q) : tLc (tI K src) tg (tPT K h) (tP K g) own σ H Q := by
  obtain ⟨G, ds, ys, s, w, e, k⟩ := w0
  unfold gLc at e
  cases ea : src ds with
  | none => rw [ea] at e; cases e
  | some xs =>
    rw [ea] at e
    simp only [Option.bind_some] at e
    refine ⟨G, ds, xs, s, w, ea, fun J G1 H1 g1 it => fun A hA => ?_⟩
    have hGA : G1 A = none := g1.sub.free hA
    refine ⟨fun i m Hc => m = xs.length - i ∧ i ≤ xs.length ∧ ∃ Gc vs done rest, Gr G H Gc Hc ∧ Same G1 Gc ∧ Gc A = none ∧ Hc A = some (.lst vs) ∧ vs.length ≤ i ∧ DenAll K Gc vs done ∧ lcRun (lcOne ds own t h g) (xs.drop i) = some rest ∧ ys = done ++ rest,
      ⟨xs.length, rfl, Nat.zero_le _, G1, [], [], ys, g1.trans (.own g1.sub hA), Same.refl _, hGA, upd_same, Nat.le_refl _, .nil, by simpa using e, by simp⟩, ?_⟩
    rintro i m Hc ⟨rfl, hi, Gc, vs, done, rest, gc, sc, nA, eA, lv, dv, er, ey⟩
    by_cases hlt : i < xs.length
    · refine .inr ⟨it.go i Hc (sc.trans gc.sub) hlt, fun H' => ∃ m', m' < xs.length - i ∧ (m' = xs.length - (i + 1) ∧ i + 1 ≤ xs.length ∧ ∃ Gc vs done rest, Gr G H Gc H' ∧ Same G1 Gc ∧ Gc A = none ∧ H' A = some (.lst vs) ∧ vs.length ≤ i + 1 ∧ DenAll K Gc vs done ∧ lcRun (lcOne ds own t h g) (xs.drop (i + 1)) = some rest ∧ ys = done ++ rest), fun H' x => x, fun x H' y => ?_⟩
      obtain ⟨d, hd, grow⟩ := it.yld i Hc x H' (sc.trans gc.sub) hlt y
      obtain ⟨Ga, ga, dx⟩ := grow Gc sc gc.sub
      have hdrop : xs.drop i = d :: xs.drop (i + 1) := by
        rw [List.drop_eq_getElem_cons hlt]
        rw [List.getElem?_eq_getElem hlt] at hd
        cases hd
        rfl
      rw [hdrop] at er
      unfold lcRun at er
      cases ef : lcOne ds own t h g d with
      | none => rw [ef] at er; cases er
      | some o =>
        rw [ef] at er
        simp only [Option.bind_some] at er
        cases e2 : lcRun (lcOne ds own t h g) (xs.drop (i + 1)) with
        | none => rw [e2] at er; cases er
        | some rest2 =>
          rw [e2] at er
          simp only [Option.bind_some] at er
          unfold lcOne at ef
          cases et : t d with
          | none => rw [et] at ef; cases ef
          | some as =>
            rw [et] at ef
            simp only [Option.bind_some] at ef
            refine ht x d as _ Ga H' _ ga.sub dx et fun ws aw => ?_
            refine ⟨by rw [wipe_setAll (asgV_slots aw (ho d as et)), wipe_wipe], ?_⟩
            have wv : View K Ga (setAll (wipe σ own) ws) (setD (wipeD ds own) as) := ((w.mono (gc.trans ga).keep).wipe own).setAll aw
            cases eh : h (setD (wipeD ds own) as) with
            | none => rw [eh] at ef; cases ef
            | some b =>
              rw [eh] at ef
              simp only [Option.bind_some] at ef
              refine ⟨Ga, _, b, ga.sub, wv, eh, fun G3 H3 g3 => ?_⟩
              have nA3 : G3 A = none := by
                cases q : G3 A with
                | none => rfl
                | some o' =>
                  rcases g3.new A (by rw [q]; simp) with z | z
                  · rcases ga.new A z with z | z
                    · exact absurd nA z
                    · rw [eA] at z; cases z
                  · rw [ga.all _ _ eA] at z; cases z
              cases b with
              | false =>
                refine iteF ?_
                rw [if_neg Bool.false_ne_true] at ef
                cases ef
                refine ⟨xs.length - (i + 1), by omega, rfl, hlt, G3, vs, done, rest2, (gc.trans ga).trans g3, sc.trans (ga.trans g3).keep, nA3, (ga.trans g3).all _ _ eA, Nat.le_succ_of_le lv, dv.mono (ga.trans g3).keep, rfl, ?_⟩
                cases er
                exact ey
              | true =>
                refine iteT ?_
                rw [if_pos rfl] at ef
                cases eg : g (setD (wipeD ds own) as) with
                | none => rw [eg] at ef; cases ef
                | some y0 =>
                  rw [eg] at ef
                  cases ef
                  refine ⟨G3, _, y0, g3.sub, wv.mono g3.keep, eg, fun v G4 H4 g4 dy => ?_⟩
                  have nA4 : G4 A = none := by
                    cases q : G4 A with
                    | none => rfl
                    | some o' =>
                      rcases g4.new A (by rw [q]; simp) with z | z
                      · exact absurd nA3 z
                      · rw [(ga.trans g3).all _ _ eA] at z; cases z
                  have eA4 := ((ga.trans g3).trans g4).all _ _ eA
                  refine ⟨vs, eA4, by have := it.len; omega, ?_⟩
                  have gg := ((gc.trans ga).trans g3).trans g4
                  have hHA : H A = none := g1.all.free hA
                  refine ⟨xs.length - (i + 1), by omega, rfl, hlt, G4, vs ++ [v], done ++ [y0], rest2, ⟨gg.keep, fun b u q => ?_, fun b u q => ?_, gg.new⟩, sc.trans ((ga.trans g3).trans g4).keep, nA4, upd_same, by rw [List.length_append]; simpa using lv, (dv.mono ((ga.trans g3).trans g4).keep).append (.cons dy .nil), rfl, ?_⟩
                  · rw [upd_ne (ne_of_none q nA4)]; exact gg.sub b u q
                  · rw [upd_ne (ne_of_none q hHA)]; exact gg.all b u q
                  · cases er
                    rw [ey, List.append_assoc]
                    rfl
    · have e' : i = xs.length := by omega
      subst e'
      refine .inl ⟨it.stop _ Hc (sc.trans gc.sub) (Nat.le_refl _) (Nat.le_refl _), ?_⟩
      rw [List.drop_length] at er
      cases er
      rw [List.append_nil] at ey
      subst ey
      exact k A vs Gc Hc gc nA (g1.all.free hA) eA (Nat.le_trans lv it.len) dv
theorem pts_yes {X : Cx} : PTs X [] (tPT (S := S) X.K gYes) := PTs.imp pts_nil fun σ H Q ⟨G, ds, b, s, w, e, k⟩ => by
  cases e
  exact k G H (.refl s)
end
end DL
set_option Elab.async false
set_option linter.all false
set_option maxRecDepth 100000
set_option maxHeartbeats 4000000
namespace DL
open PySem PySem.Spec PyProof.Rows L2

/-! ### calls of built-ins -/
def RCD (K : PySem.W.Frag) (r : List V → Hp → VK → Prop) (g : List D → Option D) : Prop := ∀ vs ds d G H (Q : VK), Same G H → DenAll K G vs ds → g ds = some d → (∀ v G' H', Gr G H G' H' → Den K G' v d → Q v H') → r vs H Q
def RCF (K : PySem.W.Frag) (r : List V → Hp → VK → Prop) (g : List D → Option (List D)) : Prop := ∀ vs ds xs G H (Q : VK), Same G H → DenAll K G vs ds → g ds = some xs →
  (∀ p vs G' H', Gr G H G' H' → G' p = none → H p = none → H' p = some (.lst vs) → vs.length ≤ sizeLine → DenAll K G' vs xs → Q (.ref p) H') → r vs H Q
def gCall {S : Type} (g : DS S → Option (List D)) (f : List D → Option D) : DS S → Option D := fun ds => (g ds).bind f
section
variable {S : Type} {X : Cx} {K : PySem.W.Frag} {x : Str} {p pos : Pos} {e o : Expr} {es : List Expr} {ga : DS S → Option D} {gs : DS S → Option (List D)} {bid T : String}
theorem p_cb {r : List V → Hp → VK → Prop} {f : List D → Option D} (hr : RCD K r f) {σ : L2.St} {H : Hp} {Q : VK} (h : tP K (gCall gs f) σ H Q) : tCB r (tPA K gs) σ H Q := by
  obtain ⟨G, ds, d, s, w, e, k⟩ := h
  unfold gCall at e
  cases ea : gs ds with
  | none => rw [ea] at e; cases e
  | some xs =>
    rw [ea] at e
    exact ⟨G, ds, xs, s, w, ea, fun vs G1 H1 g1 d1 => hr vs xs d G1 H1 Q g1.sub d1 e fun v G2 H2 g2 d2 => k v G2 H2 (g1.trans g2) d2⟩
theorem p_cbF {r : List V → Hp → VK → Prop} {f : List D → Option (List D)} (hr : RCF K r f) {σ : L2.St} {H : Hp} {Q : VK} (h : tF K (gArgs gs f) σ H Q) : tCB r (tPA K gs) σ H Q := by
  obtain ⟨G, ds, d, s, w, e, k⟩ := h
  unfold gArgs at e
  cases ea : gs ds with
  | none => rw [ea] at e; cases e
  | some xs =>
    rw [ea] at e
    exact ⟨G, ds, xs, s, w, ea, fun vs G1 H1 g1 d1 => hr vs xs d G1 H1 Q g1.sub d1 e fun p vs G2 H2 g2 h1 h2 h3 z d2 => k p vs G2 H2 (g1.trans g2) h1 (g1.all.free h2) h3 z d2⟩
theorem ep_cb {r : List V → Hp → VK → Prop} {f : List D → Option D} (hc : CallR X (.builtin bid) r) (hr : RCD X.K r f) (hg : Gl X x) (hm : X.mg x = none) (hv : bootBuiltins x = some (.builtin bid)) (ha : PA X (e :: es) (tPA X.K gs)) (hn : x ≠ "__name__" := by decide) (hdb : (x == ("__debug__" : Str)) = false := by decide)
    (he : starEach (e :: es) X.env = (false, eval e X.env) :: starEach es X.env := by rfl) (hpl : (backTo pos (starEach es X.env)).any (·.1) = false := by rfl) : PE X (.Call (.Name x p) (e :: es) [] pos) (tP X.K (gCall gs f)) :=
  PE.imp (pe_callB hc hg hm hv ha hn hdb he hpl) fun _ _ _ h => p_cb hr h
theorem ef_cb {r : List V → Hp → VK → Prop} {f : List D → Option (List D)} (hc : CallR X (.builtin bid) r) (hr : RCF X.K r f) (hg : Gl X x) (hm : X.mg x = none) (hv : bootBuiltins x = some (.builtin bid)) (ha : PA X (e :: es) (tPA X.K gs)) (hn : x ≠ "__name__" := by decide) (hdb : (x == ("__debug__" : Str)) = false := by decide)
    (he : starEach (e :: es) X.env = (false, eval e X.env) :: starEach es X.env := by rfl) (hpl : (backTo pos (starEach es X.env)).any (·.1) = false := by rfl) : PE X (.Call (.Name x p) (e :: es) [] pos) (tF X.K (gArgs gs f)) :=
  PE.imp (pe_callB hc hg hm hv ha hn hdb he hpl) fun _ _ _ h => p_cbF hr h
theorem ep_ct {r : List V → Hp → VK → Prop} {f : List D → Option D} (hc : CallR X (.type T) r) (hr : RCD X.K r f) (hg : Gl X x) (hm : X.mg x = none) (hv : bootBuiltins x = some (.type T)) (ha : PA X (e :: es) (tPA X.K gs)) (hn : x ≠ "__name__" := by decide) (hdb : (x == ("__debug__" : Str)) = false := by decide)
    (he : starEach (e :: es) X.env = (false, eval e X.env) :: starEach es X.env := by rfl) (hpl : (backTo pos (starEach es X.env)).any (·.1) = false := by rfl) : PE X (.Call (.Name x p) (e :: es) [] pos) (tP X.K (gCall gs f)) :=
  PE.imp (pe_callTy hc hg hm hv ha hn hdb he hpl) fun _ _ _ h => p_cb hr h
theorem ef_ct {r : List V → Hp → VK → Prop} {f : List D → Option (List D)} (hc : CallR X (.type T) r) (hr : RCF X.K r f) (hg : Gl X x) (hm : X.mg x = none) (hv : bootBuiltins x = some (.type T)) (ha : PA X (e :: es) (tPA X.K gs)) (hn : x ≠ "__name__" := by decide) (hdb : (x == ("__debug__" : Str)) = false := by decide)
    (he : starEach (e :: es) X.env = (false, eval e X.env) :: starEach es X.env := by rfl) (hpl : (backTo pos (starEach es X.env)).any (·.1) = false := by rfl) : PE X (.Call (.Name x p) (e :: es) [] pos) (tF X.K (gArgs gs f)) :=
  PE.imp (pe_callTy hc hg hm hv ha hn hdb he hpl) fun _ _ _ h => p_cbF hr h

/-! len, min, max, abs, int, list, tuple, sum, any, all -/
def lenD : List D → Option D
  | [.str x] => some (.int x.length)
  | [.list xs] => some (.int xs.length)
  | [.tuple xs] => some (.int xs.length)
  | _ => none
theorem d_len : RCD K (fun xs H Q => ∃ x n, xs = [x] ∧ LenV K x H n ∧ Q (.int n) H) lenD := by
  intro vs ds d G H Q s da e k
  match ds, e with
  | [.str x], e =>
    match vs, da with
    | _, .cons (.str _ z o) .nil => cases e; exact ⟨_, _, rfl, ⟨z, rfl⟩, k _ G H (.refl s) (.int _)⟩
  | [.list ys], e =>
    match vs, da with
    | _, .cons (.lst q z r) .nil => cases e; exact ⟨_, _, rfl, .inl ⟨_, SqL.of (s _ _ q), rfl⟩, k _ G H (.refl s) (by rw [r.length]; exact .int _)⟩
  | [.tuple ys], e =>
    match vs, da with
    | _, .cons (.tup q z r) .nil => cases e; exact ⟨_, _, rfl, .inr ⟨_, sqt_mono s q, rfl⟩, k _ G H (.refl s) (by rw [r.length]; exact .int _)⟩
def min2 : List D → Option D
  | [.int i, .int j] => some (.int (if j < i then j else i))
  | _ => none
def max2 : List D → Option D
  | [.int i, .int j] => some (.int (if j > i then j else i))
  | _ => none
theorem d_min2 : RCD K (fun xs H Q => ∃ i j, xs = [.int i, .int j] ∧ Q (.int (if j < i then j else i)) H) min2 := by
  intro vs ds d G H Q s da e k
  match ds, e with
  | [.int i, .int j], e =>
    match vs, da with
    | _, .cons (.int _) (.cons (.int _) .nil) => cases e; exact ⟨i, j, rfl, k _ G H (.refl s) (.int _)⟩
theorem d_max2 : RCD K (fun xs H Q => ∃ i j, xs = [.int i, .int j] ∧ Q (.int (if j > i then j else i)) H) max2 := by
  intro vs ds d G H Q s da e k
  match ds, e with
  | [.int i, .int j], e =>
    match vs, da with
    | _, .cons (.int _) (.cons (.int _) .nil) => cases e; exact ⟨i, j, rfl, k _ G H (.refl s) (.int _)⟩
def absD : List D → Option D
  | [.int i] => some (.int (if i < 0 then -i else i))
  | _ => none
theorem d_abs : RCD K (fun xs H Q => ∃ i, xs = [.int i] ∧ Q (.int (if i < 0 then -i else i)) H) absD := by
  intro vs ds d G H Q s da e k
  match ds, e with
  | [.int i], e =>
    match vs, da with
    | _, .cons (.int _) .nil => cases e; exact ⟨i, rfl, k _ G H (.refl s) (.int _)⟩
/-- int(n), int(flag) -/
def intD : List D → Option D
  | [.int i] => some (.int i)
  | [.bool b] => some (.int (if b then 1 else 0))
  | _ => none
theorem d_int : RCD K (fun xs H Q => (∃ i, xs = [.int i] ∧ Q (.int i) H) ∨ ∃ k, xs = [.bl k] ∧ Q (.int (if k then 1 else 0)) H) intD := by
  intro vs ds d G H Q s da e k
  match ds, e with
  | [.int i], e =>
    match vs, da with
    | _, .cons (.int _) .nil => cases e; exact .inl ⟨i, rfl, k _ G H (.refl s) (.int _)⟩
  | [.bool b], e =>
    match vs, da with
    | _, .cons (.bl _) .nil => cases e; exact .inr ⟨b, rfl, k _ G H (.refl s) (.int _)⟩
/-- str(n) -/
def strD : List D → Option D
  | [.int i] => if i.natAbs.log2 < 1920 ∧ (toString i : Str).length ≤ sizeLine ∧ PyData.strOk (toString i) = true then some (.str (toString i)) else none
  | _ => none
theorem d_str : RCD K (fun xs H Q => ∃ i, xs = [.int i] ∧ i.natAbs.log2 < 1920 ∧ Q (.str (toString i)) H) strD := by
  intro vs ds d G H Q s da e k
  match ds, e with
  | [.int i], e =>
    match vs, da with
    | _, .cons (.int _) .nil =>
      simp only [strD] at e
      split at e
      · cases e
        rename_i h
        exact ⟨i, rfl, h.1, k _ G H (.refl s) (.str _ h.2.1 h.2.2)⟩
      · cases e
def listD : List D → Option (List D)
  | [.list xs] => some xs
  | [.tuple xs] => some xs
  | _ => none
theorem d_list : RCF K (fun xs H Q => ∃ p ys, xs = [.ref p] ∧ (SqL K H p ys ∨ SqT K H p ys) ∧ ∀ l, H l = none → Q (.ref l) (upd H l (.lst ys))) listD := by
  intro vs ds d G H Q s da e k
  match ds, e with
  | [.list ys], e =>
    match vs, da with
    | _, .cons (.lst q z r) .nil => cases e; exact ⟨_, _, rfl, .inl (SqL.of (s _ _ q)), fun l hl => k l _ G _ (.own s hl) (s.free hl) hl upd_same z r⟩
  | [.tuple ys], e =>
    match vs, da with
    | _, .cons (.tup q z r) .nil => cases e; exact ⟨_, _, rfl, .inr (sqt_mono s q), fun l hl => k l _ G _ (.own s hl) (s.free hl) hl upd_same z r⟩
def tupleD : List D → Option D
  | [.list xs] => some (.tuple xs)
  | [.tuple xs] => some (.tuple xs)
  | _ => none
theorem d_tuple : RCD K (fun xs H Q => ∃ p ys, xs = [.ref p] ∧ ((SqL K H p ys ∧ ∀ l, H l = none → Q (.ref l) (upd H l (.tup ys))) ∨ (SqT K H p ys ∧ Q (.ref p) H))) tupleD := by
  intro vs ds d G H Q s da e k
  match ds, e with
  | [.list ys], e =>
    match vs, da with
    | _, .cons (.lst q z r) .nil =>
      cases e
      exact ⟨_, _, rfl, .inl ⟨SqL.of (s _ _ q), fun l hl => k _ (upd G l _) _ (.upd s hl) (.tup (.inl (.inl upd_same)) z (r.mono fun b u e => by rw [upd_ne (ne_of_none e (s.free hl))]; exact e))⟩⟩
  | [.tuple ys], e =>
    match vs, da with
    | _, .cons (.tup q z r) .nil => cases e; exact ⟨_, _, rfl, .inr ⟨sqt_mono s q, k _ G H (.refl s) (.tup q z r)⟩⟩
def boolsOf : List D → Option (List Bool)
  | [] => some []
  | .bool b :: r => (boolsOf r).map (b :: ·)
  | _ => none
def intsOf : List D → Option (List Int)
  | [] => some []
  | .int b :: r => (intsOf r).map (b :: ·)
  | _ => none
def strsOf : List D → Option (List Str)
  | [] => some []
  | .str b :: r => (strsOf r).map (b :: ·)
  | _ => none
theorem bools_den {G : Hp} : ∀ {vs : List V} {ds : List D} {bs : List Bool}, DenAll K G vs ds → boolsOf ds = some bs → vs = bs.map V.bl
  | _, _, _, .nil, e => by cases e; rfl
  | _, _, _, .cons (d := d) (ds := ds) h r, e => by
    cases h with
    | bl b =>
      simp only [boolsOf] at e
      cases eq : boolsOf ds with
      | none => rw [eq] at e; cases e
      | some bs => rw [eq] at e; cases e; rw [bools_den r eq]; rfl
    | _ => cases e
theorem ints_den {G : Hp} : ∀ {vs : List V} {ds : List D} {bs : List Int}, DenAll K G vs ds → intsOf ds = some bs → vs = bs.map V.int
  | _, _, _, .nil, e => by cases e; rfl
  | _, _, _, .cons (d := d) (ds := ds) h r, e => by
    cases h with
    | int b =>
      simp only [intsOf] at e
      cases eq : intsOf ds with
      | none => rw [eq] at e; cases e
      | some bs => rw [eq] at e; cases e; rw [ints_den r eq]; rfl
    | _ => cases e
theorem strs_den {G : Hp} : ∀ {vs : List V} {ds : List D} {bs : List Str}, DenAll K G vs ds → strsOf ds = some bs → vs = bs.map V.str
  | _, _, _, .nil, e => by cases e; rfl
  | _, _, _, .cons (d := d) (ds := ds) h r, e => by
    cases h with
    | str b _ _ =>
      simp only [strsOf] at e
      cases eq : strsOf ds with
      | none => rw [eq] at e; cases e
      | some bs => rw [eq] at e; cases e; rw [strs_den r eq]; rfl
    | _ => cases e
def anyD : List D → Option D
  | [.list xs] => (boolsOf xs).map fun bs => .bool (bs.any fun b => b)
  | _ => none
def allD : List D → Option D
  | [.list xs] => (boolsOf xs).map fun bs => .bool (bs.all fun b => b)
  | _ => none
theorem d_any : RCD K (rAny K) anyD := by
  intro vs ds d G H Q s da e k
  match ds, e with
  | [.list ds], e =>
    match vs, da with
    | _, .cons (.lst q z r) .nil =>
      simp only [anyD] at e
      cases eq : boolsOf ds with
      | none => rw [eq] at e; cases e
      | some bs =>
        rw [eq] at e
        cases e
        have hv := bools_den r eq
        subst hv
        exact ⟨_, bs, rfl, SqL.of (s _ _ q), k _ G H (.refl s) (.bl _)⟩
theorem d_all : RCD K (rAll K) allD := by
  intro vs ds d G H Q s da e k
  match ds, e with
  | [.list ds], e =>
    match vs, da with
    | _, .cons (.lst q z r) .nil =>
      simp only [allD] at e
      cases eq : boolsOf ds with
      | none => rw [eq] at e; cases e
      | some bs =>
        rw [eq] at e
        cases e
        have hv := bools_den r eq
        subst hv
        exact ⟨_, bs, rfl, SqL.of (s _ _ q), k _ G H (.refl s) (.bl _)⟩
def sumD : List D → Option D
  | [.list xs] => (intsOf xs).map fun bs => .int bs.sum
  | _ => none
theorem d_sum : RCD K (rSum K) sumD := by
  intro vs ds d G H Q s da e k
  match ds, e with
  | [.list ds], e =>
    match vs, da with
    | _, .cons (.lst q z r) .nil =>
      simp only [sumD] at e
      cases eq : intsOf ds with
      | none => rw [eq] at e; cases e
      | some bs =>
        rw [eq] at e
        cases e
        have hv := ints_den r eq
        subst hv
        exact ⟨_, bs, rfl, SqL.of (s _ _ q), k _ G H (.refl s) (.int _)⟩
/-- the greatest, the least of a list of ints -/
def greatest : List Int → Option Int
  | [] => none
  | x :: xs => some (xs.foldl max x)
def least : List Int → Option Int
  | [] => none
  | x :: xs => some (xs.foldl min x)
theorem foldl_max : ∀ (xs : List Int) (x : Int), (xs.foldl max x = x ∨ xs.foldl max x ∈ xs) ∧ x ≤ xs.foldl max x ∧ ∀ y ∈ xs, y ≤ xs.foldl max x
  | [], x => ⟨.inl rfl, Int.le_refl _, fun _ h => by cases h⟩
  | z :: xs, x => by
    obtain ⟨h1, h2, h3⟩ := foldl_max xs (max x z)
    show ((xs.foldl max (max x z)) = x ∨ (xs.foldl max (max x z)) ∈ z :: xs) ∧ x ≤ (xs.foldl max (max x z)) ∧ ∀ y ∈ z :: xs, y ≤ (xs.foldl max (max x z))
    refine ⟨?_, by omega, fun y hy => ?_⟩
    · rcases h1 with h1 | h1
      · rw [h1]
        by_cases hx : x ≤ z
        · exact .inr (by rw [show max x z = z from by omega]; exact List.mem_cons_self)
        · exact .inl (by omega)
      · exact .inr (List.mem_cons_of_mem _ h1)
    · rcases List.mem_cons.mp hy with rfl | hy
      · omega
      · exact h3 y hy
theorem foldl_min : ∀ (xs : List Int) (x : Int), (xs.foldl min x = x ∨ xs.foldl min x ∈ xs) ∧ xs.foldl min x ≤ x ∧ ∀ y ∈ xs, xs.foldl min x ≤ y
  | [], x => ⟨.inl rfl, Int.le_refl _, fun _ h => by cases h⟩
  | z :: xs, x => by
    obtain ⟨h1, h2, h3⟩ := foldl_min xs (min x z)
    show ((xs.foldl min (min x z)) = x ∨ (xs.foldl min (min x z)) ∈ z :: xs) ∧ (xs.foldl min (min x z)) ≤ x ∧ ∀ y ∈ z :: xs, (xs.foldl min (min x z)) ≤ y
    refine ⟨?_, by omega, fun y hy => ?_⟩
    · rcases h1 with h1 | h1
      · rw [h1]
        by_cases hx : z ≤ x
        · exact .inr (by rw [show min x z = z from by omega]; exact List.mem_cons_self)
        · exact .inl (by omega)
      · exact .inr (List.mem_cons_of_mem _ h1)
    · rcases List.mem_cons.mp hy with rfl | hy
      · omega
      · exact h3 y hy
theorem greatest_is {xs : List Int} {g m : Int} (e : greatest xs = some g) (h1 : m ∈ xs) (h2 : ∀ y ∈ xs, y ≤ m) : m = g := by
  cases xs with
  | nil => cases e
  | cons x xs =>
    cases e
    obtain ⟨a, b, c⟩ := foldl_max xs x
    have hg : xs.foldl max x ∈ x :: xs := by
      rcases a with a | a
      · rw [a]; exact List.mem_cons_self
      · exact List.mem_cons_of_mem _ a
    have q1 := h2 _ hg
    have q2 : m ≤ xs.foldl max x := by
      rcases List.mem_cons.mp h1 with rfl | h1
      · exact b
      · exact c m h1
    omega
theorem least_is {xs : List Int} {g m : Int} (e : least xs = some g) (h1 : m ∈ xs) (h2 : ∀ y ∈ xs, m ≤ y) : m = g := by
  cases xs with
  | nil => cases e
  | cons x xs =>
    cases e
    obtain ⟨a, b, c⟩ := foldl_min xs x
    have hg : xs.foldl min x ∈ x :: xs := by
      rcases a with a | a
      · rw [a]; exact List.mem_cons_self
      · exact List.mem_cons_of_mem _ a
    have q1 := h2 _ hg
    have q2 : xs.foldl min x ≤ m := by
      rcases List.mem_cons.mp h1 with rfl | h1
      · exact b
      · exact c m h1
    omega
def maxL : List D → Option D
  | [.list xs] => (intsOf xs).bind fun bs => (greatest bs).map .int
  | _ => none
def minL : List D → Option D
  | [.list xs] => (intsOf xs).bind fun bs => (least bs).map .int
  | _ => none
theorem d_maxL : RCD K (rMax K) maxL := by
  intro vs ds d G H Q s da e k
  match ds, e with
  | [.list ds], e =>
    match vs, da with
    | _, .cons (.lst q z r) .nil =>
      simp only [maxL] at e
      cases eq : intsOf ds with
      | none => rw [eq] at e; cases e
      | some bs =>
        rw [eq] at e
        simp only [Option.bind_some] at e
        cases eg : greatest bs with
        | none => rw [eg] at e; cases e
        | some g =>
          rw [eg] at e
          cases e
          have hv := ints_den r eq
          subst hv
          exact ⟨_, bs, rfl, SqL.of (s _ _ q), by cases bs with | nil => cases eg | cons a b => exact Nat.succ_pos _, fun m h1 h2 => by rw [greatest_is eg h1 h2]; exact k _ G H (.refl s) (.int _)⟩
theorem d_minL : RCD K (rMin K) minL := by
  intro vs ds d G H Q s da e k
  match ds, e with
  | [.list ds], e =>
    match vs, da with
    | _, .cons (.lst q z r) .nil =>
      simp only [minL] at e
      cases eq : intsOf ds with
      | none => rw [eq] at e; cases e
      | some bs =>
        rw [eq] at e
        simp only [Option.bind_some] at e
        cases eg : least bs with
        | none => rw [eg] at e; cases e
        | some g =>
          rw [eg] at e
          cases e
          have hv := ints_den r eq
          subst hv
          exact ⟨_, bs, rfl, SqL.of (s _ _ q), by cases bs with | nil => cases eg | cons a b => exact Nat.succ_pos _, fun m h1 h2 => by rw [least_is eg h1 h2]; exact k _ G H (.refl s) (.int _)⟩

/-! isinstance(x, T), T a built-in class -/
def tyD : D → String
  | .none => "NoneType" | .bool _ => "bool" | .int _ => "int" | .str _ => "str" | .list _ => "list" | .tuple _ => "tuple" | .dict _ => "dict"
def isiD (T : String) : List D → Option D
  | [d] => (kitB (tyD d) T).map .bool
  | _ => none
theorem tyX_den {G H : Hp} {v : V} {d : D} (s : Same G H) (h : Den K G v d) : TyX K H v (.type (tyD d)) := by
  cases h with
  | non => exact .base .non
  | bl b => exact .base (.bl _)
  | int i => exact .base (.int _)
  | str x _ _ => exact .base (.str _)
  | lst q z r => exact .base (.lst (s _ _ q))
  | tup q z r =>
    rcases q with (q | ⟨o, q⟩) | ⟨o, its, n, q, c, _⟩
    · exact .base (.tup (s _ _ q))
    · exact .fTuple (s _ _ q)
    · exact .kTuple q c
/-- the class is a name of a built-in class -/
def gIsi (T : String) (g : DS S → Option D) : DS S → Option D := fun ds => (g ds).bind fun d => (kitB (tyD d) T).map .bool
theorem ep_isi {T : String} {ty : Str} {p2 : Pos} {v2 : Value} (hg : Gl X "isinstance") (hm : X.mg "isinstance" = none) (ha : PE X e (tP X.K ga)) (hT : PE X (.Name ty p2) (tC (.ty T)))
    (he : starEach (e :: [Expr.Name ty p2]) X.env = (false, eval e X.env) :: starEach [Expr.Name ty p2] X.env := by rfl) (he2 : starEach [Expr.Name ty p2] X.env = (false, eval (.Name ty p2) X.env) :: starEach [] X.env := by rfl) (hpl : (backTo pos (starEach [Expr.Name ty p2] X.env)).any (·.1) = false := by rfl) :
    PE X (.Call (.Name "isinstance" p) [e, .Name ty p2] [] pos) (tP X.K (gIsi T ga)) :=
  PE.imp (pe_callB call_isi hg hm (by decide +kernel) (pa_cons ha (pa_cons hT pa_nil he2) he) (by decide) (by decide) he hpl) fun σ H Q ⟨G, ds, d, s, w, e, k⟩ => by
    unfold gIsi at e
    cases ea : ga ds with
    | none => rw [ea] at e; cases e
    | some x =>
      rw [ea] at e
      simp only [Option.bind_some] at e
      cases eq : kitB (tyD x) T with
      | none => rw [eq] at e; cases e
      | some b =>
        rw [eq] at e
        cases e
        refine ⟨G, ds, x, s, w, ea, fun v G1 H1 g1 d1 => ?_⟩
        exact ⟨v, .ty T, _, _, b, rfl, .ty T, tyX_den g1.sub d1, kit_ty eq, k _ G1 H1 g1 (.bl _)⟩

/-! sorted(xs) -/
def allAlikeB (ds : List D) : Bool := ds.all fun a => ds.all fun b => PySem.W.alike a b
def sortableB (ds : List D) : Bool := (ds.all fun d => match d with | .tuple (_ :: _) => true | _ => false) || (ds.all fun d => match d with | .none => false | .tuple _ => false | _ => true)
theorem allAlike_of {ds : List D} (h : allAlikeB ds = true) : PySem.W.AllAlike ds := fun a ha b hb => List.all_eq_true.mp (List.all_eq_true.mp h a ha) b hb
theorem sortable_of {ds : List D} (h : sortableB ds = true) : PySem.W.Sortable ds := by
  unfold sortableB at h
  rcases Bool.or_eq_true_iff.mp h with h | h
  · refine .inl fun d hd => ?_
    have q := List.all_eq_true.mp h d hd
    match d, q with
    | .tuple (x :: r), _ => exact ⟨x, r, rfl⟩
  · refine .inr fun d hd => ?_
    have q := List.all_eq_true.mp h d hd
    refine ⟨fun e => ?_, fun xs e => ?_⟩ <;> (rw [e] at q; cases q)
def sortD (ds : List D) : List D := ds.mergeSort (PySem.W.dataLe false fun d => d)
def sortedD : List D → Option (List D)
  | [.list xs] => if allAlikeB xs = true ∧ sortableB xs = true ∧ PyData.depthAll xs ≤ 64 then some (sortD xs) else none
  | _ => none
def rSortedA (K : PySem.W.Frag) : List V → Hp → VK → Prop := fun xs H Q => ∃ a vs ds, xs = [.ref a] ∧ SqL K H a vs ∧ DpAll K H vs ds ∧ PySem.W.AllAlike ds ∧ PySem.W.Sortable ds ∧ vs.length ≤ sizeLine ∧ (∀ d ∈ ds, d.depth ≤ 64) ∧
  ∀ ps : List (V × D), ps.Perm (vs.zip ds) → ps.map (·.2) = sortD ds → ∀ p, H p = none → Q (.ref p) (upd H p (.lst (ps.map (·.1))))
theorem each_of {R : Value → V × D → Prop} {H : Hp} : ∀ {vs : List V} {ds : List D} {us : List Value}, DpAll K H vs ds → Vals vs us → (∀ v d u, Dp K H v d → RelV v u → R u (v, d)) → PySem.W.EachIs R us (vs.zip ds)
  | _, _, _, .nil, .nil, _ => .nil
  | _, _, _, .cons h r, .cons rv rr, f => .cons (f _ _ _ h rv) (each_of r rr f)
theorem zip_snd {H : Hp} : ∀ {vs : List V} {ds : List D}, DpAll K H vs ds → (vs.zip ds).map (·.2) = ds
  | _, _, .nil => rfl
  | _, _, .cons h r => by
    show _ :: (List.zip _ _).map _ = _
    rw [zip_snd r]
theorem vals_each {ps : List (V × D)} {out : List Value} (h : PySem.W.EachIs (fun u (p : V × D) => RelV p.1 u) out ps) : Vals (ps.map (·.1)) out := by
  induction h with
  | nil => exact .nil
  | cons r _ ih => exact .cons r ih
theorem cr_sortedA (hu : X.A.units + 100 < cLine) : CallR X (.builtin "sorted") (rSortedA X.K) := by
  intro pins s σ H xs us Q I r h
  obtain ⟨a, vs, ds, rfl, hq, hd, hal, hk, hz, hdep, q⟩ := h
  rw [Vals.ref1 r]
  obtain ⟨its, rv, pl, _⟩ := I.list hq
  have hlen : its.length = vs.length := rv.length.symm
  have e1 : PySem.W.EachIs (fun u (p : V × D) => RelV p.1 u) its (vs.zip ds) := each_of hd rv fun _ _ _ _ r => r
  have e2 : PySem.W.EachIs (fun u (p : V × D) => ∃ as, Reads s.heap u p.2 as) its (vs.zip ds) := each_of hd rv fun v d u h r => Dp.reads I d v u h r
  have hsnd := zip_snd hd
  have hl : (vs.zip ds).length = its.length := e1.length.symm
  refine PySem.W.sorted_data (β := V × D) (enc := fun p => p.2) pl.isList e1 e2 (by rw [hsnd]; exact hal) (by rw [hsnd]; exact hk) (by rw [hl, hlen]; exact hz) (fun b hb => ?_) fun out hlo ho => ?_
  · have hb2 : b.2 ∈ ds := by rw [← hsnd]; exact List.mem_map_of_mem hb
    have := hdep _ hb2
    omega
  · have hperm := List.mergeSort_perm (vs.zip ds) (PySem.W.dataLe false fun p : V × D => p.2)
    have hmap : ((vs.zip ds).mergeSort (PySem.W.dataLe false fun p : V × D => p.2)).map (·.2) = sortD ds := by
      have q := PySem.W.sort_maps (r := PySem.W.dataLe false fun p : V × D => p.2) (s := PySem.W.dataLe false fun d : D => d) (fun p : V × D => p.2) (l := vs.zip ds) fun a _ b _ => rfl
      rw [hsnd] at q
      exact q
    obtain ⟨ep, he'⟩ := PyProof.Rows.sortedAll_at s.heap its out.toArray
    have hz2 : (((vs.zip ds).mergeSort (PySem.W.dataLe false fun p : V × D => p.2)).map (·.1)).length ≤ sizeLine := by rw [List.length_map, hperm.length_eq, hl, hlen]; exact hz
    have hv := vals_each ho
    exact ⟨.ref _, upd H (s.heap.objs.size + 1) (.lst _), I.laid (t' := s.toks) (fun _ _ => PyProof.Rows.sortedAll_old) (Nat.le_succ _) ⟨hz2, out.toArray.toList, ep, by simpa using hv, he'⟩, rfl, q _ hperm hmap _ (I.hok.fresh (Nat.le_succ _))⟩
theorem denAll_zip {G : Hp} : ∀ {ps : List (V × D)}, (∀ p ∈ ps, Den K G p.1 p.2) → DenAll K G (ps.map (·.1)) (ps.map (·.2))
  | [], _ => .nil
  | p :: ps, h => .cons (h p List.mem_cons_self) (denAll_zip fun q hq => h q (List.mem_cons_of_mem _ hq))
theorem den_zip {G : Hp} : ∀ {vs : List V} {ds : List D}, DenAll K G vs ds → ∀ p ∈ vs.zip ds, Den K G p.1 p.2
  | _, _, .nil, _, h => by cases h
  | _, _, .cons h r, p, hp => by
    rcases List.mem_cons.mp hp with rfl | hp
    · exact h
    · exact den_zip r p hp
theorem depth_all : ∀ {ds : List D} {n : Nat}, PyData.depthAll ds ≤ n → ∀ d ∈ ds, d.depth ≤ n
  | x :: ds, n, h, d, hd => by
    unfold PyData.depthAll at h
    rcases List.mem_cons.mp hd with rfl | hd
    · omega
    · exact depth_all (n := n) (by omega) d hd
theorem d_sorted : RCF K (rSortedA K) sortedD := by
  intro vs ds d G H Q s da e k
  match ds, e with
  | [.list ds], e =>
    match vs, da with
    | _, .cons (.lst q z r) .nil =>
      simp only [sortedD] at e
      split at e
      · cases e
        rename_i h
        refine ⟨_, _, ds, rfl, SqL.of (s _ _ q), (r.mono s).dp, allAlike_of h.1, sortable_of h.2.1, z, depth_all h.2.2, fun ps hp hm p hn => ?_⟩
        have hd : DenAll K G (ps.map (·.1)) (ps.map (·.2)) := denAll_zip fun x hx => den_zip r x (hp.mem_iff.mp hx)
        rw [hm] at hd
        refine k p _ G _ (.own s hn) (s.free hn) hn upd_same ?_ hd
        rw [List.length_map, hp.length_eq, List.length_zip]
        exact Nat.le_trans (Nat.min_le_left _ _) z
      · cases e
end
end DL
set_option Elab.async false
set_option linter.all false
set_option maxRecDepth 100000
set_option maxHeartbeats 4000000
namespace DL
open PySem PySem.Spec PyProof.Rows L2

/-! ### own objects, and a frame's state -/
/-- how the draws' state lies in the heap -/
structure StI (S : Type) where
  rel : Hp → V → S → (Addr → Prop) → Prop
  frame : ∀ {H H' : Hp} {v : V} {s : S} {fp : Addr → Prop}, rel H v s fp → (∀ a, fp a → H' a = H a) → rel H' v s fp
  trk : ∀ {H : Hp} {v : V} {s : S} {fp : Addr → Prop}, rel H v s fp → ∀ a, fp a → H a ≠ none
def OwnAt {S : Type} (K : PySem.W.Frag) (R : StI S) (G H : Hp) (v : V) (m : MO S) (fp : Addr → Prop) : Prop :=
  match m with
  | .d x => Den K G v x ∧ ∀ a, ¬ fp a
  | .lst xs => ∃ p vs, v = .ref p ∧ H p = some (.lst vs) ∧ vs.length ≤ sizeLine ∧ DenAll K G vs xs ∧ ∀ a, fp a ↔ a = p
  | .st s => R.rel H v s fp
  | .scr ns => (∃ a, v = .ref a ∧ SqL K G a (ns.map V.int)) ∧ ∀ a, ¬ fp a
  | .dic kvs => ∃ p xs, v = .ref p ∧ H p = some (.dK xs) ∧ xs.length ≤ sizeLine ∧ KVsD K G xs kvs ∧ ∀ a, fp a ↔ a = p
abbrev Un {S : Type} (F : Nat → Addr → Prop) : Addr → Prop := fun a => ∃ i, F i a
structure Step (G H : Hp) (P : Addr → Prop) (G' H' : Hp) (P' : Addr → Prop) : Prop where
  frame : ∀ a, ¬ P a → ∀ o, H a = some o → H' a = some o
  keep : Same G G'
  sub : Same G' H'
  new0 : ∀ b, G' b ≠ none → G b ≠ none ∨ H b = none ∨ P b
  newf : ∀ b, P' b → P b ∨ H b = none
structure RS {S : Type} (K : PySem.W.Frag) (R : StI S) (ds : DS S) (σ : L2.St) (G H : Hp) (F : Nat → Addr → Prop) : Prop where
  sub : Same G H
  len : ds.length = σ.length
  own : ∀ (i : Nat) (m : MO S), ds[i]? = some (some m) → ∃ v, σ[i]? = some (some v) ∧ OwnAt K R G H v m (F i)
  emp : ∀ (i : Nat), (∀ m : MO S, ds[i]? ≠ some (some m)) → ∀ a, ¬ F i a
  dj : ∀ (i j : Nat) (a : Addr), F i a → F j a → i = j
  dis : ∀ (i : Nat) (a : Addr), F i a → G a = none
section
variable {S : Type} {K : PySem.W.Frag} {R : StI S} {G H G' H' G1 H1 G2 H2 : Hp} {v : V} {m : MO S} {fp P P' P1 P2 : Addr → Prop} {ds : DS S} {σ : L2.St} {F : Nat → Addr → Prop}
theorem OwnAt.trk (h : OwnAt K R G H v m fp) : ∀ a, fp a → H a ≠ none := fun a ha => by
  cases m with
  | d x => exact absurd ha (h.2 a)
  | lst xs =>
    obtain ⟨p, vs, _, e, _, _, q⟩ := h
    rw [(q a).mp ha, e]
    simp
  | st s => exact R.trk h a ha
  | scr ns => exact absurd ha (h.2 a)
  | dic kvs =>
    obtain ⟨p, xs, _, e, _, _, q⟩ := h
    rw [(q a).mp ha, e]
    simp
theorem OwnAt.mono (h : OwnAt K R G H v m fp) (s : Same G G') (k : ∀ a, fp a → H' a = H a) : OwnAt K R G' H' v m fp := by
  cases m with
  | d x => exact ⟨h.1.mono s, h.2⟩
  | lst xs =>
    obtain ⟨p, vs, e0, e, z, d, q⟩ := h
    exact ⟨p, vs, e0, by rw [k p ((q p).mpr rfl)]; exact e, z, d.mono s, q⟩
  | st t => exact R.frame h k
  | scr ns =>
    obtain ⟨⟨a, e, q⟩, n⟩ := h
    exact ⟨⟨a, e, sql_mono s q⟩, n⟩
  | dic kvs =>
    obtain ⟨p, xs, e0, e, z, d, q⟩ := h
    exact ⟨p, xs, e0, by rw [k p ((q p).mpr rfl)]; exact e, z, d.mono s, q⟩
theorem OwnAt.iff {fq : Addr → Prop} (h : OwnAt K R G H v m fp) (e : ∀ a, fq a ↔ fp a) : OwnAt K R G H v m fq := by
  have : fq = fp := funext fun a => propext (e a)
  rw [this]
  exact h
theorem Step.refl (s : Same G H) : Step G H P G H P := ⟨fun _ _ _ h => h, Same.refl _, s, fun _ h => .inl h, fun _ h => .inl h⟩
theorem Step.trans (a : Step G H P G1 H1 P1) (b : Step G1 H1 P1 G2 H2 P2) : Step G H P G2 H2 P2 := by
  have nP1 : ∀ c, ¬ P c → ∀ o, H c = some o → ¬ P1 c := fun c hc o e q => (a.newf c q).elim hc fun z => by rw [e] at z; cases z
  have back : ∀ c, H1 c = none → H c = none ∨ P c := fun c z => by
    by_cases hc : P c
    · exact .inr hc
    · cases q : H c with
      | none => exact .inl rfl
      | some o => rw [a.frame c hc o q] at z; cases z
  refine ⟨fun c hc o e => b.frame c (nP1 c hc o e) o (a.frame c hc o e), a.keep.trans b.keep, b.sub, fun c h => ?_, fun c h => ?_⟩
  · rcases b.new0 c h with h1 | h1 | h1
    · exact a.new0 c h1
    · rcases back c h1 with z | z
      · exact .inr (.inl z)
      · exact .inr (.inr z)
    · rcases a.newf c h1 with z | z
      · exact .inr (.inr z)
      · exact .inr (.inl z)
  · rcases b.newf c h with h1 | h1
    · exact a.newf c h1
    · rcases back c h1 with z | z
      · exact .inr z
      · exact .inl z
theorem Step.weaken (a : Step G H P G1 H1 P1) (h : ∀ b, P2 b → P1 b) : Step G H P G1 H1 P2 := ⟨a.frame, a.keep, a.sub, a.new0, fun b q => a.newf b (h b q)⟩
theorem Gr.step (g : Gr G H G' H') : Step G H P G' H' P := ⟨fun a _ o e => g.all a o e, g.keep, g.sub, fun b h => (g.new b h).elim .inl fun z => .inr (.inl z), fun _ h => .inl h⟩
theorem RS.trk (r : RS K R ds σ G H F) : ∀ i a, F i a → H a ≠ none := fun i a ha => by
  by_cases h : ∃ m : MO S, ds[i]? = some (some m)
  · obtain ⟨m, e⟩ := h
    obtain ⟨v, _, o⟩ := r.own i m e
    exact o.trk a ha
  · exact absurd ha (r.emp i (fun m e => h ⟨m, e⟩) a)
theorem RS.grow (r : RS K R ds σ G H F) (g : Gr G H G' H') : RS K R ds σ G' H' F where
  sub := g.sub
  len := r.len
  own := fun i m e => by
    obtain ⟨v, h1, h2⟩ := r.own i m e
    refine ⟨v, h1, h2.mono g.keep fun a ha => ?_⟩
    cases q : H a with
    | none => exact absurd q (r.trk i a ha)
    | some o => exact g.all a o q
  emp := r.emp
  dj := r.dj
  dis := fun i a ha => by
    cases q : G' a with
    | none => rfl
    | some o =>
      rcases g.new a (by rw [q]; simp) with z | z
      · exact absurd (r.dis i a ha) z
      · exact absurd z (r.trk i a ha)
def hideM : Option (MO S) → Option (MO S)
  | some (.lst _) => none
  | some (.dic _) => none
  | o => o
def hideDS (ds : DS S) : DS S := ds.map hideM
theorem RS.view (r : RS K R ds σ G H F) : View K G σ (hideDS ds) := by
  refine ⟨by unfold hideDS; rw [List.length_map]; exact r.len, fun i m e => ?_⟩
  unfold hideDS at e
  rw [List.getElem?_map] at e
  cases q : ds[i]? with
  | none => rw [q] at e; cases e
  | some o =>
    rw [q] at e
    cases o with
    | none => cases e
    | some m' =>
      cases m' with
      | lst xs => cases e
      | dic kvs => cases e
      | d x =>
        cases e
        obtain ⟨v, h1, h2⟩ := r.own i _ q
        exact ⟨v, h1, h2.1⟩
      | st s =>
        cases e
        obtain ⟨v, h1, h2⟩ := r.own i _ q
        exact ⟨v, h1, trivial⟩
      | scr ns =>
        cases e
        obtain ⟨v, h1, h2⟩ := r.own i _ q
        exact ⟨v, h1, h2.1⟩
/-! a slot is set -/
def setF (F : Nat → Addr → Prop) (i : Nat) (fr : Addr → Prop) : Nat → Addr → Prop := fun j a => if j = i then fr a else F j a
theorem RS.set (r : RS K R ds σ G H F) (i : Nat) (hi : i < ds.length) {fr : Addr → Prop} (o : OwnAt K R G H v m fr) (h1 : ∀ a, fr a → ¬ ∃ j, F j a) (h2 : ∀ a, fr a → G a = none) : RS K R (ds.set i (some m)) (σ.set i (some v)) G H (setF F i fr) where
  sub := r.sub
  len := by rw [List.length_set, List.length_set]; exact r.len
  own := fun j m' e => by
    by_cases hj : i = j
    · subst hj
      rw [List.getElem?_set_self hi] at e
      cases e
      refine ⟨v, by rw [List.getElem?_set_self (by rw [← r.len]; exact hi)], o.iff fun a => ?_⟩
      unfold setF
      rw [if_pos rfl]
    · rw [List.getElem?_set_ne hj] at e ⊢
      obtain ⟨u, h3, h4⟩ := r.own j m' e
      refine ⟨u, h3, h4.iff fun a => ?_⟩
      unfold setF
      rw [if_neg (Ne.symm hj)]
  emp := fun j e a ha => by
    unfold setF at ha
    by_cases hj : j = i
    · subst hj
      exact e m (List.getElem?_set_self hi)
    · rw [if_neg hj] at ha
      refine r.emp j (fun m' q => e m' ?_) a ha
      rw [List.getElem?_set_ne (Ne.symm hj)]
      exact q
  dj := fun j k a ha hb => by
    unfold setF at ha hb
    by_cases hj : j = i
    · rw [if_pos hj] at ha
      by_cases hk : k = i
      · rw [hj, hk]
      · rw [if_neg hk] at hb
        exact absurd ⟨k, hb⟩ (h1 a ha)
    · rw [if_neg hj] at ha
      by_cases hk : k = i
      · rw [if_pos hk] at hb
        exact absurd ⟨j, ha⟩ (h1 a hb)
      · rw [if_neg hk] at hb
        exact r.dj j k a ha hb
  dis := fun j a ha => by
    unfold setF at ha
    by_cases hj : j = i
    · rw [if_pos hj] at ha; exact h2 a ha
    · rw [if_neg hj] at ha; exact r.dis j a ha
theorem setF_un {i : Nat} {fr : Addr → Prop} : ∀ a, (∃ j, setF F i fr j a) → (∃ j, F j a) ∨ fr a := fun a ⟨j, h⟩ => by
  unfold setF at h
  by_cases hj : j = i
  · rw [if_pos hj] at h; exact .inr h
  · rw [if_neg hj] at h; exact .inl ⟨j, h⟩
end

/-! ### readings with effects -/
section
variable {S : Type}
def tX (K : PySem.W.Frag) (R : StI S) (f : DS S → Option (D × DS S)) : TE := fun σ H Q => ∃ G F ds d ds', RS K R ds σ G H F ∧ f ds = some (d, ds') ∧
  ∀ v G' H' F', RS K R ds' σ G' H' F' → Step G H (fun a => ∃ i, F i a) G' H' (fun a => ∃ i, F' i a) → Den K G' v d → Q v H'
def tO (K : PySem.W.Frag) (R : StI S) (f : DS S → Option (MO S × DS S)) : TE := fun σ H Q => ∃ G F ds m ds', RS K R ds σ G H F ∧ f ds = some (m, ds') ∧
  ∀ v G' H' F' fr, RS K R ds' σ G' H' F' → Step G H (fun a => ∃ i, F i a) G' H' (fun a => (∃ i, F' i a) ∨ fr a) → OwnAt K R G' H' v m fr → (∀ a, fr a → ¬ ∃ i, F' i a) → (∀ a, fr a → G' a = none) → Q v H'
def tXT (K : PySem.W.Frag) (R : StI S) (f : DS S → Option (Bool × DS S)) : TT := fun σ H Q => ∃ G F ds b ds', RS K R ds σ G H F ∧ f ds = some (b, ds') ∧
  ∀ G' H' F', RS K R ds' σ G' H' F' → Step G H (fun a => ∃ i, F i a) G' H' (fun a => ∃ i, F' i a) → Q b H'
def tXA (K : PySem.W.Frag) (R : StI S) (f : DS S → Option (List D × DS S)) : TA := fun σ H Q => ∃ G F ds xs ds', RS K R ds σ G H F ∧ f ds = some (xs, ds') ∧
  ∀ vs G' H' F', RS K R ds' σ G' H' F' → Step G H (fun a => ∃ i, F i a) G' H' (fun a => ∃ i, F' i a) → DenAll K G' vs xs → Q vs H'
def tXI (K : PySem.W.Frag) (R : StI S) (f : DS S → Option (List D × DS S)) : TI := fun σ H Q => ∃ G F ds xs ds', RS K R ds σ G H F ∧ f ds = some (xs, ds') ∧
  ∀ J G' H' F', RS K R ds' σ G' H' F' → Step G H (fun a => ∃ i, F i a) G' H' (fun a => ∃ i, F' i a) → ItD K J xs G' → Q J H'
end
/-! no list within -/
mutual
def noList : D → Bool
  | .none => true | .bool _ => true | .int _ => true | .str _ => true
  | .list _ => false
  | .tuple xs => noListAll xs
  | .dict _ => false
def noListAll : List D → Bool
  | [] => true
  | x :: xs => noList x && noListAll xs
end
section
variable {K : PySem.W.Frag} {A B : Hp}
mutual
theorem Den.move (h : ∀ a o, A a = some o → (∀ vs, o ≠ .lst vs) → (∀ xs, o ≠ .dK xs) → B a = some o) : ∀ {v : V} {d : D}, Den K A v d → noList d = true → Den K B v d
  | _, _, .non, _ => .non
  | _, _, .bl b, _ => .bl b
  | _, _, .int i, _ => .int i
  | _, _, .str x z o, _ => .str x z o
  | _, _, .lst _ _ _, e => by cases e
  | _, _, .tup (.inl (.inl q)) z r, e => .tup (.inl (.inl (h _ _ q (fun _ z => nomatch z) fun _ z => nomatch z))) z (DenAll.move h r e)
  | _, _, .tup (.inl (.inr ⟨o, q⟩)) z r, e => .tup (.inl (.inr ⟨o, h _ _ q (fun _ z => nomatch z) fun _ z => nomatch z⟩)) z (DenAll.move h r e)
  | _, _, .tup (.inr q) z r, e => .tup (.inr q) z (DenAll.move h r e)
theorem DenAll.move (h : ∀ a o, A a = some o → (∀ vs, o ≠ .lst vs) → (∀ xs, o ≠ .dK xs) → B a = some o) : ∀ {vs : List V} {ds : List D}, DenAll K A vs ds → noListAll ds = true → DenAll K B vs ds
  | _, _, .nil, _ => .nil
  | _, _, .cons d r, e => by
    unfold noListAll at e
    obtain ⟨e1, e2⟩ := Bool.and_eq_true_iff.mp e
    exact .cons (Den.move h d e1) (DenAll.move h r e2)
end
end
section
variable {S : Type} {K : PySem.W.Frag} {R : StI S} {G H : Hp} {ds : DS S} {σ : L2.St} {F : Nat → Addr → Prop}
open Classical in
/-- the own lists shown as if they were frozen -/
noncomputable def shown (ds : DS S) (G H : Hp) (F : Nat → Addr → Prop) : Hp := fun b => match G b with
  | some o => some o
  | none => if (∃ i xs, ds[i]? = some (some (.lst xs)) ∧ F i b) ∨ (∃ i kvs, ds[i]? = some (some (.dic kvs)) ∧ F i b) then H b else none
open Classical in
noncomputable def unshown (G H B : Hp) : Hp := fun b => match G b with
  | some o => some o
  | none => if H b = none then B b else none
theorem shown_G {b : Addr} {o : HO} (e : G b = some o) : shown ds G H F b = some o := by unfold shown; rw [e]
theorem shown_sub (s : Same G H) : Same (shown ds G H F) H := fun b o e => by
  unfold shown at e
  cases q : G b with
  | some u => rw [q] at e; cases e; exact s b _ q
  | none =>
    rw [q] at e
    dsimp only at e
    split at e
    · exact e
    · cases e
theorem RS.show (r : RS K R ds σ G H F) : View K (shown ds G H F) σ ds := by
  refine ⟨r.len, fun i m e => ?_⟩
  obtain ⟨v, h1, h2⟩ := r.own i m e
  have sg : Same G (shown ds G H F) := fun b o q => shown_G q
  cases m with
  | d x => exact ⟨v, h1, h2.1.mono sg⟩
  | lst xs =>
    obtain ⟨p, vs, rfl, q, z, dd, n⟩ := h2
    refine ⟨_, h1, .lst ?_ z (dd.mono sg)⟩
    unfold shown
    rw [r.dis i p ((n p).mpr rfl)]
    dsimp only
    rw [if_pos (.inl ⟨i, xs, e, (n p).mpr rfl⟩)]
    exact q
  | st s => exact ⟨v, h1, trivial⟩
  | dic kvs =>
    obtain ⟨p, xs, rfl, q, z, dd, n⟩ := h2
    refine ⟨_, h1, p, xs, rfl, ?_, dd.mono sg⟩
    unfold shown
    rw [r.dis i p ((n p).mpr rfl)]
    dsimp only
    rw [if_pos (.inr ⟨i, kvs, e, (n p).mpr rfl⟩)]
    exact q
  | scr ns =>
    obtain ⟨⟨a, e', q⟩, _⟩ := h2
    exact ⟨v, h1, a, e', sql_mono sg q⟩
theorem unshown_gr {B H' : Hp} (r : RS K R ds σ G H F) (g : Gr (shown ds G H F) H B H') : Gr G H (unshown G H B) H' := by
  refine ⟨fun b o e => by unfold unshown; rw [e], fun b o e => ?_, g.all, fun b h => ?_⟩
  · unfold unshown at e
    cases q : G b with
    | some u => rw [q] at e; cases e; exact g.all _ _ (r.sub _ _ q)
    | none =>
      rw [q] at e
      dsimp only at e
      split at e
      · exact g.sub _ _ e
      · cases e
  · unfold unshown at h
    cases q : G b with
    | some u => exact .inl (by simp)
    | none =>
      rw [q] at h
      dsimp only at h
      split at h
      · rename_i z; exact .inr z
      · exact absurd rfl h
theorem unshown_move {B H' : Hp} (r : RS K R ds σ G H F) (g : Gr (shown ds G H F) H B H') : ∀ a o, B a = some o → (∀ vs, o ≠ .lst vs) → (∀ xs, o ≠ .dK xs) → unshown G H B a = some o := fun a o e n n2 => by
  unfold unshown
  cases q : G a with
  | some u =>
    have := g.keep a u (shown_G q)
    rw [e] at this
    cases this
    rfl
  | none =>
    dsimp only
    rcases g.new a (by rw [e]; simp) with z | z
    · exfalso
      cases q2 : shown ds G H F a with
      | none => exact z q2
      | some u =>
        have hk := g.keep a u q2
        rw [e] at hk
        cases hk
        unfold shown at q2
        rw [q] at q2
        dsimp only at q2
        split at q2
        · rename_i hx
          rcases hx with ⟨i, xs, e1, e2⟩ | ⟨i, kvs, e1, e2⟩
          · obtain ⟨v, _, p, vs, _, hp, _, _, fe⟩ := r.own i _ e1
            rw [(fe a).mp e2, hp] at q2
            cases q2
            exact n vs rfl
          · obtain ⟨v, _, p, vs, _, hp, _, _, fe⟩ := r.own i _ e1
            rw [(fe a).mp e2, hp] at q2
            cases q2
            exact n2 vs rfl
        · cases q2
    · rw [if_pos z]; exact e
end

section
variable {S : Type} {X : Cx} {R : StI S} {a b c e : Expr} {es rest : List Expr} {pos : Pos}
/-! from the pure ones -/
def xP (g : DS S → Option D) : DS S → Option (D × DS S) := fun ds => (g (hideDS ds)).map fun d => (d, ds)
def xB (g : DS S → Option D) : DS S → Option (D × DS S) := fun ds => (g ds).bind fun d => if noList d = true then some (d, ds) else none
def oP (g : DS S → Option (List D)) : DS S → Option (MO S × DS S) := fun ds => (g (hideDS ds)).map fun xs => (.lst xs, ds)
def oB (g : DS S → Option (List D)) : DS S → Option (MO S × DS S) := fun ds => (g ds).bind fun xs => if noListAll xs = true then some (.lst xs, ds) else none
theorem x_pure {g : DS S → Option D} {σ : L2.St} {H : Hp} {Q : VK} (h : tX X.K R (xP g) σ H Q) : tP X.K g σ H Q := by
  obtain ⟨G, F, ds, d, ds', r, e, k⟩ := h
  unfold xP at e
  cases eg : g (hideDS ds) with
  | none => rw [eg] at e; cases e
  | some d0 =>
    rw [eg] at e
    cases e
    exact ⟨G, hideDS ds, d, r.sub, r.view, eg, fun v G' H' gr dn => k v G' H' F (r.grow gr) gr.step dn⟩
theorem ex_P {g : DS S → Option D} (h : PE X e (tP X.K g)) : PE X e (tX X.K R (xP g)) := PE.imp h fun _ _ _ => x_pure
theorem x_B {K : PySem.W.Frag} {g : DS S → Option D} {σ : L2.St} {H : Hp} {Q : VK} (h : tX K R (xB g) σ H Q) : tP K g σ H Q := by
  obtain ⟨G, F, ds, d, ds', r, e, k⟩ := h
  unfold xB at e
  cases eg : g ds with
  | none => rw [eg] at e; cases e
  | some d0 =>
    rw [eg] at e
    simp only [Option.bind_some] at e
    split at e
    · cases e
      rename_i hf
      exact ⟨shown ds G H F, ds, d, shown_sub r.sub, r.show, eg, fun v B H' gr dn => k v (unshown G H B) H' F (r.grow (unshown_gr r gr)) (unshown_gr r gr).step (dn.move (unshown_move r gr) hf)⟩
    · cases e
theorem ex_B {g : DS S → Option D} (h : PE X e (tP X.K g)) : PE X e (tX X.K R (xB g)) := PE.imp h fun _ _ _ => x_B
theorem o_P {K : PySem.W.Frag} {g : DS S → Option (List D)} {σ : L2.St} {H : Hp} {Q : VK} (h : tO K R (oP g) σ H Q) : tF K g σ H Q := by
  obtain ⟨G, F, ds, d, ds', r, e, k⟩ := h
  unfold oP at e
  cases eg : g (hideDS ds) with
  | none => rw [eg] at e; cases e
  | some d0 =>
    rw [eg] at e
    cases e
    refine ⟨G, hideDS ds, _, r.sub, r.view, eg, fun p vs G' H' gr h1 h2 h3 z dn => k _ G' H' F (· = p) (r.grow gr) ⟨gr.step (P := fun a => ∃ i, F i a).frame, gr.keep, gr.sub, gr.step.new0, fun b hb => ?_⟩ ⟨p, vs, rfl, h3, z, dn, fun a => Iff.rfl⟩ (fun a ha ⟨i, hi⟩ => ?_) fun a ha => by rw [ha]; exact h1⟩
    · rcases hb with hb | hb
      · exact .inl hb
      · exact .inr (by rw [hb]; exact h2)
    · rw [ha] at hi
      exact r.trk i p hi h2
theorem eo_P {g : DS S → Option (List D)} (h : PE X e (tF X.K g)) : PE X e (tO X.K R (oP g)) := PE.imp h fun _ _ _ => o_P
theorem o_B {K : PySem.W.Frag} {g : DS S → Option (List D)} {σ : L2.St} {H : Hp} {Q : VK} (h : tO K R (oB g) σ H Q) : tF K g σ H Q := by
  obtain ⟨G, F, ds, d, ds', r, e, k⟩ := h
  unfold oB at e
  cases eg : g ds with
  | none => rw [eg] at e; cases e
  | some d0 =>
    rw [eg] at e
    simp only [Option.bind_some] at e
    split at e
    · cases e
      rename_i hf
      refine ⟨shown ds G H F, ds, _, shown_sub r.sub, r.show, eg, fun p vs B H' gr h1 h2 h3 z dn => ?_⟩
      have gr' := unshown_gr r gr
      refine k _ (unshown G H B) H' F (· = p) (r.grow gr') ⟨gr'.step (P := fun a => ∃ i, F i a).frame, gr'.keep, gr'.sub, gr'.step.new0, fun b hb => ?_⟩ ⟨p, vs, rfl, h3, z, dn.move (unshown_move r gr) hf, fun a => Iff.rfl⟩ (fun a ha ⟨i, hi⟩ => ?_) fun a ha => ?_
      · rcases hb with hb | hb
        · exact .inl hb
        · exact .inr (by rw [hb]; exact h2)
      · rw [ha] at hi
        exact r.trk i p hi h2
      · rw [ha]
        unfold unshown
        rw [r.sub.free h2]
        dsimp only
        rw [if_pos h2]
        exact h1
    · cases e
theorem eo_B {g : DS S → Option (List D)} (h : PE X e (tF X.K g)) : PE X e (tO X.K R (oB g)) := PE.imp h fun _ _ _ => o_B
/-- data is as good as an own thing; an own list may be given away as data -/
def oX (f : DS S → Option (D × DS S)) : DS S → Option (MO S × DS S) := fun ds => (f ds).map fun p => (.d p.1, p.2)
theorem o_X {K : PySem.W.Frag} {f : DS S → Option (D × DS S)} {σ : L2.St} {H : Hp} {Q : VK} (h : tO K R (oX f) σ H Q) : tX K R f σ H Q := by
  obtain ⟨G, F, ds, m, ds', r, e, k⟩ := h
  unfold oX at e
  cases ef : f ds with
  | none => rw [ef] at e; cases e
  | some p =>
    rw [ef] at e
    cases e
    exact ⟨G, F, ds, p.1, p.2, r, ef, fun v G' H' F' r' s d => k v G' H' F' (fun _ => False) r' ⟨s.frame, s.keep, s.sub, s.new0, fun b hb => hb.elim (s.newf b) False.elim⟩ ⟨d, fun _ h => h⟩ (fun _ h => h.elim) fun _ h => h.elim⟩
theorem eo_X {f : DS S → Option (D × DS S)} (h : PE X e (tX X.K R f)) : PE X e (tO X.K R (oX f)) := PE.imp h fun _ _ _ => o_X
def xO (f : DS S → Option (MO S × DS S)) : DS S → Option (D × DS S) := fun ds => match f ds with
  | some (.d x, ds') => some (x, ds')
  | some (.lst xs, ds') => some (.list xs, ds')
  | _ => none
theorem x_O {K : PySem.W.Frag} {f : DS S → Option (MO S × DS S)} {σ : L2.St} {H : Hp} {Q : VK} (h : tX K R (xO f) σ H Q) : tO K R f σ H Q := by
  obtain ⟨G, F, ds, d, ds', r, e, k⟩ := h
  unfold xO at e
  split at e
  · cases e
    rename_i ef
    exact ⟨G, F, ds, _, _, r, ef, fun v G' H' F' fr r' s o h1 h2 => k v G' H' F' r' (s.weaken fun b hb => .inl hb) o.1⟩
  · cases e
    rename_i xs ef
    refine ⟨G, F, ds, _, _, r, ef, fun v G' H' F' fr r' s o h1 h2 => ?_⟩
    obtain ⟨p, vs, rfl, e1, z, dd, q⟩ := o
    have hp := h2 p ((q p).mpr rfl)
    have ng : ∀ b o, G' b = some o → upd G' p (.lst vs) b = some o := fun b o e => by rw [upd_ne (ne_of_none e hp)]; exact e
    have sub : Same (upd G' p (.lst vs)) H' := fun b o e => by
      by_cases hb : b = p
      · subst hb; rw [upd_same] at e; cases e; exact e1
      · rw [upd_ne hb] at e; exact s.sub b o e
    refine k _ (upd G' p (.lst vs)) H' F' ⟨sub, r'.len, fun i m e => ?_, r'.emp, r'.dj, fun i a ha => ?_⟩ ⟨s.frame, fun b o e => ng b o (s.keep b o e), sub, fun b h => ?_, fun b h => s.newf b (.inl h)⟩ (.lst upd_same z (dd.mono ng))
    · obtain ⟨v, h3, h4⟩ := r'.own i m e
      exact ⟨v, h3, h4.mono ng fun _ _ => rfl⟩
    · by_cases hb : a = p
      · exact absurd ⟨i, ha⟩ (h1 a ((q a).mpr hb))
      · rw [upd_ne hb]; exact r'.dis i a ha
    · by_cases hb : b = p
      · rcases s.newf b (.inr ((q b).mpr hb)) with z | z
        · exact .inr (.inr z)
        · exact .inr (.inl z)
      · rw [upd_ne hb] at h; exact s.new0 b h
  · cases e

theorem ex_O {f : DS S → Option (MO S × DS S)} (h : PE X e (tO X.K R f)) : PE X e (tX X.K R (xO f)) := PE.imp h fun _ _ _ => x_O
/-! composites -/
abbrev XF (S α : Type) := DS S → Option (α × DS S)
def xb {α β : Type} (f : XF S α) (k : α → XF S β) : XF S β := fun ds => (f ds).bind fun p => k p.1 p.2
def xlift {α : Type} (o : Option α) : XF S α := fun ds => o.map fun x => (x, ds)
theorem xb_some {α β : Type} {f : XF S α} {k : α → XF S β} {ds : DS S} {y : β} {ds' : DS S} (h : xb f k ds = some (y, ds')) : ∃ x ds1, f ds = some (x, ds1) ∧ k x ds1 = some (y, ds') := by
  unfold xb at h
  cases e : f ds with
  | none => rw [e] at h; cases h
  | some p => rw [e] at h; exact ⟨p.1, p.2, rfl, h⟩
theorem xlift_some {α : Type} {o : Option α} {ds : DS S} {x : α} {ds' : DS S} (h : xlift o ds = some (x, ds')) : o = some x ∧ ds' = ds := by
  unfold xlift at h
  cases o with
  | none => cases h
  | some y => cases h; exact ⟨rfl, rfl⟩
variable {fa fb fc : XF S D}
def xOp (g : D → D → Option D) (fa fb : XF S D) : XF S D := xb fa fun x => xb fb fun y => xlift (g x y)
theorem x_op {r : R2} {g : D → D → Option D} (hr : R2D X.K r g) {σ : L2.St} {H : Hp} {Q : VK} (h : tX X.K R (xOp g fa fb) σ H Q) : tOp r (tX X.K R fa) (tX X.K R fb) σ H Q := by
  obtain ⟨G, F, ds, d, ds', rs, e, k⟩ := h
  obtain ⟨x, ds1, ea, e⟩ := xb_some e
  obtain ⟨y, ds2, eb, e⟩ := xb_some e
  obtain ⟨eg, e9⟩ := xlift_some e
  subst e9
  refine ⟨G, F, ds, x, ds1, rs, ea, fun v G1 H1 F1 r1 s1 d1 => ?_⟩
  refine ⟨G1, F1, ds1, y, _, r1, eb, fun u G2 H2 F2 r2 s2 d2 => ?_⟩
  exact hr v u x y d G2 H2 Q r2.sub (d1.mono s2.keep) d2 eg fun z G3 H3 g3 d3 => k z G3 H3 F2 (r2.grow g3) ((s1.trans s2).trans g3.step) d3
theorem ex_bin {op : Operator} {r : R2} {g : D → D → Option D} (ho : OpR X (binaryOp op) r) (hr : R2D X.K r g) (ha : PE X a (tX X.K R fa)) (hb : PE X b (tX X.K R fb)) : PE X (.BinOp a op b pos) (tX X.K R (xOp g fa fb)) := PE.imp (pe_op ho ha hb) fun _ _ _ h => x_op hr h
theorem ex_cmp {op : CmpOp} {r : R2} {g : D → D → Option D} (ho : OpR X (compareOp op) r) (hr : R2D X.K r g) (ha : PE X a (tX X.K R fa)) (hb : PE X b (tX X.K R fb)) (hm : behindInMarks op b = false) : PE X (.Compare a [op] [b] pos) (tX X.K R (xOp g fa fb)) := PE.imp (pe_cmpR ho ha hb hm) fun _ _ _ h => x_op hr h
theorem ex_ix {r : R2} {g : D → D → Option D} (ho : IxR X r) (hr : R2D X.K r g) (ha : PE X a (tX X.K R fa)) (hb : PE X b (tX X.K R fb)) (hs : PlainIx b) : PE X (.Subscript a b pos) (tX X.K R (xOp g fa fb)) := PE.imp (pe_ix ho ha hb hs) fun _ _ _ h => x_op hr h
def xOpF (g : D → D → Option (List D)) (fa fb : XF S D) : XF S (MO S) := xb fa fun x => xb fb fun y => xlift ((g x y).map .lst)
theorem eo_bin {op : Operator} {r : R2} {g : D → D → Option (List D)} (ho : OpR X (binaryOp op) r) (hr : R2F X.K r g) (ha : PE X a (tX X.K R fa)) (hb : PE X b (tX X.K R fb)) : PE X (.BinOp a op b pos) (tO X.K R (xOpF g fa fb)) := PE.imp (pe_op ho ha hb) fun σ H Q ⟨G, F, ds, m, ds', rs, e, k⟩ => by
  obtain ⟨x, ds1, ea, e⟩ := xb_some e
  obtain ⟨y, ds2, eb, e⟩ := xb_some e
  obtain ⟨eg, e9⟩ := xlift_some e
  subst e9
  cases q : g x y with
  | none => rw [q] at eg; cases eg
  | some xs =>
    rw [q] at eg
    cases eg
    refine ⟨G, F, ds, x, ds1, rs, ea, fun v G1 H1 F1 r1 s1 d1 => ?_⟩
    refine ⟨G1, F1, ds1, y, _, r1, eb, fun u G2 H2 F2 r2 s2 d2 => ?_⟩
    refine hr v u x y xs G2 H2 Q r2.sub (d1.mono s2.keep) d2 q fun p vs G3 H3 g3 h1 h2 h3 z d3 => k _ G3 H3 F2 (· = p) (r2.grow g3) ((s1.trans s2).trans ⟨g3.step (P := fun a => ∃ i, F2 i a).frame, g3.keep, g3.sub, g3.step.new0, fun b hb => ?_⟩) ⟨p, vs, rfl, h3, z, d3, fun a => Iff.rfl⟩ (fun a ha ⟨i, hi⟩ => ?_) fun a ha => by rw [ha]; exact h1
    · rcases hb with hb | hb
      · exact .inl hb
      · exact .inr (by rw [hb]; exact h2)
    · rw [ha] at hi
      exact r2.trk i p hi h2
def xUn (g : D → Option D) (fa : XF S D) : XF S D := xb fa fun x => xlift (g x)
theorem ex_un {op : UnaryOp} {r : V → Hp → VK → Prop} {g : D → Option D} (ho : UnR X (unaryOp op) r) (hr : R1D X.K r g) (ha : PE X a (tX X.K R fa)) : PE X (.UnaryOp op a pos) (tX X.K R (xUn g fa)) := PE.imp (pe_un ho ha) fun σ H Q ⟨G, F, ds, d, ds', rs, e, k⟩ => by
  obtain ⟨x, ds1, ea, e⟩ := xb_some e
  obtain ⟨eg, e9⟩ := xlift_some e
  subst e9
  refine ⟨G, F, ds, x, _, rs, ea, fun v G1 H1 F1 r1 s1 d1 => ?_⟩
  exact hr v x d G1 H1 Q r1.sub d1 eg fun z G3 H3 g3 d3 => k z G3 H3 F1 (r1.grow g3) (s1.trans g3.step) d3
/-! argument lists, displays -/
def xNil : XF S (List D) := fun ds => some ([], ds)
def xCons (f : XF S D) (r : XF S (List D)) : XF S (List D) := xb f fun x => xb r fun xs => xlift (some (x :: xs))
theorem ax_nil : PA X [] (tXA X.K R (xNil (S := S))) := PA.imp pa_nil fun σ H Q ⟨G, F, ds, d, ds', rs, e, k⟩ => by
  cases e
  exact k [] G H F rs (.refl rs.sub) .nil
theorem ax_cons {fr : XF S (List D)} (ha : PE X e (tX X.K R fa)) (hr : PA X es (tXA X.K R fr)) (hs : starEach (e :: es) X.env = (false, eval e X.env) :: starEach es X.env := by rfl) : PA X (e :: es) (tXA X.K R (xCons fa fr)) :=
  PA.imp (pa_cons ha hr hs) fun σ H Q ⟨G, F, ds, d, ds', rs, e, k⟩ => by
    obtain ⟨x, ds1, ea, e⟩ := xb_some e
    obtain ⟨xs, ds2, eb, e⟩ := xb_some e
    obtain ⟨eg, e9⟩ := xlift_some e
    subst e9
    cases eg
    refine ⟨G, F, ds, x, ds1, rs, ea, fun v G1 H1 F1 r1 s1 d1 => ?_⟩
    exact ⟨G1, F1, ds1, xs, _, r1, eb, fun vs G2 H2 F2 r2 s2 d2 => k (v :: vs) G2 H2 F2 r2 (s1.trans s2) (.cons (d1.mono s2.keep) d2)⟩
def xTup (f : XF S (List D)) : XF S D := xb f fun xs => xlift (if xs.length ≤ sizeLine then some (.tuple xs) else none)
theorem ex_tup {f : XF S (List D)} {x1} (h : PA X es (tXA X.K R f)) : PE X (.Tuple es x1 pos) (tX X.K R (xTup f)) := PE.imp (pe_tup h) fun σ H Q ⟨G, F, ds, d, ds', rs, e, k⟩ => by
  obtain ⟨xs, ds1, ea, e⟩ := xb_some e
  obtain ⟨eg, e9⟩ := xlift_some e
  subst e9
  by_cases hz : xs.length ≤ sizeLine
  · rw [if_pos hz] at eg
    cases eg
    refine ⟨G, F, ds, xs, _, rs, ea, fun vs G1 H1 F1 r1 s1 d1 => ⟨by rw [d1.length]; exact hz, fun p hp => ?_⟩⟩
    have hg := r1.sub.free hp
    have g3 := Gr.upd (o := .tup vs) r1.sub hp
    exact k (.ref p) (upd G1 p (.tup vs)) _ F1 (r1.grow g3) (s1.trans g3.step) (.tup (.inl (.inl upd_same)) (by rw [d1.length]; exact hz) (d1.mono fun b u e => by rw [upd_ne (ne_of_none e hg)]; exact e))
  · rw [if_neg hz] at eg
    cases eg
def xLst (f : XF S (List D)) : XF S (MO S) := xb f fun xs => xlift (if xs.length ≤ sizeLine then some (.lst xs) else none)
theorem eo_lst {f : XF S (List D)} (h : PA X es (tXA X.K R f)) : PE X (.List es pos) (tO X.K R (xLst f)) := PE.imp (pe_lst h) fun σ H Q ⟨G, F, ds, d, ds', rs, e, k⟩ => by
  obtain ⟨xs, ds1, ea, e⟩ := xb_some e
  obtain ⟨eg, e9⟩ := xlift_some e
  subst e9
  by_cases hz : xs.length ≤ sizeLine
  · rw [if_pos hz] at eg
    cases eg
    refine ⟨G, F, ds, xs, _, rs, ea, fun vs G1 H1 F1 r1 s1 d1 => ⟨by rw [d1.length]; exact hz, fun p hp => ?_⟩⟩
    have g3 := Gr.own (o := .lst vs) r1.sub hp
    refine k (.ref p) G1 (upd H1 p (.lst vs)) F1 (· = p) (r1.grow g3) (s1.trans ⟨g3.step (P := fun a => ∃ i, F1 i a).frame, g3.keep, g3.sub, g3.step.new0, fun b hb => ?_⟩) ⟨p, vs, rfl, upd_same, by rw [d1.length]; exact hz, d1, fun a => Iff.rfl⟩ (fun a ha ⟨i, hi⟩ => ?_) fun a ha => by rw [ha]; exact r1.sub.free hp
    · rcases hb with hb | hb
      · exact .inl hb
      · exact .inr (by rw [hb]; exact hp)
    · rw [ha] at hi
      exact r1.trk i p hi hp
  · rw [if_neg hz] at eg
    cases eg
/-! built-ins -/
def xCall (f : XF S (List D)) (g : List D → Option D) : XF S D := xb f fun xs => xlift (g xs)
def xCallF (f : XF S (List D)) (g : List D → Option (List D)) : XF S (MO S) := xb f fun xs => xlift ((g xs).map .lst)
theorem x_cb {r : List V → Hp → VK → Prop} {g : List D → Option D} {f : XF S (List D)} (hr : RCD X.K r g) {σ : L2.St} {H : Hp} {Q : VK} (h : tX X.K R (xCall f g) σ H Q) : tCB r (tXA X.K R f) σ H Q := by
  obtain ⟨G, F, ds, d, ds', rs, e, k⟩ := h
  obtain ⟨xs, ds1, ea, e⟩ := xb_some e
  obtain ⟨eg, e9⟩ := xlift_some e
  subst e9
  exact ⟨G, F, ds, xs, _, rs, ea, fun vs G1 H1 F1 r1 s1 d1 => hr vs xs d G1 H1 Q r1.sub d1 eg fun v G2 H2 g2 d2 => k v G2 H2 F1 (r1.grow g2) (s1.trans g2.step) d2⟩
theorem x_cbF {r : List V → Hp → VK → Prop} {g : List D → Option (List D)} {f : XF S (List D)} (hr : RCF X.K r g) {σ : L2.St} {H : Hp} {Q : VK} (h : tO X.K R (xCallF f g) σ H Q) : tCB r (tXA X.K R f) σ H Q := by
  obtain ⟨G, F, ds, d, ds', rs, e, k⟩ := h
  obtain ⟨xs, ds1, ea, e⟩ := xb_some e
  obtain ⟨eg, e9⟩ := xlift_some e
  subst e9
  cases q : g xs with
  | none => rw [q] at eg; cases eg
  | some ys =>
    rw [q] at eg
    cases eg
    refine ⟨G, F, ds, xs, _, rs, ea, fun vs G1 H1 F1 r1 s1 d1 => hr vs xs ys G1 H1 Q r1.sub d1 q fun p ws G3 H3 g3 h1 h2 h3 z d3 => k _ G3 H3 F1 (· = p) (r1.grow g3) (s1.trans ⟨g3.step (P := fun a => ∃ i, F1 i a).frame, g3.keep, g3.sub, g3.step.new0, fun b hb => ?_⟩) ⟨p, ws, rfl, h3, z, d3, fun a => Iff.rfl⟩ (fun a ha ⟨i, hi⟩ => ?_) fun a ha => by rw [ha]; exact h1⟩
    · rcases hb with hb | hb
      · exact .inl hb
      · exact .inr (by rw [hb]; exact h2)
    · rw [ha] at hi
      exact r1.trk i p hi h2
variable {x : Str} {p : Pos} {bid T : String} {fs : XF S (List D)}
theorem ex_cb {r : List V → Hp → VK → Prop} {f : List D → Option D} (hc : CallR X (.builtin bid) r) (hr : RCD X.K r f) (hg : Gl X x) (hm : X.mg x = none) (hv : bootBuiltins x = some (.builtin bid)) (ha : PA X (e :: es) (tXA X.K R fs)) (hn : x ≠ "__name__" := by decide) (hdb : (x == ("__debug__" : Str)) = false := by decide)
    (he : starEach (e :: es) X.env = (false, eval e X.env) :: starEach es X.env := by rfl) (hpl : (backTo pos (starEach es X.env)).any (·.1) = false := by rfl) : PE X (.Call (.Name x p) (e :: es) [] pos) (tX X.K R (xCall fs f)) :=
  PE.imp (pe_callB hc hg hm hv ha hn hdb he hpl) fun _ _ _ h => x_cb hr h
theorem eo_cb {r : List V → Hp → VK → Prop} {f : List D → Option (List D)} (hc : CallR X (.builtin bid) r) (hr : RCF X.K r f) (hg : Gl X x) (hm : X.mg x = none) (hv : bootBuiltins x = some (.builtin bid)) (ha : PA X (e :: es) (tXA X.K R fs)) (hn : x ≠ "__name__" := by decide) (hdb : (x == ("__debug__" : Str)) = false := by decide)
    (he : starEach (e :: es) X.env = (false, eval e X.env) :: starEach es X.env := by rfl) (hpl : (backTo pos (starEach es X.env)).any (·.1) = false := by rfl) : PE X (.Call (.Name x p) (e :: es) [] pos) (tO X.K R (xCallF fs f)) :=
  PE.imp (pe_callB hc hg hm hv ha hn hdb he hpl) fun _ _ _ h => x_cbF hr h
theorem ex_ct {r : List V → Hp → VK → Prop} {f : List D → Option D} (hc : CallR X (.type T) r) (hr : RCD X.K r f) (hg : Gl X x) (hm : X.mg x = none) (hv : bootBuiltins x = some (.type T)) (ha : PA X (e :: es) (tXA X.K R fs)) (hn : x ≠ "__name__" := by decide) (hdb : (x == ("__debug__" : Str)) = false := by decide)
    (he : starEach (e :: es) X.env = (false, eval e X.env) :: starEach es X.env := by rfl) (hpl : (backTo pos (starEach es X.env)).any (·.1) = false := by rfl) : PE X (.Call (.Name x p) (e :: es) [] pos) (tX X.K R (xCall fs f)) :=
  PE.imp (pe_callTy hc hg hm hv ha hn hdb he hpl) fun _ _ _ h => x_cb hr h
theorem eo_ct {r : List V → Hp → VK → Prop} {f : List D → Option (List D)} (hc : CallR X (.type T) r) (hr : RCF X.K r f) (hg : Gl X x) (hm : X.mg x = none) (hv : bootBuiltins x = some (.type T)) (ha : PA X (e :: es) (tXA X.K R fs)) (hn : x ≠ "__name__" := by decide) (hdb : (x == ("__debug__" : Str)) = false := by decide)
    (he : starEach (e :: es) X.env = (false, eval e X.env) :: starEach es X.env := by rfl) (hpl : (backTo pos (starEach es X.env)).any (·.1) = false := by rfl) : PE X (.Call (.Name x p) (e :: es) [] pos) (tO X.K R (xCallF fs f)) :=
  PE.imp (pe_callTy hc hg hm hv ha hn hdb he hpl) fun _ _ _ h => x_cbF hr h
end
end DL
set_option Elab.async false
set_option linter.all false
set_option maxRecDepth 100000
set_option maxHeartbeats 4000000
namespace DL
open PySem PySem.Spec PyProof.Rows L2

/-! ### tests with effects -/
section
variable {S : Type} {X : Cx} {R : StI S} {a b c e : Expr} {es rest : List Expr} {pos : Pos} {fa fb : XF S D} {h1 h2 : XF S Bool}
def xTr (f : XF S D) : XF S Bool := xb f fun x => xlift (truD x)
theorem xt_tr (ha : PE X a (tX X.K R fa)) (he : ∀ whole, isTrue a X.env whole = (do let v ← whole; standAt a.pos; holding [v] (truthy v)) := by intro _; rfl) : PT X a (tXT X.K R (xTr fa)) :=
  PT.imp (pt_truth ha he) fun σ H Q ⟨G, F, ds, b, ds', rs, e, k⟩ => by
    obtain ⟨x, ds1, ea, e⟩ := xb_some e
    obtain ⟨eg, e9⟩ := xlift_some e
    subst e9
    exact ⟨G, F, ds, x, _, rs, ea, fun v G1 H1 F1 r1 s1 d1 => ⟨b, truD_ok r1.sub d1 eg, k G1 H1 F1 r1 s1⟩⟩
def boolD : D → Option Bool
  | .bool b => some b
  | _ => none
def xBool (f : XF S D) : XF S Bool := xb f fun x => xlift (boolD x)
theorem xt_cmp {op : CmpOp} {r : R2} {g : D → D → Option D} (ho : OpR X (compareOp op) r) (hr : R2D X.K r g) (ha : PE X a (tX X.K R fa)) (hb : PE X b (tX X.K R fb)) (hm : behindInMarks op b = false) : PT X (.Compare a [op] [b] pos) (tXT X.K R (xBool (xOp g fa fb))) :=
  PT.imp (pt_cmpR ho ha hb hm) fun σ H Q ⟨G, F, ds, b, ds', rs, e, k⟩ => by
    obtain ⟨x, ds1, ea, e⟩ := xb_some e
    obtain ⟨eg, e9⟩ := xlift_some e
    subst e9
    refine x_op (R := R) (g := g) hr ⟨G, F, ds, x, _, rs, ea, fun v G1 H1 F1 r1 s1 d1 => ?_⟩
    cases d1 with
    | bl t => cases eg; exact ⟨_, rfl, k G1 H1 F1 r1 s1⟩
    | _ => cases eg
/-- a pure test; the own lists may be read -/
def xtP (h : DS S → Option Bool) : XF S Bool := fun ds => (h ds).map fun b => (b, ds)
theorem xt_P {h : DS S → Option Bool} (ht : PT X a (tPT X.K h)) : PT X a (tXT X.K R (xtP h)) := PT.imp ht fun σ H Q ⟨G, F, ds, b, ds', r, e, k⟩ => by
  unfold xtP at e
  cases eg : h ds with
  | none => rw [eg] at e; cases e
  | some d0 =>
    rw [eg] at e
    cases e
    exact ⟨shown ds G H F, ds, b, shown_sub r.sub, r.show, eg, fun B H' gr => k (unshown G H B) H' F (r.grow (unshown_gr r gr)) (unshown_gr r gr).step⟩
def xNot (h : XF S Bool) : XF S Bool := xb h fun b => xlift (some (!b))
theorem xt_not (ht : PT X a (tXT X.K R h1)) : PT X (.UnaryOp .Not a pos) (tXT X.K R (xNot h1)) := PT.imp (pt_not ht) fun σ H Q ⟨G, F, ds, b, ds', rs, e, k⟩ => by
  obtain ⟨x, ds1, ea, e⟩ := xb_some e
  obtain ⟨eg, e9⟩ := xlift_some e
  subst e9
  cases eg
  exact ⟨G, F, ds, x, _, rs, ea, fun G1 H1 F1 r1 s1 => k G1 H1 F1 r1 s1⟩
def xAnd (h1 h2 : XF S Bool) : XF S Bool := xb h1 fun b => if b then h2 else xlift (some false)
def xOr (h1 h2 : XF S Bool) : XF S Bool := xb h1 fun b => if b then xlift (some true) else h2
theorem x_and {σ : L2.St} {H : Hp} {Q : Bool → Hp → Prop} (h : tXT X.K R (xAnd h1 h2) σ H Q) : tAnd (tXT X.K R h1) (tXT X.K R h2) σ H Q := by
  obtain ⟨G, F, ds, b, ds', rs, e, k⟩ := h
  obtain ⟨x, ds1, ea, e⟩ := xb_some e
  refine ⟨G, F, ds, x, _, rs, ea, fun G1 H1 F1 r1 s1 => ?_⟩
  cases x with
  | true => exact iteT ⟨G1, F1, ds1, b, ds', r1, by simpa using e, fun G2 H2 F2 r2 s2 => k G2 H2 F2 r2 (s1.trans s2)⟩
  | false =>
    obtain ⟨eg, e9⟩ := xlift_some (by simpa using e : xlift (some false) ds1 = some (b, ds'))
    subst e9
    cases eg
    exact iteF (k G1 H1 F1 r1 s1)
theorem x_or {σ : L2.St} {H : Hp} {Q : Bool → Hp → Prop} (h : tXT X.K R (xOr h1 h2) σ H Q) : tOr (tXT X.K R h1) (tXT X.K R h2) σ H Q := by
  obtain ⟨G, F, ds, b, ds', rs, e, k⟩ := h
  obtain ⟨x, ds1, ea, e⟩ := xb_some e
  refine ⟨G, F, ds, x, _, rs, ea, fun G1 H1 F1 r1 s1 => ?_⟩
  cases x with
  | false => exact iteF ⟨G1, F1, ds1, b, ds', r1, by simpa using e, fun G2 H2 F2 r2 s2 => k G2 H2 F2 r2 (s1.trans s2)⟩
  | true =>
    obtain ⟨eg, e9⟩ := xlift_some (by simpa using e : xlift (some true) ds1 = some (b, ds'))
    subst e9
    cases eg
    exact iteT (k G1 H1 F1 r1 s1)
theorem xw_and1 (ha : PT X a (tXT X.K R h1)) : PW X (.BoolOp .And [a] pos) (tXT X.K R h1) := pw_and1 ha
theorem xw_or1 (ha : PT X a (tXT X.K R h1)) : PW X (.BoolOp .Or [a] pos) (tXT X.K R h1) := pw_or1 ha
theorem xw_and (ha : PT X a (tXT X.K R h1)) (hb : PW X (.BoolOp .And (b :: rest) pos) (tXT X.K R h2)) : PW X (.BoolOp .And (a :: b :: rest) pos) (tXT X.K R (xAnd h1 h2)) := PW.imp (pw_and ha hb) fun _ _ _ h => x_and h
theorem xw_or (ha : PT X a (tXT X.K R h1)) (hb : PW X (.BoolOp .Or (b :: rest) pos) (tXT X.K R h2)) : PW X (.BoolOp .Or (a :: b :: rest) pos) (tXT X.K R (xOr h1 h2)) := PW.imp (pw_or ha hb) fun _ _ _ h => x_or h
def xIf (h : XF S Bool) (fa fb : XF S D) : XF S D := xb h fun b => if b then fa else fb
theorem ex_if (hc : PT X c (tXT X.K R h1)) (ha : PE X a (tX X.K R fa)) (hb : PE X b (tX X.K R fb)) : PE X (.IfExp c a b pos) (tX X.K R (xIf h1 fa fb)) := PE.imp (pe_ifExp hc ha hb) fun σ H Q ⟨G, F, ds, d, ds', rs, e, k⟩ => by
  obtain ⟨x, ds1, ea, e⟩ := xb_some e
  refine ⟨G, F, ds, x, _, rs, ea, fun G1 H1 F1 r1 s1 => ?_⟩
  cases x with
  | true => exact iteT ⟨G1, F1, ds1, d, ds', r1, by simpa using e, fun v G2 H2 F2 r2 s2 d2 => k v G2 H2 F2 r2 (s1.trans s2) d2⟩
  | false => exact iteF ⟨G1, F1, ds1, d, ds', r1, by simpa using e, fun v G2 H2 F2 r2 s2 d2 => k v G2 H2 F2 r2 (s1.trans s2) d2⟩
/-- x or y, by truth -/
def xOrV (fa fb : XF S D) : XF S D := xb fa fun x => xb (xlift (truD x)) fun k => if k then xlift (some x) else fb
theorem ex_or (ha : PE X a (tX X.K R fa)) (hb : PE X (.BoolOp .Or (b :: rest) pos) (tX X.K R fb)) : PE X (.BoolOp .Or (a :: b :: rest) pos) (tX X.K R (xOrV fa fb)) := PE.imp (pe_orT ha hb) fun σ H Q ⟨G, F, ds, d, ds', rs, e, k⟩ => by
  obtain ⟨x, ds1, ea, e⟩ := xb_some e
  obtain ⟨t, ds2, et, e⟩ := xb_some e
  obtain ⟨eg, e9⟩ := xlift_some et
  subst e9
  refine ⟨G, F, ds, x, _, rs, ea, fun v G1 H1 F1 r1 s1 d1 => ⟨t, truD_ok r1.sub d1 eg, ?_⟩⟩
  cases t with
  | true =>
    obtain ⟨e1, e9⟩ := xlift_some (by simpa using e : xlift (some x) ds2 = some (d, ds'))
    subst e9
    cases e1
    exact iteT (k v G1 H1 F1 r1 s1 d1)
  | false => exact iteF ⟨G1, F1, ds2, d, ds', r1, by simpa using e, fun v G2 H2 F2 r2 s2 d2 => k v G2 H2 F2 r2 (s1.trans s2) d2⟩
end

/-! ### slots of data in a frame's state -/
section
variable {S : Type} {K : PySem.W.Frag} {R : StI S} {G H : Hp} {ds : DS S} {σ : L2.St} {F : Nat → Addr → Prop}
theorem RS.setd (r : RS K R ds σ G H F) (i : Nat) {v : V} {d : D} (h : Den K G v d) : ∃ F', RS K R (ds.set i (some (.d d))) (σ.set i (some v)) G H F' ∧ ∀ a, (∃ j, F' j a) → ∃ j, F j a := by
  by_cases hi : i < ds.length
  · exact ⟨_, r.set i hi (fr := fun _ => False) ⟨h, fun _ z => z⟩ (fun _ z => z.elim) (fun _ z => z.elim), fun a ha => (setF_un a ha).elim (fun z => z) False.elim⟩
  · have h1 : ds.set i (some (.d d)) = ds := List.set_eq_of_length_le (by omega)
    have h2 : σ.set i (some v) = σ := List.set_eq_of_length_le (by rw [← r.len]; omega)
    rw [h1, h2]
    exact ⟨F, r, fun _ z => z⟩
theorem RS.setn (r : RS K R ds σ G H F) (i : Nat) : ∃ F', RS K R (ds.set i none) (σ.set i none) G H F' ∧ ∀ a, (∃ j, F' j a) → ∃ j, F j a := by
  refine ⟨fun j a => j ≠ i ∧ F j a, ⟨r.sub, by rw [List.length_set, List.length_set]; exact r.len, fun j m e => ?_, fun j e a ha => ?_, fun j k a h1 h2 => r.dj j k a h1.2 h2.2, fun j a h => r.dis j a h.2⟩, fun a ⟨j, h⟩ => ⟨j, h.2⟩⟩
  · by_cases hj : i = j
    · subst hj
      by_cases hl : i < ds.length
      · rw [List.getElem?_set_self hl] at e; cases e
      · rw [List.getElem?_eq_none (by rw [List.length_set]; omega)] at e; cases e
    · rw [List.getElem?_set_ne hj] at e ⊢
      obtain ⟨v, h1, h2⟩ := r.own j m e
      exact ⟨v, h1, h2.iff fun a => ⟨fun z => z.2, fun z => ⟨Ne.symm hj, z⟩⟩⟩
  · refine r.emp j (fun m q => e m ?_) a ha.2
    rw [List.getElem?_set_ne (Ne.symm ha.1)]
    exact q
theorem RS.setAll : ∀ {vs : List (Nat × V)} {as : List (Nat × D)} {σ : L2.St} {ds : DS S} {F : Nat → Addr → Prop}, RS K R ds σ G H F → AsgV K G vs as → ∃ F', RS K R (setD ds as) (DL.setAll σ vs) G H F' ∧ ∀ a, (∃ j, F' j a) → ∃ j, F j a
  | _, _, _, _, F, h, .nil => ⟨F, h, fun _ z => z⟩
  | _, _, σ, ds, F, h, .cons (a := p) (b := q) ⟨e, hd⟩ r => by
    obtain ⟨F1, r1, u1⟩ := h.setd q.1 hd
    rw [← e] at r1
    obtain ⟨F2, r2, u2⟩ := RS.setAll (σ := σ.set p.1 (some p.2)) (ds := ds.set p.1 (some (.d q.2))) r1 r
    refine ⟨F2, ?_, fun a z => u1 a (u2 a z)⟩
    rw [e] at r2
    show RS K R (setD (ds.set q.1 (some (.d q.2))) _) (DL.setAll (σ.set p.1 (some p.2)) _) G H F2
    rw [e]
    exact r2
theorem RS.wipe (h : RS K R ds σ G H F) : ∀ vs : List Nat, ∃ F', RS K R (wipeD ds vs) (L2.wipe σ vs) G H F' ∧ ∀ a, (∃ j, F' j a) → ∃ j, F j a
  | [] => ⟨F, h, fun _ z => z⟩
  | v :: vs => by
    obtain ⟨F1, r1, u1⟩ := RS.wipe h vs
    obtain ⟨F2, r2, u2⟩ := r1.setn v
    exact ⟨F2, r2, fun a z => u1 a (u2 a z)⟩
theorem RS.out (r : RS K R ds σ G H F) {A : Addr} {o : HO} (h1 : G A = none) (h2 : ¬ ∃ j, F j A) : RS K R ds σ G (upd H A o) F where
  sub := fun b u e => by rw [upd_ne (ne_of_none e h1)]; exact r.sub b u e
  len := r.len
  own := fun i m e => by
    obtain ⟨v, h3, h4⟩ := r.own i m e
    exact ⟨v, h3, h4.mono (Same.refl _) fun a ha => upd_ne fun z => h2 ⟨i, by rw [← z]; exact ha⟩⟩
  emp := r.emp
  dj := r.dj
  dis := r.dis
/-- what of the elder slots is kept where a block's own names were set -/
def keepM : Option (Option (MO S)) → Option (MO S)
  | some (some (.d x)) => some (.d x)
  | _ => none
def mergeD (ds : DS S) : List Nat → DS S → DS S
  | [], din => din
  | v :: vs, din => (mergeD ds vs din).set v (keepM ds[v]?)
theorem RS.merge {dsO : DS S} {σO σ2 : L2.St} {din : DS S} (wO : ∀ (i : Nat) x, dsO[i]? = some (some (MO.d x)) → ∃ v, σO[i]? = some (some v) ∧ Den K G v x) (hl : dsO.length = σO.length) :
    ∀ {own : List Nat} {F : Nat → Addr → Prop}, RS K R din σ2 G H F → (∀ i, i ∉ own → σ2[i]? = σO[i]?) → σ2.length = σO.length → ∃ F', RS K R (mergeD dsO own din) σO G H F' ∧ ∀ a, (∃ j, F' j a) → ∃ j, F j a := by
  intro own F r hout hlen
  have hd : ∀ vs : List Nat, (mergeD dsO vs din).length = din.length := fun vs => by
    induction vs with
    | nil => rfl
    | cons v vs ih => show ((mergeD dsO vs din).set v _).length = _; rw [List.length_set]; exact ih
  have get : ∀ (vs : List Nat) (i : Nat), (mergeD dsO vs din)[i]? = if i ∈ vs then (if i < din.length then some (keepM dsO[i]?) else none) else din[i]? := fun vs => by
    induction vs with
    | nil => intro i; rw [if_neg (by simp)]; rfl
    | cons v vs ih =>
      intro i
      show ((mergeD dsO vs din).set v _)[i]? = _
      by_cases hv : v = i
      · subst hv
        rw [if_pos List.mem_cons_self]
        by_cases hi : v < din.length
        · rw [List.getElem?_set_self (by rw [hd]; exact hi), if_pos hi]
        · rw [List.getElem?_eq_none (by rw [List.length_set, hd]; omega), if_neg hi]
      · rw [List.getElem?_set_ne hv, ih i]
        by_cases hm : i ∈ vs
        · rw [if_pos hm, if_pos (List.mem_cons_of_mem _ hm)]
        · rw [if_neg hm, if_neg (by simp [hm, Ne.symm hv])]
  refine ⟨fun j a => j ∉ own ∧ F j a, ⟨r.sub, by rw [hd, r.len]; exact hlen, fun i m e => ?_, fun i e a ha => ?_, fun i j a h1 h2 => r.dj i j a h1.2 h2.2, fun i a h => r.dis i a h.2⟩, fun a ⟨j, h⟩ => ⟨j, h.2⟩⟩
  · rw [get own i] at e
    by_cases hm : i ∈ own
    · rw [if_pos hm] at e
      split at e
      · have e' : keepM dsO[i]? = some m := Option.some.inj e
        cases q : dsO[i]? with
        | none => rw [q] at e'; cases e'
        | some o =>
          rw [q] at e'
          match o, e' with
          | some (.d x), e' =>
            cases e'
            obtain ⟨v, h1, h2⟩ := wO i x q
            exact ⟨v, h1, h2, fun a z => z.1 hm⟩
      · cases e
    · rw [if_neg hm] at e
      obtain ⟨v, h1, h2⟩ := r.own i m e
      exact ⟨v, by rw [← hout i hm]; exact h1, h2.iff fun a => ⟨fun z => z.2, fun z => ⟨hm, z⟩⟩⟩
  · refine r.emp i (fun m q => e m ?_) a ha.2
    rw [get own i, if_neg ha.1]
    exact q
theorem setAll_out {own : List Nat} {i : Nat} (hi : i ∉ own) : ∀ {l : List (Nat × V)} {σ : L2.St}, (∀ p ∈ l, p.1 ∈ own) → (DL.setAll σ l)[i]? = σ[i]?
  | [], _, _ => rfl
  | p :: l, σ, h => by
    show (DL.setAll (σ.set p.1 (some p.2)) l)[i]? = _
    rw [setAll_out hi fun q hq => h q (List.mem_cons_of_mem _ hq), List.getElem?_set_ne fun z => hi (by rw [← z]; exact h p List.mem_cons_self)]
theorem setAll_len : ∀ {l : List (Nat × V)} {σ : L2.St}, (DL.setAll σ l).length = σ.length
  | [], _ => rfl
  | p :: l, σ => by
    show (DL.setAll (σ.set p.1 (some p.2)) l).length = _
    rw [setAll_len, List.length_set]
end

/-! ### comprehensions with effects -/
section
variable {S : Type}
def lcRunX (f : D → DS S → Option (Option D × DS S)) : List D → XF S (List D)
  | [], ds => some ([], ds)
  | x :: xs, ds => (f x ds).bind fun p => (lcRunX f xs p.2).bind fun q => some (match p.1 with
    | some y => (y :: q.1, q.2)
    | none => q)
def lcOneX (own : List Nat) (t : D → Option (List (Nat × D))) (h : XF S Bool) (g : XF S D) : D → DS S → Option (Option D × DS S) := fun x ds =>
  (t x).bind fun as => (h (setD (wipeD ds own) as)).bind fun b => if b.1 then (g b.2).bind fun y => some (some y.1, mergeD ds own y.2) else some (none, mergeD ds own b.2)
def xLc (src : XF S (List D)) (own : List Nat) (t : D → Option (List (Nat × D))) (h : XF S Bool) (g : XF S D) : XF S (MO S) := xb src fun xs => fun ds => (lcRunX (lcOneX own t h g) xs ds).map fun p => (.lst p.1, p.2)
def xYes : XF S Bool := fun ds => some (true, ds)
theorem xts_yes {X : Cx} {R : StI S} : PTs X [] (tXT X.K R xYes) := PTs.imp pts_nil fun σ H Q ⟨G, F, ds, b, ds', rs, e, k⟩ => by
  cases e
  exact k G H F rs (.refl rs.sub)
variable {K : PySem.W.Frag} {R : StI S} {src : XF S (List D)} {own : List Nat} {t : D → Option (List (Nat × D))} {h : XF S Bool} {g : XF S D} {tg : TG}
theorem x_lc (ht : TGD K tg t) (ho : ∀ d as, t d = some as → ∀ p ∈ as, p.1 ∈ own) {σ : L2.St} {H : Hp} {Q : VK} (w0 : tO K R (xLc src own t h g) σ H Q) : tLc (tXI K R src) tg (tXT K R h) (tX K R g) own σ H Q := by
  obtain ⟨G, F, ds, m, dsE, r0, e, k⟩ := w0
  obtain ⟨xs, ds1, ea, e⟩ := xb_some e
  cases er0 : lcRunX (lcOneX own t h g) xs ds1 with
  | none => rw [er0] at e; cases e
  | some pE =>
  rw [er0] at e
  have em : m = .lst pE.1 := by cases e; rfl
  have edE : dsE = pE.2 := by cases e; rfl
  subst em edE
  refine ⟨G, F, ds, xs, ds1, r0, ea, fun J G1 H1 F1 r1 s1 it => fun A hA => ?_⟩
  have hGA : G1 A = none := r1.sub.free hA
  have hFA : ¬ ∃ j, F1 j A := fun ⟨j, hj⟩ => r1.trk j A hj hA
  refine ⟨fun i m Hc => m = xs.length - i ∧ i ≤ xs.length ∧ ∃ Gc Fc dsc vs done rest, RS K R dsc σ Gc Hc Fc ∧ Step G H (fun a => ∃ j, F j a) Gc Hc (fun a => (∃ j, Fc j a) ∨ a = A) ∧ Same G1 Gc ∧ (¬ ∃ j, Fc j A) ∧ Gc A = none ∧ Hc A = some (.lst vs) ∧ vs.length ≤ i ∧ DenAll K Gc vs done ∧
      lcRunX (lcOneX own t h g) (xs.drop i) dsc = some (rest, pE.2) ∧ pE.1 = done ++ rest,
    ⟨xs.length, rfl, Nat.zero_le _, G1, F1, ds1, [], [], pE.1, r1.out hGA hFA, ?_, Same.refl _, hFA, hGA, upd_same, Nat.le_refl _, .nil, by rw [List.drop_zero, er0], by simp⟩, ?_⟩
  · refine s1.trans ⟨fun a ha o e => ?_, Same.refl _, fun b u e => ?_, fun b hb => .inl hb, fun b hb => ?_⟩
    · rw [upd_ne (ne_of_none e hA)]; exact e
    · rw [upd_ne (ne_of_none e hGA)]; exact r1.sub b u e
    · rcases hb with hb | hb
      · exact .inl hb
      · exact .inr (by rw [hb]; exact hA)
  rintro i m Hc ⟨rfl, hi, Gc, Fc, dsc, vs, done, rest, rc, sc, gc, nFA, nA, eA, lv, dv, er, ey⟩
  by_cases hlt : i < xs.length
  · refine .inr ⟨it.go i Hc (gc.trans rc.sub) hlt, fun H' => ∃ m', m' < xs.length - i ∧ (m' = xs.length - (i + 1) ∧ i + 1 ≤ xs.length ∧ ∃ Gc Fc dsc vs done rest, RS K R dsc σ Gc H' Fc ∧ Step G H (fun a => ∃ j, F j a) Gc H' (fun a => (∃ j, Fc j a) ∨ a = A) ∧ Same G1 Gc ∧ (¬ ∃ j, Fc j A) ∧ Gc A = none ∧ H' A = some (.lst vs) ∧ vs.length ≤ i + 1 ∧ DenAll K Gc vs done ∧
      lcRunX (lcOneX own t h g) (xs.drop (i + 1)) dsc = some (rest, pE.2) ∧ pE.1 = done ++ rest), fun H' x => x, fun x H' y => ?_⟩
    obtain ⟨d, hd, grow⟩ := it.yld i Hc x H' (gc.trans rc.sub) hlt y
    obtain ⟨Ga, ga, dx⟩ := grow Gc gc rc.sub
    have ra := rc.grow ga
    have hdrop : xs.drop i = d :: xs.drop (i + 1) := by
      rw [List.drop_eq_getElem_cons hlt]
      rw [List.getElem?_eq_getElem hlt] at hd
      cases hd
      rfl
    rw [hdrop] at er
    unfold lcRunX at er
    cases ef : lcOneX own t h g d dsc with
    | none => rw [ef] at er; cases er
    | some o =>
      rw [ef] at er
      simp only [Option.bind_some] at er
      cases e2 : lcRunX (lcOneX own t h g) (xs.drop (i + 1)) o.2 with
      | none => rw [e2] at er; cases er
      | some rest2 =>
        rw [e2] at er
        simp only [Option.bind_some] at er
        unfold lcOneX at ef
        cases et : t d with
        | none => rw [et] at ef; cases ef
        | some as =>
          rw [et] at ef
          simp only [Option.bind_some] at ef
          refine ht x d as _ Ga H' _ ga.sub dx et fun ws aw => ?_
          have slots := asgV_slots aw (ho d as et)
          refine ⟨by rw [wipe_setAll slots, wipe_wipe], ?_⟩
          obtain ⟨Fw, rw0, uw⟩ := ra.wipe own
          obtain ⟨Fi, ri, ui⟩ := rw0.setAll aw
          have hout : ∀ j, j ∉ own → (setAll (wipe σ own) ws)[j]? = σ[j]? := fun j hj => by rw [setAll_out hj slots, wipe_out hj]
          have hlen : (setAll (wipe σ own) ws).length = σ.length := by rw [setAll_len, wipe_length]
          have nFi : ¬ ∃ j, Fi j A := fun z => nFA (uw A (ui A z))
          have eA' : H' A = some (.lst vs) := ga.all _ _ eA
          have nAa : Ga A = none := by
            cases q : Ga A with
            | none => rfl
            | some o' =>
              rcases ga.new A (by rw [q]; simp) with z | z
              · exact absurd nA z
              · rw [eA] at z; cases z
          cases eh : h (setD (wipeD dsc own) as) with
          | none => rw [eh] at ef; cases ef
          | some b =>
            rw [eh] at ef
            simp only [Option.bind_some] at ef
            refine ⟨Ga, Fi, _, b.1, b.2, ri, eh, fun G3 H3 F3 r3 s3 => ?_⟩
            have keepA : ∀ {Ga' Ha' Gb Hb : Hp} {Fa Fb : Nat → Addr → Prop}, Step Ga' Ha' (fun a => ∃ j, Fa j a) Gb Hb (fun a => ∃ j, Fb j a) → Ga' A = none → Ha' A = some (.lst vs) → (¬ ∃ j, Fa j A) → Gb A = none ∧ Hb A = some (.lst vs) ∧ ¬ ∃ j, Fb j A := fun {Ga' Ha' Gb Hb Fa Fb} s z1 z2 z3 => by
              refine ⟨?_, s.frame A z3 _ z2, fun q => ?_⟩
              · cases q : Gb A with
                | none => rfl
                | some o' =>
                  rcases s.new0 A (by rw [q]; simp) with z | z | z
                  · exact absurd z1 z
                  · rw [z2] at z; cases z
                  · exact absurd z z3
              · rcases s.newf A q with z | z
                · exact z3 z
                · rw [z2] at z; cases z
            obtain ⟨nA3, eA3, nF3⟩ := keepA s3 nAa eA' nFi
            -- the frame's own step from the turn's start
            have lift : ∀ {Gb Hb : Hp} {Fb : Nat → Addr → Prop}, Step Ga H' (fun a => ∃ j, Fi j a) Gb Hb (fun a => ∃ j, Fb j a) → Step Gc Hc (fun a => (∃ j, Fc j a) ∨ a = A) Gb Hb (fun a => (∃ j, Fb j a) ∨ a = A) := fun {Gb Hb Fb} s => by
              refine ⟨fun a ha o e => s.frame a (fun z => ha (.inl (uw a (ui a z)))) o (ga.all a o e), ga.keep.trans s.keep, s.sub, fun b hb => ?_, fun b hb => ?_⟩
              · rcases s.new0 b hb with z | z | z
                · rcases ga.new b z with z | z
                  · exact .inl z
                  · exact .inr (.inl z)
                · exact .inr (.inl (ga.all.free z))
                · exact .inr (.inr (.inl (uw b (ui b z))))
              · rcases hb with hb | hb
                · rcases s.newf b hb with z | z
                  · exact .inl (.inl (uw b (ui b z)))
                  · exact .inr (ga.all.free z)
                · exact .inl (.inr hb)
            have back : ∀ {Gb Hb : Hp} {Fb : Nat → Addr → Prop} {din : DS S}, RS K R din (setAll (wipe σ own) ws) Gb Hb Fb → Same Gc Gb → ∃ F', RS K R (mergeD dsc own din) σ Gb Hb F' ∧ ∀ a, (∃ j, F' j a) → ∃ j, Fb j a := fun {Gb Hb Fb din} rb sg =>
              RS.merge (fun i x q => by obtain ⟨v, h1, h2⟩ := rc.own i _ q; exact ⟨v, h1, h2.1.mono sg⟩) rc.len rb hout hlen
            cases hb : b.1 with
            | false =>
              refine iteF ?_
              rw [hb, if_neg Bool.false_ne_true] at ef
              cases ef
              obtain ⟨F5, r5, u5⟩ := back r3 (ga.keep.trans s3.keep)
              refine ⟨xs.length - (i + 1), by omega, rfl, hlt, G3, F5, _, vs, done, rest2.1, r5, (sc.trans (lift s3)).weaken fun a z => z.elim (fun z => .inl (u5 a z)) .inr, gc.trans (ga.keep.trans s3.keep), fun z => nF3 (u5 A z), nA3, eA3, Nat.le_succ_of_le lv, dv.mono (ga.keep.trans s3.keep), ?_, ?_⟩
              · rw [e2]; cases er; rfl
              · cases er; exact ey
            | true =>
              refine iteT ?_
              rw [hb, if_pos rfl] at ef
              cases eg : g b.2 with
              | none => rw [eg] at ef; cases ef
              | some y0 =>
                rw [eg] at ef
                cases ef
                refine ⟨G3, F3, _, y0.1, y0.2, r3, eg, fun v G4 H4 F4 r4 s4 dy => ?_⟩
                obtain ⟨nA4, eA4, nF4⟩ := keepA s4 nA3 eA3 nF3
                refine ⟨vs, eA4, by have := it.len; omega, ?_⟩
                have sall := s3.trans s4
                obtain ⟨F5, r5, u5⟩ := back r4 (ga.keep.trans sall.keep)
                have nF5 : ¬ ∃ j, F5 j A := fun z => nF4 (u5 A z)
                have st5 := ((sc.trans (lift sall)).weaken (P2 := fun a => (∃ j, F5 j a) ∨ a = A) fun a z => z.elim (fun z => .inl (u5 a z)) .inr)
                have hHA : H A = none ∨ ∃ j, F j A := by
                  rcases sc.newf A (.inr rfl) with z | z
                  · exact .inr z
                  · exact .inl z
                refine ⟨xs.length - (i + 1), by omega, rfl, hlt, G4, F5, _, vs ++ [v], done ++ [y0.1], rest2.1, r5.out nA4 nF5, ⟨fun a ha o e => ?_, st5.keep, fun b u q => ?_, st5.new0, st5.newf⟩, gc.trans (ga.keep.trans sall.keep), nF5, nA4, upd_same, by rw [List.length_append]; simpa using lv, (dv.mono (ga.keep.trans sall.keep)).append (.cons dy .nil), ?_, ?_⟩
                · have hne : a ≠ A := fun z => by
                    subst z
                    rcases hHA with z | z
                    · rw [z] at e; cases e
                    · exact ha z
                  rw [upd_ne hne]
                  exact st5.frame a ha o e
                · rw [upd_ne (ne_of_none q nA4)]; exact st5.sub b u q
                · have q := congrArg Prod.snd (Option.some.inj er)
                  have q2 : rest2.2 = pE.2 := q
                  rw [e2, ← q2]
                · have q := congrArg Prod.fst (Option.some.inj er)
                  have q2 : y0.1 :: rest2.1 = rest := q
                  rw [ey, ← q2, List.append_assoc]
                  rfl
  · have e' : i = xs.length := by omega
    subst e'
    refine .inl ⟨it.stop _ Hc (gc.trans rc.sub) (Nat.le_refl _) (Nat.le_refl _), ?_⟩
    rw [List.drop_length] at er
    cases er
    rw [List.append_nil] at ey
    have dv' : DenAll K Gc vs pE.1 := by rw [ey]; exact dv
    exact k _ Gc Hc Fc (· = A) rc sc ⟨A, vs, rfl, eA, Nat.le_trans lv it.len, dv', fun a => Iff.rfl⟩ (fun a ha z => nFA (by rw [← ha]; exact z)) fun a ha => by rw [ha]; exact nA
end
end DL
set_option Elab.async false
set_option linter.all false
set_option maxRecDepth 100000
set_option maxHeartbeats 4000000
namespace DL
open PySem PySem.Spec PyProof.Rows L2

inductive Out (S : Type) where
  | nx (ds : DS S) | rt (m : MO S) (ds : DS S) | bk (ds : DS S) | ct (ds : DS S)
section
variable {S : Type}
def After (K : PySem.W.Frag) (R : StI S) (pn : List Nat) (σ : L2.St) (G H : Hp) (P : Addr → Prop) (ds' : DS S) (N : L2.St → Hp → Prop) : Prop :=
  ∀ σ' G' H' F', RS K R ds' σ' G' H' F' → Step G H P G' H' (fun a => ∃ i, F' i a) → (∀ i ∈ pn, σ'[i]? = σ[i]?) → N σ' H'
def SEnd (K : PySem.W.Frag) (R : StI S) (pn : List Nat) (σ : L2.St) (G H : Hp) (P : Addr → Prop) (Dn : Ends) : Out S → Prop
  | .nx ds' => After K R pn σ G H P ds' Dn.nx
  | .bk ds' => After K R pn σ G H P ds' Dn.bk
  | .ct ds' => After K R pn σ G H P ds' Dn.ct
  | .rt m ds' => ∀ v σ' G' H' F' fr, RS K R ds' σ' G' H' F' → Step G H P G' H' (fun a => (∃ i, F' i a) ∨ fr a) → OwnAt K R G' H' v m fr → (∀ a, fr a → ¬ ∃ i, F' i a) → (∀ a, fr a → G' a = none) → (∀ i ∈ pn, σ'[i]? = σ[i]?) → Dn.rt v H'
def tS (K : PySem.W.Frag) (R : StI S) (pn : List Nat) (g : DS S → Option (Out S)) : TS := fun Dn σ H => ∃ G F ds o, RS K R ds σ G H F ∧ g ds = some o ∧ SEnd K R pn σ G H (fun a => ∃ i, F i a) Dn o
theorem After.shift {K : PySem.W.Frag} {R : StI S} {pn : List Nat} {σ σ1 : L2.St} {G H G1 H1 : Hp} {P P1 : Addr → Prop} {ds' : DS S} {N : L2.St → Hp → Prop} (h : After K R pn σ G H P ds' N) (s : Step G H P G1 H1 P1) (p : ∀ i ∈ pn, σ1[i]? = σ[i]?) : After K R pn σ1 G1 H1 P1 ds' N :=
  fun σ' G' H' F' r t q => h σ' G' H' F' r (s.trans t) fun i hi => (q i hi).trans (p i hi)
theorem SEnd.shift {K : PySem.W.Frag} {R : StI S} {pn : List Nat} {σ σ1 : L2.St} {G H G1 H1 : Hp} {P P1 : Addr → Prop} {Dn : Ends} {o : Out S} (h : SEnd K R pn σ G H P Dn o) (s : Step G H P G1 H1 P1) (p : ∀ i ∈ pn, σ1[i]? = σ[i]?) : SEnd K R pn σ1 G1 H1 P1 Dn o := by
  cases o with
  | nx ds => exact After.shift h s p
  | bk ds => exact After.shift h s p
  | ct ds => exact After.shift h s p
  | rt m ds => exact fun v σ' G' H' F' fr r t o h1 h2 q => h v σ' G' H' F' fr r (s.trans t) o h1 h2 fun i hi => (q i hi).trans (p i hi)
abbrev SF (S : Type) := DS S → Option (Out S)
def gSeq (g h : SF S) : SF S := fun ds => (g ds).bind fun o => match o with
  | .nx ds' => h ds'
  | o => some o
variable {K : PySem.W.Frag} {R : StI S} {pn : List Nat} {g h : SF S} {Dn : Ends} {σ : L2.St} {H : Hp}
theorem s_seq (w : tS K R pn (gSeq g h) Dn σ H) : tSeq (tS K R pn g) (tS K R pn h) Dn σ H := by
  obtain ⟨G, F, ds, o, r, e, k⟩ := w
  unfold gSeq at e
  cases eg : g ds with
  | none => rw [eg] at e; cases e
  | some o1 =>
    rw [eg] at e
    refine ⟨G, F, ds, o1, r, eg, ?_⟩
    cases o1 with
    | nx ds1 => exact fun σ' G' H' F' r' s p => ⟨G', F', ds1, o, r', e, k.shift s p⟩
    | bk ds1 => cases e; exact k
    | ct ds1 => cases e; exact k
    | rt m ds1 => cases e; exact k
def gNext : SF S := fun ds => some (.nx ds)
theorem s_next (w : tS K R pn gNext Dn σ H) : tNext Dn σ H := by
  obtain ⟨G, F, ds, o, r, e, k⟩ := w
  cases e
  exact k σ G H F r (.refl r.sub) fun _ _ => rfl
def gRet (f : XF S (MO S)) : SF S := fun ds => (f ds).map fun p => .rt p.1 p.2
theorem s_ret {f : XF S (MO S)} (w : tS K R pn (gRet f) Dn σ H) : tRet (tO K R f) Dn σ H := by
  obtain ⟨G, F, ds, o, r, e, k⟩ := w
  unfold gRet at e
  cases ef : f ds with
  | none => rw [ef] at e; cases e
  | some p =>
    rw [ef] at e
    cases e
    exact ⟨G, F, ds, p.1, p.2, r, ef, fun v G' H' F' fr r' s o h1 h2 => k v σ G' H' F' fr r' s o h1 h2 fun _ _ => rfl⟩
def gRetN : SF S := fun ds => some (.rt (.d .none) ds)
theorem s_retN (w : tS K R pn gRetN Dn σ H) : tRetN Dn σ H := by
  obtain ⟨G, F, ds, o, r, e, k⟩ := w
  cases e
  exact k .non σ G H F (fun _ => False) r ⟨fun _ _ _ h => h, Same.refl _, r.sub, fun _ h => .inl h, fun b h => h.elim .inl False.elim⟩ ⟨.non, fun _ z => z⟩ (fun _ z => z.elim) (fun _ z => z.elim) fun _ _ => rfl
def gBrk : SF S := fun ds => some (.bk ds)
def gCnt : SF S := fun ds => some (.ct ds)
theorem s_brk (w : tS K R pn gBrk Dn σ H) : tBreak Dn σ H := by
  obtain ⟨G, F, ds, o, r, e, k⟩ := w
  cases e
  exact k σ G H F r (.refl r.sub) fun _ _ => rfl
theorem s_cnt (w : tS K R pn gCnt Dn σ H) : tCont Dn σ H := by
  obtain ⟨G, F, ds, o, r, e, k⟩ := w
  cases e
  exact k σ G H F r (.refl r.sub) fun _ _ => rfl
/-- an own thing into a slot -/
theorem RS.seto {ds : DS S} {G : Hp} {F : Nat → Addr → Prop} {v : V} {m : MO S} {fr : Addr → Prop} (r : RS K R ds σ G H F) (i : Nat) (o : OwnAt K R G H v m fr) (h1 : ∀ a, fr a → ¬ ∃ j, F j a) (h2 : ∀ a, fr a → G a = none) :
    ∃ F', RS K R (ds.set i (some m)) (σ.set i (some v)) G H F' ∧ ∀ a, (∃ j, F' j a) → (∃ j, F j a) ∨ fr a := by
  by_cases hi : i < ds.length
  · exact ⟨_, r.set i hi o h1 h2, setF_un⟩
  · have h3 : ds.set i (some m) = ds := List.set_eq_of_length_le (by omega)
    have h4 : σ.set i (some v) = σ := List.set_eq_of_length_le (by rw [← r.len]; omega)
    rw [h3, h4]
    exact ⟨F, r, fun _ z => .inl z⟩
def gAsg (i : Nat) (f : XF S (MO S)) : SF S := fun ds => (f ds).map fun p => .nx (p.2.set i (some p.1))
theorem s_asg {i : Nat} {f : XF S (MO S)} (hi : i ∉ pn) (w : tS K R pn (gAsg i f) Dn σ H) : tAsg (tO K R f) (gName i) Dn σ H := by
  obtain ⟨G, F, ds, o, r, e, k⟩ := w
  unfold gAsg at e
  cases ef : f ds with
  | none => rw [ef] at e; cases e
  | some p =>
    rw [ef] at e
    cases e
    refine ⟨G, F, ds, p.1, p.2, r, ef, fun v G' H' F' fr r' s o h1 h2 => ?_⟩
    obtain ⟨F2, r2, u2⟩ := r'.seto i o h1 h2
    exact k _ G' H' F2 r2 (s.weaken u2) fun j hj => by rw [List.getElem?_set_ne fun z => hi (by rw [z]; exact hj)]
def gDrop (f : XF S D) : SF S := fun ds => (f ds).map fun p => .nx p.2
theorem s_drop {f : XF S D} (w : tS K R pn (gDrop f) Dn σ H) : tDrop (tX K R f) Dn σ H := by
  obtain ⟨G, F, ds, o, r, e, k⟩ := w
  unfold gDrop at e
  cases ef : f ds with
  | none => rw [ef] at e; cases e
  | some p =>
    rw [ef] at e
    cases e
    exact ⟨G, F, ds, p.1, p.2, r, ef, fun v G' H' F' r' s _ => k σ G' H' F' r' s fun _ _ => rfl⟩
def gIfS (c : XF S Bool) (g h : SF S) : SF S := fun ds => (c ds).bind fun p => if p.1 then g p.2 else h p.2
theorem s_if {c : XF S Bool} (w : tS K R pn (gIfS c g h) Dn σ H) : tIfS (tXT K R c) (tS K R pn g) (tS K R pn h) Dn σ H := by
  obtain ⟨G, F, ds, o, r, e, k⟩ := w
  unfold gIfS at e
  cases ef : c ds with
  | none => rw [ef] at e; cases e
  | some p =>
    rw [ef] at e
    simp only [Option.bind_some] at e
    refine ⟨G, F, ds, p.1, p.2, r, ef, fun G' H' F' r' s => ?_⟩
    cases hp : p.1 with
    | true =>
      rw [hp, if_pos rfl] at e
      exact iteT ⟨G', F', p.2, o, r', e, k.shift s fun _ _ => rfl⟩
    | false =>
      rw [hp, if_neg Bool.false_ne_true] at e
      exact iteF ⟨G', F', p.2, o, r', e, k.shift s fun _ _ => rfl⟩
/-- a tuple taken apart -/
def gAsgT (t : D → Option (List (Nat × D))) (f : XF S D) : SF S := fun ds => (f ds).bind fun p => (t p.1).map fun as => .nx (setD p.2 as)
theorem s_asgT {t : D → Option (List (Nat × D))} {tg : TG} {f : XF S D} (ht : TGD K tg t) (hp : ∀ d as, t d = some as → ∀ p ∈ as, p.1 ∉ pn) (w : tS K R pn (gAsgT t f) Dn σ H) : tAsg (tX K R f) tg Dn σ H := by
  obtain ⟨G, F, ds, o, r, e, k⟩ := w
  unfold gAsgT at e
  cases ef : f ds with
  | none => rw [ef] at e; cases e
  | some p =>
    rw [ef] at e
    simp only [Option.bind_some] at e
    cases et : t p.1 with
    | none => rw [et] at e; cases e
    | some as =>
      rw [et] at e
      cases e
      refine ⟨G, F, ds, p.1, p.2, r, ef, fun v G' H' F' r' s dv => ht v p.1 as σ G' H' _ r'.sub dv et fun ws aw => ?_⟩
      obtain ⟨F2, r2, u2⟩ := r'.setAll aw
      refine k _ G' H' F2 r2 (s.weaken u2) fun j hj => setAll_out (own := (as.map (·.1))) (fun z => ?_) (asgV_slots aw fun q hq => List.mem_map_of_mem hq)
      obtain ⟨q, hq, rfl⟩ := List.mem_map.mp z
      exact hp p.1 as et q hq hj
/-! loops -/
def forRun (t : D → Option (List (Nat × D))) (body : SF S) : List D → SF S
  | [], ds => some (.nx ds)
  | x :: xs, ds => (t x).bind fun as => (body (setD ds as)).bind fun o => match o with
    | .nx ds' => forRun t body xs ds'
    | .ct ds' => forRun t body xs ds'
    | .bk ds' => some (.nx ds')
    | .rt m ds' => some (.rt m ds')
def gFor (src : XF S (List D)) (t : D → Option (List (Nat × D))) (body : SF S) : SF S := fun ds => (src ds).bind fun p => forRun t body p.1 p.2
theorem s_for {src : XF S (List D)} {t : D → Option (List (Nat × D))} {tg : TG} (ht : TGD K tg t) (hp : ∀ d as, t d = some as → ∀ p ∈ as, p.1 ∉ pn) (w : tS K R pn (gFor src t g) Dn σ H) : tFor (tXI K R src) tg (tS K R pn g) Dn σ H := by
  obtain ⟨G, F, ds, o, r, e, k⟩ := w
  unfold gFor at e
  cases ef : src ds with
  | none => rw [ef] at e; cases e
  | some p =>
    rw [ef] at e
    simp only [Option.bind_some] at e
    obtain ⟨xs, ds1⟩ := p
    refine ⟨G, F, ds, xs, ds1, r, ef, fun J G1 H1 F1 r1 s1 it => ?_⟩
    refine ⟨fun i m σc Hc => m = xs.length - i ∧ i ≤ xs.length ∧ ∃ Gc Fc dsc, RS K R dsc σc Gc Hc Fc ∧ Step G H (fun a => ∃ j, F j a) Gc Hc (fun a => ∃ j, Fc j a) ∧ Same G1 Gc ∧ (∀ j ∈ pn, σc[j]? = σ[j]?) ∧ forRun t g (xs.drop i) dsc = some o,
      ⟨xs.length, rfl, Nat.zero_le _, G1, F1, ds1, r1, s1, Same.refl _, fun _ _ => rfl, by simpa using e⟩, ?_⟩
    rintro i m σc Hc ⟨rfl, hi, Gc, Fc, dsc, rc, sc, gc, pc, ec⟩
    by_cases hlt : i < xs.length
    · refine .inr ⟨it.go i Hc (gc.trans rc.sub) hlt, fun σ' H' => ∃ m', m' < xs.length - i ∧ (m' = xs.length - (i + 1) ∧ i + 1 ≤ xs.length ∧ ∃ Gc Fc dsc, RS K R dsc σ' Gc H' Fc ∧ Step G H (fun a => ∃ j, F j a) Gc H' (fun a => ∃ j, Fc j a) ∧ Same G1 Gc ∧ (∀ j ∈ pn, σ'[j]? = σ[j]?) ∧ forRun t g (xs.drop (i + 1)) dsc = some o), fun σ' H' z => z, fun x H' y => ?_⟩
      obtain ⟨d, hd, grow⟩ := it.yld i Hc x H' (gc.trans rc.sub) hlt y
      obtain ⟨Ga, ga, dx⟩ := grow Gc gc rc.sub
      have ra := rc.grow ga
      have hdrop : xs.drop i = d :: xs.drop (i + 1) := by
        rw [List.drop_eq_getElem_cons hlt]
        rw [List.getElem?_eq_getElem hlt] at hd
        cases hd
        rfl
      rw [hdrop] at ec
      unfold forRun at ec
      cases et : t d with
      | none => rw [et] at ec; cases ec
      | some as =>
        rw [et] at ec
        simp only [Option.bind_some] at ec
        cases eb : g (setD dsc as) with
        | none => rw [eb] at ec; cases ec
        | some o1 =>
          rw [eb] at ec
          simp only [Option.bind_some] at ec
          refine ht x d as σc Ga H' _ ga.sub dx et fun ws aw => ?_
          obtain ⟨F2, r2, u2⟩ := ra.setAll aw
          have sa : Step G H (fun a => ∃ j, F j a) Ga H' (fun a => ∃ j, F2 j a) := (sc.trans ga.step).weaken u2
          have pa : ∀ j ∈ pn, (setAll σc ws)[j]? = σ[j]? := fun j hj => by
            rw [setAll_out (own := (as.map (·.1))) (fun z => ?_) (asgV_slots aw fun q hq => List.mem_map_of_mem hq)]
            · exact pc j hj
            · obtain ⟨q, hq, rfl⟩ := List.mem_map.mp z
              exact hp d as et q hq hj
          refine ⟨Ga, F2, setD dsc as, o1, r2, eb, ?_⟩
          have again : ∀ ds', forRun t g (xs.drop (i + 1)) ds' = some o → After K R pn (setAll σc ws) Ga H' (fun a => ∃ j, F2 j a) ds' (fun σ' H' => ∃ m', m' < xs.length - i ∧ (m' = xs.length - (i + 1) ∧ i + 1 ≤ xs.length ∧ ∃ Gc Fc dsc, RS K R dsc σ' Gc H' Fc ∧ Step G H (fun a => ∃ j, F j a) Gc H' (fun a => ∃ j, Fc j a) ∧ Same G1 Gc ∧ (∀ j ∈ pn, σ'[j]? = σ[j]?) ∧ forRun t g (xs.drop (i + 1)) dsc = some o)) :=
            fun ds' e' σ' G' H2 F' r' s' p' => ⟨xs.length - (i + 1), by omega, rfl, hlt, G', F', ds', r', sa.trans s', gc.trans (ga.keep.trans s'.keep), fun j hj => (p' j hj).trans (pa j hj), e'⟩
          cases o1 with
          | nx ds' => exact again ds' ec
          | ct ds' => exact again ds' ec
          | bk ds' => cases ec; exact After.shift k sa pa
          | rt m ds' => cases ec; exact SEnd.shift (Dn := Dn) (o := .rt m ds') k sa pa
    · have e' : i = xs.length := by omega
      subst e'
      rw [List.drop_length] at ec
      cases ec
      exact .inl ⟨it.stop _ Hc (gc.trans rc.sub) (Nat.le_refl _) (Nat.le_refl _), k σc Gc Hc Fc rc sc pc⟩
def whileRun (c : XF S Bool) (body : SF S) : Nat → SF S
  | 0, _ => none
  | n + 1, ds => (c ds).bind fun p => if p.1 then (body p.2).bind fun o => match o with
    | .nx ds' => whileRun c body n ds'
    | .ct ds' => whileRun c body n ds'
    | .bk ds' => some (.nx ds')
    | .rt m ds' => some (.rt m ds')
    else some (.nx p.2)
def gWhile (n : Nat) (c : XF S Bool) (body : SF S) : SF S := fun ds => whileRun c body n ds
theorem s_while {n : Nat} {c : XF S Bool} (w : tS K R pn (gWhile n c g) Dn σ H) : tWhile (tXT K R c) (tS K R pn g) Dn σ H := by
  obtain ⟨G, F, ds, o, r, e, k⟩ := w
  unfold gWhile at e
  refine ⟨fun m σc Hc => ∃ Gc Fc dsc, RS K R dsc σc Gc Hc Fc ∧ Step G H (fun a => ∃ j, F j a) Gc Hc (fun a => ∃ j, Fc j a) ∧ (∀ j ∈ pn, σc[j]? = σ[j]?) ∧ whileRun c g m dsc = some o, ⟨n, G, F, ds, r, .refl r.sub, fun _ _ => rfl, e⟩, ?_⟩
  rintro m σc Hc ⟨Gc, Fc, dsc, rc, sc, pc, ec⟩
  cases m with
  | zero => cases ec
  | succ m =>
    unfold whileRun at ec
    cases eb : c dsc with
    | none => rw [eb] at ec; cases ec
    | some p =>
      rw [eb] at ec
      simp only [Option.bind_some] at ec
      refine ⟨Gc, Fc, dsc, p.1, p.2, rc, eb, fun G' H' F' r' s' => ?_⟩
      cases hp : p.1 with
      | false =>
        rw [hp, if_neg Bool.false_ne_true] at ec
        cases ec
        exact iteF (k σc G' H' F' r' (sc.trans s') pc)
      | true =>
        rw [hp, if_pos rfl] at ec
        cases eo : g p.2 with
        | none => rw [eo] at ec; cases ec
        | some o1 =>
          rw [eo] at ec
          simp only [Option.bind_some] at ec
          refine iteT ⟨fun σ' H2 => ∃ m', m' < m + 1 ∧ ∃ Gc Fc dsc, RS K R dsc σ' Gc H2 Fc ∧ Step G H (fun a => ∃ j, F j a) Gc H2 (fun a => ∃ j, Fc j a) ∧ (∀ j ∈ pn, σ'[j]? = σ[j]?) ∧ whileRun c g m' dsc = some o, fun _ _ z => z, G', F', p.2, o1, r', eo, ?_⟩
          have again : ∀ ds', whileRun c g m ds' = some o → After K R pn σc G' H' (fun a => ∃ j, F' j a) ds' (fun σ' H2 => ∃ m', m' < m + 1 ∧ ∃ Gc Fc dsc, RS K R dsc σ' Gc H2 Fc ∧ Step G H (fun a => ∃ j, F j a) Gc H2 (fun a => ∃ j, Fc j a) ∧ (∀ j ∈ pn, σ'[j]? = σ[j]?) ∧ whileRun c g m' dsc = some o) :=
            fun ds' e' σ' G2 H2 F2 r2 s2 p2 => ⟨m, Nat.lt_succ_self _, G2, F2, ds', r2, (sc.trans s').trans s2, fun j hj => (p2 j hj).trans (pc j hj), e'⟩
          cases o1 with
          | nx ds' => exact again ds' ec
          | ct ds' => exact again ds' ec
          | bk ds' => cases ec; exact After.shift k (sc.trans s') pc
          | rt m ds' => cases ec; exact SEnd.shift (Dn := Dn) (o := .rt m ds') k (sc.trans s') pc
end

/-! ### several own things at once -/
inductive OwnAll {S : Type} (K : PySem.W.Frag) (R : StI S) (G H : Hp) : List V → List (MO S) → (Addr → Prop) → Prop
  | nil : OwnAll K R G H [] [] (fun _ => False)
  | cons {v : V} {m : MO S} {vs : List V} {ms : List (MO S)} {f1 f2 : Addr → Prop} : OwnAt K R G H v m f1 → OwnAll K R G H vs ms f2 → (∀ a, f1 a → ¬ f2 a) → OwnAll K R G H (v :: vs) (m :: ms) (fun a => f1 a ∨ f2 a)
section
variable {S : Type}
def tOA (K : PySem.W.Frag) (R : StI S) (f : XF S (List (MO S))) : TA := fun σ H Q => ∃ G F ds ms ds', RS K R ds σ G H F ∧ f ds = some (ms, ds') ∧
  ∀ vs G' H' F' fr, RS K R ds' σ G' H' F' → Step G H (fun a => ∃ i, F i a) G' H' (fun a => (∃ i, F' i a) ∨ fr a) → OwnAll K R G' H' vs ms fr → (∀ a, fr a → ¬ ∃ i, F' i a) → (∀ a, fr a → G' a = none) → Q vs H'
def oNil : XF S (List (MO S)) := fun ds => some ([], ds)
def oCons (f : XF S (MO S)) (r : XF S (List (MO S))) : XF S (List (MO S)) := xb f fun x => xb r fun xs => xlift (some (x :: xs))
variable {X : Cx} {R : StI S} {e : Expr} {es : List Expr} {pos : Pos}
theorem ao_nil : PA X [] (tOA X.K R (oNil (S := S))) := PA.imp pa_nil fun σ H Q ⟨G, F, ds, d, ds', rs, e, k⟩ => by
  cases e
  exact k [] G H F _ rs ⟨fun _ _ _ h => h, Same.refl _, rs.sub, fun _ h => .inl h, fun b h => h.elim .inl False.elim⟩ .nil (fun _ z => z.elim) fun _ z => z.elim
theorem ao_cons {f : XF S (MO S)} {fr : XF S (List (MO S))} (ha : PE X e (tO X.K R f)) (hr : PA X es (tOA X.K R fr)) (hs : starEach (e :: es) X.env = (false, eval e X.env) :: starEach es X.env := by rfl) : PA X (e :: es) (tOA X.K R (oCons f fr)) :=
  PA.imp (pa_cons ha hr hs) fun σ H Q ⟨G, F, ds, ms, ds', rs, e, k⟩ => by
    obtain ⟨x, ds1, ea, e⟩ := xb_some e
    obtain ⟨xs, ds2, eb, e⟩ := xb_some e
    obtain ⟨eg, e9⟩ := xlift_some e
    subst e9
    cases eg
    refine ⟨G, F, ds, x, ds1, rs, ea, fun v G1 H1 F1 f1 r1 s1 o1 d1 n1 => ?_⟩
    refine ⟨G1, F1, ds1, xs, _, r1, eb, fun vs G2 H2 F2 f2 r2 s2 o2 d2 n2 => ?_⟩
    have same : ∀ a, f1 a → H2 a = H1 a := fun a ha => by
      cases q : H1 a with
      | none => exact absurd q (o1.trk a ha)
      | some o => exact s2.frame a (d1 a ha) o q
    have old : ∀ a, f1 a → H1 a ≠ none := o1.trk
    have s2' : Step G1 H1 (fun a => (∃ i, F1 i a) ∨ f1 a) G2 H2 (fun a => (∃ i, F2 i a) ∨ (f1 a ∨ f2 a)) := by
      refine ⟨fun a ha o q => s2.frame a (fun z => ha (.inl z)) o q, s2.keep, s2.sub, fun b hb => ?_, fun b hb => ?_⟩
      · rcases s2.new0 b hb with z | z | z
        · exact .inl z
        · exact .inr (.inl z)
        · exact .inr (.inr (.inl z))
      · rcases hb with hb | hb | hb
        · exact (s2.newf b (.inl hb)).elim (fun z => .inl (.inl z)) .inr
        · exact .inl (.inr hb)
        · exact (s2.newf b (.inr hb)).elim (fun z => .inl (.inl z)) .inr
    have apart : ∀ a, f1 a → ¬ ((∃ i, F2 i a) ∨ f2 a) := fun a ha z => (s2.newf a z).elim (d1 a ha) (old a ha)
    refine k (v :: vs) G2 H2 F2 _ r2 (s1.trans s2') (.cons (o1.mono s2.keep same) o2 fun a ha z => apart a ha (.inr z)) (fun a ha z => ?_) fun a ha => ?_
    · rcases ha with ha | ha
      · exact apart a ha (.inl z)
      · exact d2 a ha z
    · rcases ha with ha | ha
      · cases q : G2 a with
        | none => rfl
        | some o =>
          rcases s2.new0 a (by rw [q]; simp) with z | z | z
          · exact absurd (n1 a ha) z
          · exact absurd z (old a ha)
          · exact absurd z (d1 a ha)
      · exact n2 a ha
variable {K : PySem.W.Frag} {pn : List Nat} {Dn : Ends} {σ : L2.St} {H : Hp}
def gPar2 (i j : Nat) (f : XF S (List (MO S))) : SF S := fun ds => (f ds).bind fun p => match p.1 with
  | [x, y] => some (.nx ((p.2.set i (some x)).set j (some y)))
  | _ => none
theorem s_par2 {i j : Nat} {f : XF S (List (MO S))} (hi : i ∉ pn) (hj : j ∉ pn) (w : tS K R pn (gPar2 i j f) Dn σ H) : tPar i j (tOA K R f) Dn σ H := by
  obtain ⟨G, F, ds, o, r, e, k⟩ := w
  unfold gPar2 at e
  cases ef : f ds with
  | none => rw [ef] at e; cases e
  | some p =>
    rw [ef] at e
    obtain ⟨ms, ds1⟩ := p
    match ms, e with
    | [x, y], e =>
      cases e
      refine ⟨G, F, ds, [x, y], ds1, r, ef, fun vs G' H' F' fr r' s o h1 h2 => ?_⟩
      cases o with
      | cons o1 o2 d1 =>
        cases o2 with
        | cons o2 o3 d2 =>
          cases o3
          rename_i f1 f2
          obtain ⟨F2, r2, u2⟩ := r'.seto i o1 (fun a ha => h1 a (.inl ha)) fun a ha => h2 a (.inl ha)
          obtain ⟨F3, r3, u3⟩ := r2.seto j o2 (fun a ha z => (u2 a z).elim (h1 a (.inr (.inl ha))) fun q => d1 a q (.inl ha)) fun a ha => h2 a (.inr (.inl ha))
          refine ⟨_, _, rfl, k _ G' H' F3 r3 (s.weaken fun a z => ?_) fun l hl => ?_⟩
          · rcases u3 a z with z | z
            · rcases u2 a z with z | z
              · exact .inl z
              · exact .inr (.inl z)
            · exact .inr (.inr (.inl z))
          · rw [List.getElem?_set_ne fun z => hj (by rw [z]; exact hl), List.getElem?_set_ne fun z => hi (by rw [z]; exact hl)]
def gPar3 (i j l : Nat) (f : XF S (List (MO S))) : SF S := fun ds => (f ds).bind fun p => match p.1 with
  | [x, y, z] => some (.nx (((p.2.set i (some x)).set j (some y)).set l (some z)))
  | _ => none
theorem s_par3 {i j l : Nat} {f : XF S (List (MO S))} (hi : i ∉ pn) (hj : j ∉ pn) (hl : l ∉ pn) (w : tS K R pn (gPar3 i j l f) Dn σ H) : tPar3 i j l (tOA K R f) Dn σ H := by
  obtain ⟨G, F, ds, o, r, e, k⟩ := w
  unfold gPar3 at e
  cases ef : f ds with
  | none => rw [ef] at e; cases e
  | some p =>
    rw [ef] at e
    obtain ⟨ms, ds1⟩ := p
    match ms, e with
    | [x, y, z], e =>
      cases e
      refine ⟨G, F, ds, [x, y, z], ds1, r, ef, fun vs G' H' F' fr r' s o h1 h2 => ?_⟩
      cases o with
      | cons o1 o2 d1 =>
        cases o2 with
        | cons o2 o3 d2 =>
          cases o3 with
          | cons o3 o4 d3 =>
            cases o4
            obtain ⟨F2, r2, u2⟩ := r'.seto i o1 (fun a ha => h1 a (.inl ha)) fun a ha => h2 a (.inl ha)
            obtain ⟨F3, r3, u3⟩ := r2.seto j o2 (fun a ha z => (u2 a z).elim (h1 a (.inr (.inl ha))) fun q => d1 a q (.inl ha)) fun a ha => h2 a (.inr (.inl ha))
            obtain ⟨F4, r4, u4⟩ := r3.seto l o3 (fun a ha z => by
              rcases u3 a z with z | z
              · rcases u2 a z with z | z
                · exact h1 a (.inr (.inr (.inl ha))) z
                · exact d1 a z (.inr (.inl ha))
              · exact d2 a z (.inl ha)) fun a ha => h2 a (.inr (.inr (.inl ha)))
            refine ⟨_, _, _, rfl, k _ G' H' F4 r4 (s.weaken fun a z => ?_) fun q hq => ?_⟩
            · rcases u4 a z with z | z
              · rcases u3 a z with z | z
                · rcases u2 a z with z | z
                  · exact .inl z
                  · exact .inr (.inl z)
                · exact .inr (.inr (.inl z))
              · exact .inr (.inr (.inr (.inl z)))
            · rw [List.getElem?_set_ne fun z => hl (by rw [z]; exact hq), List.getElem?_set_ne fun z => hj (by rw [z]; exact hq), List.getElem?_set_ne fun z => hi (by rw [z]; exact hq)]
end

/-! ### the own lists changed in place -/
section
variable {S : Type} {K : PySem.W.Frag} {R : StI S} {G H : Hp} {ds : DS S} {σ : L2.St} {F : Nat → Addr → Prop}
def lstAt (ds : DS S) (i : Nat) : Option (List D) := match ds[i]? with
  | some (some (.lst xs)) => some xs
  | _ => none
theorem lstAt_some {i : Nat} {xs : List D} (h : lstAt ds i = some xs) : ds[i]? = some (some (.lst xs)) := by
  unfold lstAt at h
  split at h
  · cases h; assumption
  · cases h
/-- the list in slot i becomes ys -/
theorem RS.write (r : RS K R ds σ G H F) {i : Nat} {xs ys : List D} {p : Addr} {ws : List V} (e : ds[i]? = some (some (.lst xs))) (hp : σ[i]? = some (some (.ref p))) (hF : ∀ a, F i a ↔ a = p) (z : ws.length ≤ sizeLine) (d : DenAll K G ws ys) :
    RS K R (ds.set i (some (.lst ys))) σ G (upd H p (.lst ws)) F ∧ Step G H (fun a => ∃ j, F j a) G (upd H p (.lst ws)) (fun a => ∃ j, F j a) := by
  have hi : i < ds.length := (List.getElem?_eq_some_iff.mp e).1
  have hg : G p = none := r.dis i p ((hF p).mpr rfl)
  have sub : Same G (upd H p (.lst ws)) := fun b u q => by rw [upd_ne (ne_of_none q hg)]; exact r.sub b u q
  refine ⟨⟨sub, by rw [List.length_set]; exact r.len, fun j m q => ?_, fun j q => ?_, r.dj, r.dis⟩, ⟨fun a ha o q => ?_, Same.refl _, sub, fun b hb => .inl hb, fun b hb => .inl hb⟩⟩
  · by_cases hj : i = j
    · subst hj
      rw [List.getElem?_set_self hi] at q
      cases q
      exact ⟨_, hp, p, ws, rfl, upd_same, z, d, hF⟩
    · rw [List.getElem?_set_ne hj] at q
      obtain ⟨v, h1, h2⟩ := r.own j m q
      exact ⟨v, h1, h2.mono (Same.refl _) fun a ha => upd_ne fun q' => hj (r.dj i j a ((hF a).mpr q') ha)⟩
  · by_cases hj : i = j
    · subst hj
      exact absurd (List.getElem?_set_self hi) (q _)
    · rw [List.getElem?_set_ne hj] at q
      exact r.emp j q
  · rw [upd_ne fun q' => ha ⟨i, (hF a).mpr q'⟩]; exact q
variable {X : Cx} {a e : Expr} {es : List Expr} {apos cpos : Pos}
/-- x.append(e), x.insert(..), x.pop(..): the method's rule changes the list in slot i -/
def MtD (K : PySem.W.Frag) (r : V → List V → Hp → VK → Prop) (g : List D → List D → Option (D × List D)) : Prop := ∀ p vs xs as ws d ys G H (Q : VK), Same G H → H p = some (.lst vs) → G p = none → vs.length ≤ sizeLine → DenAll K G vs xs → DenAll K G ws as → g xs as = some (d, ys) →
  (∀ v us, us.length ≤ sizeLine → DenAll K G us ys → Den K G v d → Q v (upd H p (.lst us))) → r (.ref p) ws H Q
def xMt (i : Nat) (g : List D → List D → Option (D × List D)) (f : XF S (List D)) : XF S D := fun ds0 => (lstAt ds0 i).bind fun _ => xb f (fun as => fun ds => (lstAt ds i).bind fun xs => (g xs as).map fun q => (q.1, ds.set i (some (.lst q.2)))) ds0
theorem x_mt {i : Nat} {r : V → List V → Hp → VK → Prop} {g : List D → List D → Option (D × List D)} {f : XF S (List D)} (hr : MtD K r g) {Q : VK} (hty : ∀ p vs (H : Hp), H p = some (.lst vs) → tyV K "list" (.ref p) H) (w : tX K R (xMt i g f) σ H Q) : tBM K "list" r (tVar i) (tXA K R f) σ H Q := by
  obtain ⟨G, F, ds, d, ds', rs, e, k⟩ := w
  unfold xMt at e
  cases e0 : lstAt ds i with
  | none => rw [e0] at e; cases e
  | some ys =>
  rw [e0, Option.bind_some] at e
  obtain ⟨as, ds1, ea, e⟩ := xb_some e
  cases el : lstAt ds1 i with
  | none => rw [el] at e; cases e
  | some xs =>
    rw [el] at e
    simp only [Option.bind_some] at e
    cases eg : g xs as with
    | none => rw [eg] at e; cases e
    | some q =>
      rw [eg] at e
      cases e
      obtain ⟨v0, hv0, p0, vs0, rfl, hp0, _⟩ := rs.own i _ (lstAt_some e0)
      refine ⟨_, hv0, hty p0 vs0 H hp0, G, F, ds, as, ds1, rs, ea, fun ws G1 H1 F1 r1 s1 dw => ?_⟩
      obtain ⟨v1, hv1, p1, vs1, rfl, hp1, z1, d1, f1⟩ := r1.own i _ (lstAt_some el)
      rw [hv0] at hv1
      cases hv1
      have hg1 : G1 p0 = none := r1.dis i p0 ((f1 p0).mpr rfl)
      refine hr p0 vs1 xs as ws q.1 q.2 G1 H1 Q r1.sub hp1 hg1 z1 d1 dw eg fun v us zu du dv => ?_
      obtain ⟨r2, s2⟩ := r1.write (lstAt_some el) hv0 f1 zu du
      exact k v G1 _ F1 r2 (s1.trans s2) dv
def appD (xs as : List D) : Option (D × List D) := match as with
  | [x] => if xs.length < sizeLine then some (.none, xs ++ [x]) else none
  | _ => none
theorem d_app : MtD K rAppend appD := by
  intro p vs xs as ws d ys G H Q s hp hg z dx dw e k
  match as, e with
  | [x], e =>
    simp only [appD] at e
    split at e
    · cases e
      rename_i hz
      match ws, dw with
      | [w], .cons dw .nil => exact ⟨p, vs, w, rfl, rfl, hp, by rw [dx.length]; exact hz, k _ (vs ++ [w]) (by rw [List.length_append, dx.length]; exact hz) (dx.append (.cons dw .nil)) .non⟩
    · cases e
def popAtD (xs as : List D) : Option (D × List D) := match as with
  | [.int i] => if -(2 ^ 63) ≤ i ∧ i < 2 ^ 63 then (seqIndex? i xs.length).bind fun k => xs[k]?.map fun x => (x, xs.eraseIdx k) else none
  | _ => none
theorem d_popAt : MtD K rPopAt popAtD := by
  intro p vs xs as ws d ys G H Q s hp hg z dx dw e k
  match as, e with
  | [.int i], e =>
    simp only [popAtD] at e
    split at e
    · rename_i hi
      cases ek : seqIndex? i xs.length with
      | none => rw [ek] at e; cases e
      | some j =>
        rw [ek] at e
        simp only [Option.bind_some] at e
        cases ex : xs[j]? with
        | none => rw [ex] at e; cases e
        | some x =>
          rw [ex] at e
          cases e
          match ws, dw with
          | _, .cons (.int _) .nil =>
            obtain ⟨v, hv, dv⟩ := dx.get ex
            exact ⟨p, vs, i, j, v, rfl, rfl, hp, hi.1, hi.2, by rw [dx.length]; exact ek, hv, k v (vs.eraseIdx j) (Nat.le_trans (len_erase _ _) z) (dx.erase j) dv⟩
    · cases e
def extD (xs as : List D) : Option (D × List D) := match as with
  | [.list ys] => if xs.length + ys.length ≤ sizeLine then some (.none, xs ++ ys) else none
  | _ => none
theorem d_ext : MtD K rExtend extD := by
  intro p vs xs as ws d ys G H Q s hp hg z dx dw e k
  match as, e with
  | [.list zs], e =>
    simp only [extD] at e
    split at e
    · cases e
      rename_i hz
      match ws, dw with
      | _, .cons (.lst q z2 r) .nil =>
        exact ⟨p, _, vs, _, rfl, rfl, hp, s _ _ q, by rw [dx.length, r.length]; exact hz, k _ (vs ++ _) (by rw [List.length_append, dx.length, r.length]; exact hz) (dx.append r) .non⟩
    · cases e
/-- found[i] = e -/
def gSetI (j : Nat) (f : XF S D) (gi : DS S → Option D) : SF S := fun ds => (f ds).bind fun p => (gi p.2).bind fun i => match i with
  | .int n => (lstAt p.2 j).bind fun xs => (ixN xs.length n).map fun k => .nx (p.2.set j (some (.lst (xs.set k p.1))))
  | _ => none
theorem s_setI {pn : List Nat} {Dn : Ends} {j : Nat} {f : XF S D} {gi : DS S → Option D} (w : tS K R pn (gSetI j f gi) Dn σ H) : tAsg (tX K R f) (gSub (tVar j) (tP K gi) rSetL) Dn σ H := by
  obtain ⟨G, F, ds, o, r, e, k⟩ := w
  unfold gSetI at e
  cases ef : f ds with
  | none => rw [ef] at e; cases e
  | some p =>
    rw [ef] at e
    simp only [Option.bind_some] at e
    cases eg : gi p.2 with
    | none => rw [eg] at e; cases e
    | some i =>
      rw [eg] at e
      simp only [Option.bind_some] at e
      match i, eg, e with
      | .int n, eg, e =>
        dsimp only at e
        cases el : lstAt p.2 j with
        | none => rw [el] at e; cases e
        | some xs =>
          rw [el] at e
          simp only [Option.bind_some] at e
          cases ek : ixN xs.length n with
          | none => rw [ek] at e; cases e
          | some q =>
            rw [ek] at e
            cases e
            refine ⟨G, F, ds, p.1, p.2, r, ef, fun v G1 H1 F1 r1 s1 d1 => ?_⟩
            obtain ⟨v1, hv1, p1, vs1, rfl, hp1, z1, dx1, f1⟩ := r1.own j _ (lstAt_some el)
            refine ⟨_, hv1, shown p.2 G1 H1 F1, p.2, .int n, shown_sub r1.sub, r1.show, eg, fun u B H2 g2 d2 => ?_⟩
            cases d2
            have gr := unshown_gr r1 g2
            have r2 := r1.grow gr
            have hp2 : H2 p1 = some (.lst vs1) := g2.all _ _ hp1
            obtain ⟨r3, s3⟩ := r2.write (ws := vs1.set q v) (ys := xs.set q p.1) (lstAt_some el) hv1 f1 (by rw [List.length_set]; exact z1) ((dx1.mono gr.keep).set (d1.mono gr.keep) q)
            refine ⟨p1, vs1, n, q, rfl, rfl, hp2, by rw [dx1.length]; exact ek, ?_⟩
            exact k σ _ _ F1 r3 ((s1.trans gr.step).trans s3) fun _ _ => rfl
end
end DL
set_option Elab.async false
set_option linter.all false
set_option maxRecDepth 100000
set_option maxHeartbeats 4000000
namespace DL
open PySem PySem.Spec PyProof.Rows L2

/-! ### a def's promise where no repr is under way -/
structure FnG (P : Program) (w : World) (K : PySem.W.Frag) (mg : Str → Option Value) (base : Heap) (C : CXT) (k : Nat) (f : Addr) (fd : FuncData) (ps : List Str) (sp : Sp) : Prop where
  len : ∀ vs H Q E, sp vs H Q E → vs.length = ps.length
  run : ∀ (A : Around) (outer : List Env) (s : Shared) (H : Hp) (args : Args) (us : List Value) (vs : List V) (Q : VK) (E : XK), Room k A → A.guards = some [] → Env0 P w K mg base A outer s H → BindsTo s fd args (ps.zip us) → Vals vs us → sp vs H Q E →
    codeAny (model P w) A (.call (.ref f) args) (CR C outer P w H s Q E) s
theorem FnG.up {P : Program} {w : World} {K : PySem.W.Frag} {mg : Str → Option Value} {base : Heap} {C : CXT} {j k : Nat} {f : Addr} {fd : FuncData} {ps : List Str} {sp : Sp} (F : FnG P w K mg base C j f fd ps sp) (h : j ≤ k) : FnG P w K mg base C k f fd ps sp :=
  ⟨F.len, fun A outer s H args us vs Q E hr => F.run A outer s H args us vs Q E (hr.mono h)⟩
theorem FnG.ofOk {P : Program} {w : World} {K : PySem.W.Frag} {mg : Str → Option Value} {base : Heap} {C : CXT} {k : Nat} {f : Addr} {fd : FuncData} {ps : List Str} {sp : Sp} (F : FnOk P w K mg base C k f fd ps sp) : FnG P w K mg base C k f fd ps sp :=
  ⟨F.len, fun A outer s H args us vs Q E hr _ => F.run A outer s H args us vs Q E hr⟩
theorem FnG.imp {P : Program} {w : World} {K : PySem.W.Frag} {mg : Str → Option Value} {base : Heap} {C : CXT} {k : Nat} {f : Addr} {fd : FuncData} {ps : List Str} {sp sp' : Sp} (F : FnG P w K mg base C k f fd ps sp) (h : ∀ vs H Q E, sp' vs H Q E → sp vs H Q E) : FnG P w K mg base C k f fd ps sp' :=
  ⟨fun vs H Q E q => F.len vs H Q E (h _ _ _ _ q), fun A outer s H args us vs Q E hr hg he hb hv hs => F.run A outer s H args us vs Q E hr hg he hb hv (h _ _ _ _ hs)⟩
section
variable {X : Cx} {C : CXT} {k : Nat} {f : Addr} {fd : FuncData} {ps : List Str} {sp : Sp} {E : XK} {x : Str} {p pos : Pos} {e : Expr} {es : List Expr} {t : TA}
theorem runG {pins : List (Addr × Obj)} {σ : L2.St} {H : Hp} {s : Shared} {Q : VK} {us : List Value} {vs : List V} (F : FnG X.prog X.w X.K X.mg X.base C k f fd ps sp) (hr : Room k X.A) (hgd : X.A.guards = some []) (hb : Binds X.K fd ps []) (hx : Passes C X E)
    (I : Inv X pins σ H s) (r : Vals vs us) (h : sp vs H Q E) : wpAny (model X.prog X.w) X.A (call (.ref f) us) (EP X pins σ Q) X.xe s := by
  have hz : (us ++ ([] : List Value)).length = ps.length := by
    rw [List.append_nil, ← r.length]
    exact F.len _ _ _ _ h
  have hbind := hb s us I.kIn hz
  rw [List.append_nil] at hbind
  have go := F.run X.A X.stack s H ⟨us, []⟩ us vs Q E hr hgd I.env0 hbind r h
  refine wpAny_call (codeAny_mono go fun res s2 hq => ?_)
  match res, hq with
  | .error er, hq => exact hx pins σ H s er s2 I hq
  | .ok (.ret u), hq => exact I.after hq
  | .ok .next, hq => exact hq.elim
  | .ok .brk, hq => exact hq.elim
  | .ok .cont, hq => exact hq.elim
theorem pe_callG (F : FnG X.prog X.w X.K X.mg X.base C k f fd ps sp) (hr : Room k X.A) (hgd : X.A.guards = some []) (hg : Gl X x) (hm : X.mg x = some (.ref f)) (hk : PySem.W.keepIn X.K (.ref f) = true) (hb : Binds X.K fd ps []) (hx : Passes C X E)
    (ha : PA X (e :: es) t) (hdb : (x == ("__debug__" : Str)) = false := by decide) (he : starEach (e :: es) X.env = (false, eval e X.env) :: starEach es X.env := by rfl) (hpl : (backTo pos (starEach es X.env)).any (·.1) = false := by rfl) :
    PE X (.Call (.Name x p) (e :: es) [] pos) (tCall sp [] E t) :=
  ⟨fun pins s σ H Q I h => wpAny_Call_Name_kw (ld_glob I hg hm (PySem.W.callWith_K (h₀ := X.base) I.ok.mod.kin hk
    (thn (ha.run pos pins s σ H _ I h) fun us s1 ⟨vs, H1, I1, r, q⟩ => ⟨I1.kIn, runG F hr hgd hb hx I1 r (by have q2 : sp (vs ++ []) H1 Q E := q; rw [List.append_nil] at q2; exact q2)⟩) he hpl) hdb)⟩
end

/-- a def's body keeps the promise -/
theorem fnG_of {P : Program} {w : World} {K : PySem.W.Frag} {mg : Str → Option Value} {base : Heap} {x qual : Str} {st : Stmt} {f : Addr} {fd : FuncData} {N ps : List Str} {k : Nat} {sp : Sp} (Fn : Fun K x qual st f fd) (sc : FnScope N ps (defScope st))
    (len : ∀ vs H Q E, sp vs H Q E → vs.length = ps.length)
    (hbody : ∀ (cdv : Value) (A : Around) (outer : List Env) (s : Shared) (H : Hp) (vs : List V) (Q : VK) (E : XK), Room k (A.deeper (envOfC qual (defScope st) s.heap.objs.size f cdv)) → (A.deeper (envOfC qual (defScope st) s.heap.objs.size f cdv)).guards = some [] → sp vs H Q E →
      ∃ t, PSs (cxOf CX0 P w K mg base N qual (defScope st) f cdv A outer s H E).nox (defBody st) t ∧ t { nx := fun _ H' => Q .non H', rt := Q } (L2.start N vs) H) : FnG P w K mg base CX0 (k + 1) f fd ps sp := by
  refine ⟨len, fun A outer s H args us vs Q E hr hgd e0 hb r hsp => ?_⟩
  obtain ⟨oc, od, kV, doc, pm, an, cdv, ct, osl, rfl, lk, hcd⟩ := Fn.ex
  have inK : K.In s.heap := e0.mod.kin.keeps fun b o q => (e0.bs b o q).1
  have noLim : s.heap.NoLimit := e0.mod.nolimit.keeps fun b o q => (e0.bs b o q).1
  have kinds : ∀ y ∈ ps.zip us, (defScope st).names.lookup y.1 = some .local ∨ ((defScope st).names.lookup y.1 = some .cell ∧ ((cellsFrom (s.heap.objs.size + 1) (defScope st).names []).lookup y.1).isSome = true) := by
    rintro ⟨n, v⟩ hy
    exact (sc.par n (List.of_mem_zip hy).1).elim .inl fun q => .inr ⟨q, PySem.W.cellsFrom_some _ _ _ (.inl q)⟩
  refine codeAny_call_function hr.depth (inK _ _ lk) rfl sc.co sc.gen rfl (PySem.W.codeRec_of inK hcd) (hb _ _ _ _ (wpAny_newFunctionEnv_cells sc.kind kinds fun env he s1 hin => ?_))
  subst he
  refine ⟨noLim.keeps hin.toInCall.keep, codeAny_func ?_⟩
  obtain ⟨t, ht, hq⟩ := hbody cdv A outer s H vs Q E (hr.deeper _) (by first | exact hgd | (simpa [Around.deeper] using hgd)) hsp
  have I0 : Inv (cxOf CX0 P w K mg base N qual (defScope st) f cdv A outer s H E) [] (L2.start N vs) H s1 := inv_start sc hr.hd e0 (len _ _ _ _ hsp) r hin
  have ends : ∀ {σ' : L2.St} {H' : Hp} {v : V} {u : Value} {s' : Shared}, Inv (cxOf CX0 P w K mg base N qual (defScope st) f cdv A outer s H E) [] σ' H' s' → RelV v u → Q v H' → CE outer P w H s Q u s' := fun J rv q => ⟨_, _, J.os, J.bare, J.base, J.hok, rv, q⟩
  refine wpAny_mono (ht.nox.run [] s1 (L2.start N vs) H _ I0 hq) (fun fl s' hs => ?_) fun _ _ z => z
  match fl, hs with
  | .ret u, ⟨v, σ', H', J, rv, q⟩ => exact ends J rv q
  | .next, ⟨σ', H', J, q⟩ => exact ends (v := V.non) (u := Value.none) J rfl q
  | .brk, ⟨_, _, _, q⟩ => exact q.elim
  | .cont, ⟨_, _, _, q⟩ => exact q.elim

/-! ### promises on data -/
section
variable {S : Type}
/-- a def that only reads data -/
def spP (K : PySem.W.Frag) (R : StI S) (n : Nat) (F : List D → Option (MO S)) : Sp := fun vs H Q _ => vs.length = n ∧ ∃ G as m, Same G H ∧ DenAll K G vs as ∧ F as = some m ∧
  ∀ v G' H' fr, Step G H (fun _ => False) G' H' fr → OwnAt K R G' H' v m fr → (∀ a, fr a → G' a = none) → Q v H'
/-- a def whose first argument is the draws' state -/
def spS (K : PySem.W.Frag) (R : StI S) (n : Nat) (F : S → List D → Option (MO S × S)) : Sp := fun vs H Q _ => vs.length = n ∧ ∃ G fp v0 vr s as m s', vs = v0 :: vr ∧ Same G H ∧ R.rel H v0 s fp ∧ (∀ a, fp a → G a = none) ∧ DenAll K G vr as ∧ F s as = some (m, s') ∧
  ∀ v G' H' fp' fr, Step G H fp G' H' (fun a => fp' a ∨ fr a) → R.rel H' v0 s' fp' → OwnAt K R G' H' v m fr → (∀ a, fr a → ¬ fp' a) → (∀ a, fp' a ∨ fr a → G' a = none) → Q v H'
/-- a def whose first argument is the script -/
def spC (K : PySem.W.Frag) (R : StI S) (n : Nat) (F : List Int → List D → Option (MO S)) : Sp := fun vs H Q _ => vs.length = n ∧ ∃ G a vr ns as m, vs = .ref a :: vr ∧ Same G H ∧ SqL K G a (ns.map V.int) ∧ DenAll K G vr as ∧ F ns as = some m ∧
  ∀ v G' H' fr, Step G H (fun _ => False) G' H' fr → OwnAt K R G' H' v m fr → (∀ a, fr a → G' a = none) → Q v H'
def startD (n : Nat) (as : List (MO S)) : DS S := as.map some ++ List.replicate (n - as.length) none
def outM : Out S → Option (MO S × DS S)
  | .rt m ds => some (m, ds)
  | .nx ds => some (.d .none, ds)
  | _ => none
def stAt (ds : DS S) (i : Nat) : Option S := match ds[i]? with
  | some (some (.st s)) => some s
  | _ => none
theorem stAt_some {ds : DS S} {i : Nat} {s : S} (h : stAt ds i = some s) : ds[i]? = some (some (.st s)) := by
  unfold stAt at h
  split at h
  · cases h; assumption
  · cases h
def runP (n : Nat) (g : SF S) : List D → Option (MO S) := fun as => (g (startD n (as.map .d))).bind fun o => (outM o).map (·.1)
def runS (n : Nat) (g : SF S) : S → List D → Option (MO S × S) := fun s as => (g (startD n (.st s :: as.map .d))).bind fun o => (outM o).bind fun p => (stAt p.2 0).map fun s' => (p.1, s')
def runC (n : Nat) (g : SF S) : List Int → List D → Option (MO S) := fun ns as => (g (startD n (.scr ns :: as.map .d))).bind fun o => (outM o).map (·.1)

variable {K : PySem.W.Frag} {R : StI S} {G H : Hp}
inductive ArgOk (K : PySem.W.Frag) (R : StI S) (G H : Hp) : List V → List (MO S) → (Nat → Addr → Prop) → Prop
  | mk {vs : List V} {ms : List (MO S)} {F : Nat → Addr → Prop} : vs.length = ms.length → (∀ (i : Nat) m, ms[i]? = some m → ∃ v, vs[i]? = some v ∧ OwnAt K R G H v m (F i)) → (∀ (i : Nat), ms.length ≤ i → ∀ a, ¬ F i a) → (∀ i j a, F i a → F j a → i = j) → (∀ i a, F i a → G a = none) → ArgOk K R G H vs ms F
theorem rs_start {N : List Str} {vs : List V} {ms : List (MO S)} {F : Nat → Addr → Prop} (s : Same G H) (h : ArgOk K R G H vs ms F) : RS K R (startD N.length ms) (L2.start N vs) G H F := by
  obtain ⟨hl, h1, h2, h3, h4⟩ := h
  have gd : ∀ i, (startD N.length ms)[i]? = if i < ms.length then ms[i]?.map some else if i < ms.length + (N.length - ms.length) then some none else none := fun i => by
    unfold startD
    by_cases hi : i < ms.length
    · rw [List.getElem?_append_left (by simpa using hi), if_pos hi, List.getElem?_map]
    · rw [List.getElem?_append_right (by simpa using hi), if_neg hi, List.getElem?_replicate]
      simp only [List.length_map]
      by_cases h2 : i - ms.length < N.length - ms.length
      · rw [if_pos h2, if_pos (by omega)]
      · rw [if_neg h2, if_neg (by omega)]
  refine ⟨s, ?_, fun i m e => ?_, fun i e a ha => ?_, h3, h4⟩
  · unfold startD L2.start
    simp only [List.length_append, List.length_map, List.length_replicate, hl]
  · rw [gd] at e
    by_cases hi : i < ms.length
    · rw [if_pos hi] at e
      cases q : ms[i]? with
      | none => rw [q] at e; cases e
      | some m' =>
        rw [q] at e
        cases e
        obtain ⟨v, hv, o⟩ := h1 i m q
        refine ⟨v, ?_, o⟩
        unfold L2.start
        rw [List.getElem?_append_left (by simpa [hl] using hi), List.getElem?_map, hv]
        rfl
    · rw [if_neg hi] at e
      split at e <;> cases e
  · by_cases hi : i < ms.length
    · have q : ms[i]? = some ms[i] := List.getElem?_eq_getElem hi
      exact e ms[i] (by rw [gd, if_pos hi, q]; rfl)
    · exact h2 i (by omega) a ha
theorem argOk_data {vs : List V} {as : List D} (d : DenAll K G vs as) : ArgOk K R G H vs (as.map .d) (fun _ _ => False) := by
  refine .mk (by rw [List.length_map, d.length]) (fun i m e => ?_) (fun _ _ _ z => z) (fun _ _ _ z => z.elim) fun _ _ z => z.elim
  rw [List.getElem?_map] at e
  cases q : as[i]? with
  | none => rw [q] at e; cases e
  | some x =>
    rw [q] at e
    cases e
    obtain ⟨v, h1, h2⟩ := d.get q
    exact ⟨v, h1, h2, fun _ z => z⟩
theorem argOk_first {v0 : V} {m0 : MO S} {vr : List V} {as : List D} {fp : Addr → Prop} (o : OwnAt K R G H v0 m0 fp) (n : ∀ a, fp a → G a = none) (d : DenAll K G vr as) : ArgOk K R G H (v0 :: vr) (m0 :: as.map .d) (fun i a => i = 0 ∧ fp a) := by
  refine .mk (by simp [d.length]) (fun i m e => ?_) (fun i hi a z => ?_) (fun i j a z1 z2 => by rw [z1.1, z2.1]) fun i a z => n a z.2
  · cases i with
    | zero => cases e; exact ⟨v0, rfl, o.iff fun a => ⟨fun z => z.2, fun z => ⟨rfl, z⟩⟩⟩
    | succ i =>
      have e' : (as.map (MO.d (S := S)))[i]? = some m := by simpa using e
      rw [List.getElem?_map] at e'
      cases q : as[i]? with
      | none => rw [q] at e'; cases e'
      | some x =>
        rw [q] at e'
        cases e'
        obtain ⟨v, h1, h2⟩ := d.get q
        exact ⟨v, by simpa using h1, h2, fun a z => by cases z.1⟩
  · rw [z.1] at hi
    simp at hi

section
variable {P : Program} {w : World} {mg : Str → Option Value} {base : Heap} {x qual : Str} {st : Stmt} {f : Addr} {fd : FuncData} {N ps : List Str} {k : Nat} {g : SF S}
abbrev BodyOk (P : Program) (w : World) (K : PySem.W.Frag) (mg : Str → Option Value) (base : Heap) (N : List Str) (qual : Str) (st : Stmt) (f : Addr) (k : Nat) (R : StI S) (pn : List Nat) (g : SF S) : Prop :=
  ∀ (cdv : Value) (A : Around) (outer : List Env) (s : Shared) (H : Hp) (E : XK), Room k (A.deeper (envOfC qual (defScope st) s.heap.objs.size f cdv)) → (A.deeper (envOfC qual (defScope st) s.heap.objs.size f cdv)).guards = some [] →
    PSs (cxOf CX0 P w K mg base N qual (defScope st) f cdv A outer s H E).nox (defBody st) (tS K R pn g)
theorem fn_P (Fn : Fun K x qual st f fd) (sc : FnScope N ps (defScope st)) (hbody : BodyOk P w K mg base N qual st f k R [] g) : FnG P w K mg base CX0 (k + 1) f fd ps (spP K R ps.length (runP N.length g)) := by
  refine fnG_of Fn sc (fun vs H Q E h => h.1) fun cdv A outer s H vs Q E hr hgd h => ⟨_, hbody cdv A outer s H E hr hgd, ?_⟩
  obtain ⟨hl, G, as, m, sm, d, e, q⟩ := h
  unfold runP at e
  cases eg : g (startD N.length (as.map .d)) with
  | none => rw [eg] at e; cases e
  | some o =>
    rw [eg] at e
    have r := rs_start (N := N) sm (argOk_data (R := R) (H := H) d)
    refine ⟨G, _, _, o, r, eg, ?_⟩
    have nf : ∀ {G' H' : Hp} {P' : Addr → Prop}, Step G H (fun a => ∃ (i : Nat), False) G' H' P' → Step G H (fun _ => False) G' H' P' := fun s => ⟨fun a _ o e => s.frame a (fun ⟨_, z⟩ => z) o e, s.keep, s.sub, fun b hb => by
      rcases s.new0 b hb with z | z | ⟨_, z⟩
      · exact .inl z
      · exact .inr (.inl z)
      · exact z.elim, fun b hb => (s.newf b hb).elim (fun ⟨_, z⟩ => z.elim) .inr⟩
    cases o with
    | nx ds' =>
      cases e
      exact fun σ' G' H' F' r' s' _ => q .non G' H' (fun _ => False) ((nf s').weaken fun _ z => z.elim) ⟨.non, fun _ z => z⟩ fun _ z => z.elim
    | rt m' ds' =>
      cases e
      exact fun v σ' G' H' F' fr r' s' o' h1 h2 _ => q v G' H' fr ((nf s').weaken fun _ z => .inr z) o' h2
    | bk ds' => cases e
    | ct ds' => cases e
theorem fn_C (Fn : Fun K x qual st f fd) (sc : FnScope N ps (defScope st)) (hbody : BodyOk P w K mg base N qual st f k R [] g) : FnG P w K mg base CX0 (k + 1) f fd ps (spC K R ps.length (runC N.length g)) := by
  refine fnG_of Fn sc (fun vs H Q E h => h.1) fun cdv A outer s H vs Q E hr hgd h => ⟨_, hbody cdv A outer s H E hr hgd, ?_⟩
  obtain ⟨hl, G, a0, vr, ns, as, m, rfl, sm, sq, d, e, q⟩ := h
  unfold runC at e
  cases eg : g (startD N.length (.scr ns :: as.map .d)) with
  | none => rw [eg] at e; cases e
  | some o =>
    rw [eg] at e
    have r := rs_start (N := N) sm (argOk_first (R := R) (H := H) (v0 := .ref a0) (m0 := .scr ns) (fp := fun _ => False) ⟨⟨a0, rfl, sq⟩, fun _ z => z⟩ (fun _ z => z.elim) d)
    refine ⟨G, _, _, o, r, eg, ?_⟩
    have nf : ∀ {G' H' : Hp} {P' : Addr → Prop}, Step G H (fun a => ∃ (i : Nat), i = 0 ∧ False) G' H' P' → Step G H (fun _ => False) G' H' P' := fun s => ⟨fun a _ o e => s.frame a (fun ⟨_, _, z⟩ => z) o e, s.keep, s.sub, fun b hb => by
      rcases s.new0 b hb with z | z | ⟨_, _, z⟩
      · exact .inl z
      · exact .inr (.inl z)
      · exact z.elim, fun b hb => (s.newf b hb).elim (fun ⟨_, _, z⟩ => z.elim) .inr⟩
    cases o with
    | nx ds' =>
      cases e
      exact fun σ' G' H' F' r' s' _ => q .non G' H' (fun _ => False) ((nf s').weaken fun _ z => z.elim) ⟨.non, fun _ z => z⟩ fun _ z => z.elim
    | rt m' ds' =>
      cases e
      exact fun v σ' G' H' F' fr r' s' o' h1 h2 _ => q v G' H' fr ((nf s').weaken fun _ z => .inr z) o' h2
    | bk ds' => cases e
    | ct ds' => cases e
theorem fn_S (Fn : Fun K x qual st f fd) (sc : FnScope N ps (defScope st)) (hbody : BodyOk P w K mg base N qual st f k R [0] g) : FnG P w K mg base CX0 (k + 1) f fd ps (spS K R ps.length (runS N.length g)) := by
  refine fnG_of Fn sc (fun vs H Q E h => h.1) fun cdv A outer s H vs Q E hr hgd h => ⟨_, hbody cdv A outer s H E hr hgd, ?_⟩
  obtain ⟨hl, G, fp, v0, vr, t, as, m, t', rfl, sm, rel, nn, d, e, q⟩ := h
  unfold runS at e
  cases eg : g (startD N.length (.st t :: as.map .d)) with
  | none => rw [eg] at e; cases e
  | some o =>
    rw [eg] at e
    simp only [Option.bind_some] at e
    have r := rs_start (N := N) sm (argOk_first (R := R) (H := H) (v0 := v0) (m0 := .st t) (fp := fp) rel nn d)
    refine ⟨G, _, _, o, r, eg, ?_⟩
    have nf : ∀ {G' H' : Hp} {P' : Addr → Prop}, Step G H (fun a => ∃ (i : Nat), i = 0 ∧ fp a) G' H' P' → Step G H fp G' H' P' := fun s => ⟨fun a ha o e => s.frame a (fun ⟨_, _, z⟩ => ha z) o e, s.keep, s.sub, fun b hb => by
      rcases s.new0 b hb with z | z | ⟨_, _, z⟩
      · exact .inl z
      · exact .inr (.inl z)
      · exact .inr (.inr z), fun b hb => (s.newf b hb).elim (fun ⟨_, _, z⟩ => .inl z) .inr⟩
    have st0 : (L2.start N (v0 :: vr))[0]? = some (some v0) := rfl
    have fin : ∀ (m' : MO S) (ds' : DS S), (outM o) = some (m', ds') → (stAt ds' 0).map (fun s' => (m', s')) = some (m, t') ∧ True := fun m' ds' h => by
      rw [h] at e
      exact ⟨e, trivial⟩
    cases o with
    | nx ds' =>
      intro σ' G' H' F' r' s' p'
      obtain ⟨e1, _⟩ := fin _ _ rfl
      cases es : stAt ds' 0 with
      | none => rw [es] at e1; cases e1
      | some t2 =>
        rw [es] at e1
        cases e1
        obtain ⟨v1, hv1, o1⟩ := r'.own 0 _ (stAt_some es)
        have hp := p' 0 (List.mem_singleton.mpr rfl)
        rw [hv1, st0] at hp
        cases hp
        exact q .non G' H' (F' 0) (fun _ => False) ((nf s').weaken fun b z => z.elim (fun z => ⟨0, z⟩) False.elim) o1 ⟨.non, fun _ z => z⟩ (fun _ z => z.elim) fun b z => z.elim (fun z => r'.dis 0 b z) False.elim
    | rt m' ds' =>
      intro v σ' G' H' F' fr r' s' o' h1 h2 p'
      obtain ⟨e1, _⟩ := fin _ _ rfl
      cases es : stAt ds' 0 with
      | none => rw [es] at e1; cases e1
      | some t2 =>
        rw [es] at e1
        cases e1
        obtain ⟨v1, hv1, o1⟩ := r'.own 0 _ (stAt_some es)
        have hp := p' 0 (List.mem_singleton.mpr rfl)
        rw [hv1, st0] at hp
        cases hp
        exact q v G' H' (F' 0) fr ((nf s').weaken fun b z => z.elim (fun z => .inl ⟨0, z⟩) .inr) o1 o' (fun b z y => h1 b z ⟨0, y⟩) fun b z => z.elim (fun z => r'.dis 0 b z) (h2 b)
    | bk ds' => cases e
    | ct ds' => cases e
end

/-! ### calls of such defs -/
variable {X : Cx} {R : StI S} {C : CXT} {k n : Nat} {f : Addr} {fd : FuncData} {ps : List Str} {x : Str} {p pos : Pos} {e : Expr} {es : List Expr}
def toD : MO S → Option D
  | .d x => some x
  | .lst xs => some (.list xs)
  | _ => none
theorem step_gr {G H G' H' : Hp} {P' : Addr → Prop} (s : Step G H (fun _ => False) G' H' P') : Gr G H G' H' := ⟨s.keep, s.sub, fun a o e => s.frame a (fun z => z) o e, fun b hb => (s.new0 b hb).elim .inl fun z => z.elim .inr False.elim⟩
def gCallP (n : Nat) (F : List D → Option (MO S)) (gs : DS S → Option (List D)) : DS S → Option D := fun ds => (gs ds).bind fun as => if as.length = n then (F as).bind toD else none
theorem p_call {F : List D → Option (MO S)} {gs : DS S → Option (List D)} {σ : L2.St} {H : Hp} {Q : VK} (h : tP K (gCallP n F gs) σ H Q) : tCall (spP K R n F) [] E0 (tPA K gs) σ H Q := by
  obtain ⟨G, ds, d, s, w, e, k⟩ := h
  unfold gCallP at e
  cases ea : gs ds with
  | none => rw [ea] at e; cases e
  | some as =>
    rw [ea] at e
    simp only [Option.bind_some] at e
    split at e
    · rename_i hn
      cases ef : F as with
      | none => rw [ef] at e; cases e
      | some m =>
        rw [ef] at e
        refine ⟨G, ds, as, s, w, ea, fun vs G1 H1 g1 d1 => ?_⟩
        show spP K R n F (vs ++ []) H1 Q E0
        rw [List.append_nil]
        refine ⟨by rw [d1.length]; exact hn, G1, as, m, g1.sub, d1, ef, fun v G2 H2 fr s2 o n2 => ?_⟩
        cases m with
        | d x => cases e; exact k v G2 H2 (g1.trans (step_gr s2)) o.1
        | lst xs =>
          cases e
          obtain ⟨q, vs2, rfl, hq, z, dd, fq⟩ := o
          have hG : G2 q = none := n2 q ((fq q).mpr rfl)
          have hH : H1 q = none := (s2.newf q ((fq q).mpr rfl)).elim False.elim fun z => z
          exact k _ (upd G2 q (.lst vs2)) H2 (g1.trans ((step_gr s2).freeze hG hH hq)) (.lst upd_same z (dd.mono fun b u e => by rw [upd_ne (ne_of_none e hG)]; exact e))
        | st s => cases e
        | scr ns => cases e
        | dic kvs => cases e
    · cases e
theorem ep_call {F : List D → Option (MO S)} {gs : DS S → Option (List D)} (Fn : FnG X.prog X.w X.K X.mg X.base CX0 k f fd ps (spP X.K R n F)) (hr : Room k X.A) (hgd : X.A.guards = some []) (hg : Gl X x) (hm : X.mg x = some (.ref f)) (hk : PySem.W.keepIn X.K (.ref f) = true) (hb : Binds X.K fd ps [])
    (ha : PA X (e :: es) (tPA X.K gs)) (hdb : (x == ("__debug__" : Str)) = false := by decide) (he : starEach (e :: es) X.env = (false, eval e X.env) :: starEach es X.env := by rfl) (hpl : (backTo pos (starEach es X.env)).any (·.1) = false := by rfl) :
    PE X (.Call (.Name x p) (e :: es) [] pos) (tP X.K (gCallP n F gs)) := PE.imp (pe_callG Fn hr hgd hg hm hk hb pass0 ha hdb he hpl) fun _ _ _ h => p_call h
/-- in a frame with effects -/
def oCallP (n : Nat) (F : List D → Option (MO S)) (fs : XF S (List D)) : XF S (MO S) := xb fs fun as => xlift (if as.length = n then F as else none)
theorem RS.callee {ds : DS S} {σ : L2.St} {F : Nat → Addr → Prop} {G H G2 H2 : Hp} {fr : Addr → Prop} (r : RS K R ds σ G H F) (s : Step G H (fun _ => False) G2 H2 fr) : RS K R ds σ G2 H2 F ∧ Step G H (fun a => ∃ i, F i a) G2 H2 (fun a => (∃ i, F i a) ∨ fr a) ∧ ∀ a, fr a → ¬ ∃ i, F i a := by
  refine ⟨r.grow (step_gr s), ⟨fun a _ o e => s.frame a (fun z => z) o e, s.keep, s.sub, fun b hb => (s.new0 b hb).elim .inl fun z => z.elim (fun z => .inr (.inl z)) False.elim, fun b hb => hb.elim .inl fun z => .inr ((s.newf b z).elim False.elim fun z => z)⟩, fun a ha ⟨i, hi⟩ => ?_⟩
  exact r.trk i a hi ((s.newf a ha).elim False.elim fun z => z)
theorem o_call {F : List D → Option (MO S)} {fs : XF S (List D)} {σ : L2.St} {H : Hp} {Q : VK} (h : tO K R (oCallP n F fs) σ H Q) : tCall (spP K R n F) [] E0 (tXA K R fs) σ H Q := by
  obtain ⟨G, F0, ds, m, ds', rs, e, k⟩ := h
  obtain ⟨as, ds1, ea, e⟩ := xb_some e
  obtain ⟨eg, e9⟩ := xlift_some e
  subst e9
  by_cases hn : as.length = n
  · rw [if_pos hn] at eg
    refine ⟨G, F0, ds, as, _, rs, ea, fun vs G1 H1 F1 r1 s1 d1 => ?_⟩
    show spP K R n F (vs ++ []) H1 Q E0
    rw [List.append_nil]
    refine ⟨by rw [d1.length]; exact hn, G1, as, m, r1.sub, d1, eg, fun v G2 H2 fr s2 o n2 => ?_⟩
    obtain ⟨r2, s3, ap⟩ := r1.callee s2
    exact k v G2 H2 F1 fr r2 (s1.trans s3) o ap n2
  · rw [if_neg hn] at eg; cases eg
theorem eo_call {F : List D → Option (MO S)} {fs : XF S (List D)} (Fn : FnG X.prog X.w X.K X.mg X.base CX0 k f fd ps (spP X.K R n F)) (hr : Room k X.A) (hgd : X.A.guards = some []) (hg : Gl X x) (hm : X.mg x = some (.ref f)) (hk : PySem.W.keepIn X.K (.ref f) = true) (hb : Binds X.K fd ps [])
    (ha : PA X (e :: es) (tXA X.K R fs)) (hdb : (x == ("__debug__" : Str)) = false := by decide) (he : starEach (e :: es) X.env = (false, eval e X.env) :: starEach es X.env := by rfl) (hpl : (backTo pos (starEach es X.env)).any (·.1) = false := by rfl) :
    PE X (.Call (.Name x p) (e :: es) [] pos) (tO X.K R (oCallP n F fs)) := PE.imp (pe_callG Fn hr hgd hg hm hk hb pass0 ha hdb he hpl) fun _ _ _ h => o_call h
/-- with the draws' state, in slot i, handed in first -/
def oCallS (n i : Nat) (F : S → List D → Option (MO S × S)) (fs : XF S (List D)) : XF S (MO S) := fun ds0 => (stAt ds0 i).bind fun _ => xb fs (fun as => fun ds => (stAt ds i).bind fun s => if as.length + 1 = n then (F s as).map fun q => (q.1, ds.set i (some (.st q.2))) else none) ds0
theorem o_callS {i : Nat} {F : S → List D → Option (MO S × S)} {fs : XF S (List D)} {σ : L2.St} {H : Hp} {Q : VK} (h : tO K R (oCallS n i F fs) σ H Q) : tCall (spS K R n F) [] E0 (tCons (tVar i) (tXA K R fs)) σ H Q := by
  obtain ⟨G, F0, ds, m, ds', rs, e, k⟩ := h
  unfold oCallS at e
  cases e0 : stAt ds i with
  | none => rw [e0] at e; cases e
  | some t0 =>
  rw [e0, Option.bind_some] at e
  obtain ⟨as, ds1, ea, e⟩ := xb_some e
  cases e1 : stAt ds1 i with
  | none => rw [e1] at e; cases e
  | some t =>
  rw [e1, Option.bind_some] at e
  by_cases hn : as.length + 1 = n
  · rw [if_pos hn] at e
    cases ef : F t as with
    | none => rw [ef] at e; cases e
    | some q =>
      rw [ef] at e
      cases e
      obtain ⟨v0, hv0, _⟩ := rs.own i _ (stAt_some e0)
      refine ⟨v0, hv0, G, F0, ds, as, ds1, rs, ea, fun vs G1 H1 F1 r1 s1 d1 => ?_⟩
      show spS K R n F ((v0 :: vs) ++ []) H1 Q E0
      rw [List.append_nil]
      obtain ⟨v1, hv1, o1⟩ := r1.own i _ (stAt_some e1)
      rw [hv0] at hv1
      cases hv1
      have hi : i < ds1.length := (List.getElem?_eq_some_iff.mp (stAt_some e1)).1
      refine ⟨by show vs.length + 1 = n; rw [d1.length]; exact hn, G1, F1 i, v0, vs, t, as, q.1, q.2, rfl, r1.sub, o1, r1.dis i, d1, ef, fun v G2 H2 fp fr s2 rel o h1 h2 => ?_⟩
      have apart : ∀ a, fp a ∨ fr a → ∀ j, j ≠ i → ¬ F1 j a := fun a ha j hj hf => (s2.newf a ha).elim (fun z => hj (r1.dj j i a hf z)) (r1.trk j a hf)
      have r2 : RS K R (ds1.set i (some (.st q.2))) σ G2 H2 (setF F1 i fp) := by
        refine ⟨s2.sub, by rw [List.length_set]; exact r1.len, fun j m' q' => ?_, fun j q' a ha => ?_, fun j l a ha hb => ?_, fun j a ha => ?_⟩
        · by_cases hj : i = j
          · subst hj
            rw [List.getElem?_set_self hi] at q'
            cases q'
            exact ⟨v0, hv0, OwnAt.iff (m := .st q.2) rel fun a => by unfold setF; rw [if_pos rfl]⟩
          · rw [List.getElem?_set_ne hj] at q'
            obtain ⟨u, h3, h4⟩ := r1.own j m' q'
            refine ⟨u, h3, (h4.mono s2.keep fun a ha => ?_).iff fun a => by unfold setF; rw [if_neg (Ne.symm hj)]⟩
            cases z : H1 a with
            | none => exact absurd z (r1.trk j a ha)
            | some o => exact s2.frame a (fun y => hj (r1.dj i j a y ha)) o z
        · unfold setF at ha
          by_cases hj : j = i
          · subst hj
            exact q' _ (List.getElem?_set_self hi)
          · rw [if_neg hj] at ha
            refine r1.emp j (fun m' z => q' m' ?_) a ha
            rw [List.getElem?_set_ne (Ne.symm hj)]
            exact z
        · unfold setF at ha hb
          by_cases hj : j = i
          · rw [if_pos hj] at ha
            by_cases hl : l = i
            · rw [hj, hl]
            · rw [if_neg hl] at hb
              exact absurd hb (apart a (.inl ha) l hl)
          · rw [if_neg hj] at ha
            by_cases hl : l = i
            · rw [if_pos hl] at hb
              exact absurd ha (apart a (.inl hb) j hj)
            · rw [if_neg hl] at hb
              exact r1.dj j l a ha hb
        · unfold setF at ha
          by_cases hj : j = i
          · rw [if_pos hj] at ha; exact h2 a (.inl ha)
          · rw [if_neg hj] at ha
            cases z : G2 a with
            | none => rfl
            | some o =>
              rcases s2.new0 a (by rw [z]; simp) with y | y | y
              · exact absurd (r1.dis j a ha) y
              · exact absurd y (r1.trk j a ha)
              · exact absurd (r1.dj j i a ha y) hj
      refine k v G2 H2 _ fr r2 (s1.trans ⟨fun a ha o e => s2.frame a (fun z => ha ⟨i, z⟩) o e, s2.keep, s2.sub, fun b hb => ?_, fun b hb => ?_⟩) o (fun a ha ⟨j, z⟩ => ?_) fun a ha => h2 a (.inr ha)
      · rcases s2.new0 b hb with y | y | y
        · exact .inl y
        · exact .inr (.inl y)
        · exact .inr (.inr ⟨i, y⟩)
      · rcases hb with hb | hb
        · rcases setF_un b hb with z | z
          · exact .inl z
          · exact (s2.newf b (.inl z)).elim (fun z => .inl ⟨i, z⟩) .inr
        · exact (s2.newf b (.inr hb)).elim (fun z => .inl ⟨i, z⟩) .inr
      · unfold setF at z
        by_cases hj : j = i
        · rw [if_pos hj] at z; exact h1 a ha z
        · rw [if_neg hj] at z; exact apart a (.inr ha) j hj z
  · rw [if_neg hn] at e; cases e
theorem eo_callS {i : Nat} {F : S → List D → Option (MO S × S)} {fs : XF S (List D)} (Fn : FnG X.prog X.w X.K X.mg X.base CX0 k f fd ps (spS X.K R n F)) (hr : Room k X.A) (hgd : X.A.guards = some []) (hg : Gl X x) (hm : X.mg x = some (.ref f)) (hk : PySem.W.keepIn X.K (.ref f) = true) (hb : Binds X.K fd ps [])
    (hi : PE X e (tVar i)) (ha : PA X es (tXA X.K R fs)) (hdb : (x == ("__debug__" : Str)) = false := by decide) (he : starEach (e :: es) X.env = (false, eval e X.env) :: starEach es X.env := by rfl) (hpl : (backTo pos (starEach es X.env)).any (·.1) = false := by rfl) :
    PE X (.Call (.Name x p) (e :: es) [] pos) (tO X.K R (oCallS n i F fs)) := PE.imp (pe_callG Fn hr hgd hg hm hk hb pass0 (pa_cons hi ha he) hdb he hpl) fun _ _ _ h => o_callS h
/-- with the script, in slot i, handed in first -/
def scrAt (ds : DS S) (i : Nat) : Option (List Int) := match ds[i]? with
  | some (some (.scr ns)) => some ns
  | _ => none
theorem scrAt_some {ds : DS S} {i : Nat} {ns : List Int} (h : scrAt ds i = some ns) : ds[i]? = some (some (.scr ns)) := by
  unfold scrAt at h
  split at h
  · cases h; assumption
  · cases h
def oCallC (n i : Nat) (F : List Int → List D → Option (MO S)) (fs : XF S (List D)) : XF S (MO S) := fun ds0 => (scrAt ds0 i).bind fun ns => xb fs (fun as => fun ds => if as.length + 1 = n then (F ns as).map fun m => (m, ds) else none) ds0
theorem o_callC {i : Nat} {F : List Int → List D → Option (MO S)} {fs : XF S (List D)} {σ : L2.St} {H : Hp} {Q : VK} (h : tO K R (oCallC n i F fs) σ H Q) : tCall (spC K R n F) [] E0 (tCons (tVar i) (tXA K R fs)) σ H Q := by
  obtain ⟨G, F0, ds, m, ds', rs, e, k⟩ := h
  unfold oCallC at e
  cases e0 : scrAt ds i with
  | none => rw [e0] at e; cases e
  | some ns =>
  rw [e0, Option.bind_some] at e
  obtain ⟨as, ds1, ea, e⟩ := xb_some e
  by_cases hn : as.length + 1 = n
  · rw [if_pos hn] at e
    cases ef : F ns as with
    | none => rw [ef] at e; cases e
    | some q =>
      rw [ef] at e
      cases e
      obtain ⟨v0, hv0, ⟨a0, rfl, sq⟩, _⟩ := rs.own i _ (scrAt_some e0)
      refine ⟨_, hv0, G, F0, ds, as, _, rs, ea, fun vs G1 H1 F1 r1 s1 d1 => ?_⟩
      show spC K R n F ((V.ref a0 :: vs) ++ []) H1 Q E0
      rw [List.append_nil]
      refine ⟨by show vs.length + 1 = n; rw [d1.length]; exact hn, G1, a0, vs, ns, as, m, rfl, r1.sub, sql_mono s1.keep sq, d1, ef, fun v G2 H2 fr s2 o n2 => ?_⟩
      obtain ⟨r2, s3, ap⟩ := r1.callee s2
      exact k v G2 H2 F1 fr r2 (s1.trans s3) o ap n2
  · rw [if_neg hn] at e; cases e
theorem eo_callC {i : Nat} {F : List Int → List D → Option (MO S)} {fs : XF S (List D)} (Fn : FnG X.prog X.w X.K X.mg X.base CX0 k f fd ps (spC X.K R n F)) (hr : Room k X.A) (hgd : X.A.guards = some []) (hg : Gl X x) (hm : X.mg x = some (.ref f)) (hk : PySem.W.keepIn X.K (.ref f) = true) (hb : Binds X.K fd ps [])
    (hi : PE X e (tVar i)) (ha : PA X es (tXA X.K R fs)) (hdb : (x == ("__debug__" : Str)) = false := by decide) (he : starEach (e :: es) X.env = (false, eval e X.env) :: starEach es X.env := by rfl) (hpl : (backTo pos (starEach es X.env)).any (·.1) = false := by rfl) :
    PE X (.Call (.Name x p) (e :: es) [] pos) (tO X.K R (oCallC n i F fs)) := PE.imp (pe_callG Fn hr hgd hg hm hk hb pass0 (pa_cons hi ha he) hdb he hpl) fun _ _ _ h => o_callC h

/-! ### repr -/
def reprD : List D → Option D
  | [d] => if d.showable = true ∧ d.depth ≤ 64 ∧ d.shown.length ≤ sizeLine ∧ PyData.strOk d.shown = true then some (.str d.shown) else none
  | _ => none
def rRepr (K : PySem.W.Frag) : List V → Hp → VK → Prop := fun xs H Q => ∃ x d, xs = [x] ∧ Dp K H x d ∧ d.canLay0 = true ∧ d.showable = true ∧ d.depth ≤ 64 ∧ d.shown.length ≤ sizeLine ∧ Q (.str d.shown) H
mutual
theorem noDict_lay : ∀ (d : D), d.canLay0 = true → d.hasDict = false
  | .none, _ => rfl
  | .bool _, _ => rfl
  | .int _, _ => rfl
  | .str _, _ => rfl
  | .list xs, h => by unfold PyData.canLay0 at h; unfold PyData.hasDict; exact noDict_layAll xs h
  | .tuple xs, h => by unfold PyData.canLay0 at h; unfold PyData.hasDict; exact noDict_layAll xs h
  | .dict _, h => by unfold PyData.canLay0 at h; cases h
theorem noDict_layAll : ∀ (ds : List D), PyData.canLayAll0 ds = true → PyData.hasDictAll ds = false
  | [], _ => rfl
  | x :: xs, h => by
    unfold PyData.canLayAll0 at h
    obtain ⟨h1, h2⟩ := Bool.and_eq_true_iff.mp h
    unfold PyData.hasDictAll
    rw [noDict_lay x h1, noDict_layAll xs h2]
    rfl
end
theorem call_reprD (hu : X.A.units + 100 < cLine) (hgd : X.A.guards = some []) : CallR X (.builtin "repr") (rRepr X.K) := by
  intro pins s σ H xs us Q I r h
  obtain ⟨x, d, rfl, hd, hl, hs, hz, hsz, q⟩ := h
  obtain ⟨u, rfl, rx⟩ := vals1 r
  obtain ⟨as, rd⟩ := Dp.reads I d x u hd rx
  have fin : ∀ {h' : Heap} {tk : Nat} {t : Tok}, (∀ b o, s.heap.get? b = some o → h'.get? b = some o) → EP X pins σ Q (.str d.shown t) { s with heap := h', toks := tk } := fun k => ⟨.str d.shown, H, I.kept k, ⟨_, rfl⟩, q⟩
  cases rd with
  | none => exact PySem.P.repr_of_none (fin fun _ _ e => e)
  | bool => exact PySem.P.repr_of_bool (fin fun _ _ e => e)
  | int => exact PySem.P.repr_of_int (by simpa [PyData.showable] using hs) (fin fun _ _ e => e)
  | str => exact PySem.P.repr_of_str (fin fun _ _ e => e) hsz
  | list h1 h2 h3 h4 => exact repr_of_reads' (Reads.list h1 h2 h3 h4) hs (PyData.noDict_hsm (noDict_lay _ hl)) hgd (by omega) (fun _ _ e => e) (fun h' u tk k => fin k) hsz
  | tuple h1 h2 h3 h4 => exact repr_of_reads' (Reads.tuple h1 h2 h3 h4) hs (PyData.noDict_hsm (noDict_lay _ hl)) hgd (by omega) (fun _ _ e => e) (fun h' u tk k => fin k) hsz
  | dict h1 h2 h3 h4 h5 => exact absurd hl (by simp [PyData.canLay0])
theorem d_repr : RCD K (rRepr K) reprD := by
  intro vs ds d G H Q s da e k
  match ds, e with
  | [x], e =>
    simp only [reprD] at e
    split at e
    · cases e
      rename_i h
      match vs, da with
      | [v], .cons dv .nil => exact ⟨v, x, rfl, (dv.mono s).dp, dv.lay, h.1, h.2.1, h.2.2.1, k _ G H (.refl s) (.str _ h.2.2.1 h.2.2.2)⟩
    · cases e
end
end DL
set_option Elab.async false
set_option linter.all false
set_option maxRecDepth 100000
set_option maxHeartbeats 4000000
namespace DL
open PySem PySem.Spec PyProof.Rows L2

/-! ### the law's end: the script's list, and the call of the law -/
theorem callG {P : Program} {w : World} {K : PySem.W.Frag} {mg mb : Str → Option Value} {k : Nat} {fa a : Addr} {fd : FuncData} {x : Str} {sp : Sp} {s : Shared} {vs : List Value} {ns : List Int}
    (inK : K.In s.heap) (hg1 : s.heap.Ns mainGlobals mg) (hb1 : s.heap.Ns builtinsNs mb) (hb2 : ∀ y : Str, y ≠ "__name__" → mb y = bootBuiltins y) (lim : s.heap.NoLimit) (hgens : s.gens = #[])
    (hlist : s.heap.get? a = some { cls := .type "list", data := .seq vs.toArray }) (hints : IntsAre vs ns) (hsize : ns.length ≤ sizeLine) (room : Room k callerA)
    (F : ∀ base : Heap, K.In base → base.Ns mainGlobals mg → FnG P w K mg base CX0 k fa fd [x] sp) (hbind : ∀ (s : Shared) (u : Value), BindsTo s fd ⟨[u], []⟩ [(x, u)])
    (hsp : ∀ H : Hp, SqL K H a (ns.map V.int) → sp [.ref a] H (fun v _ => v = .bl true) E0) :
    codeAny (model P w) callerA (.call (.ref fa) ⟨[.ref a], []⟩) (fun r s' => r = .ok (.ret (.bool true)) ∧ OldK s.heap s'.heap ∧ s'.os = s.os ∧ AllBare s'.gens) s := by
  have rv := vals_ints hints
  have lv := hints.length
  let sobj : Obj := { cls := .type "list", data := .seq vs.toArray }
  -- the abstract heap tracks the script alone, or nothing (where the script is the module's own)
  have main : ∀ H : Hp, (∀ b, H b = none ∨ (b = a ∧ H b = some (.frz sobj (.lst (ns.map V.int))))) → (H a ≠ none → K.lookup a = none) → SqL K H a (ns.map V.int) → HOk P w H s.heap →
      codeAny (model P w) callerA (.call (.ref fa) ⟨[.ref a], []⟩) (fun r s' => r = .ok (.ret (.bool true)) ∧ OldK s.heap s'.heap ∧ s'.os = s.os ∧ AllBare s'.gens) s := by
    intro H hH hKa hS hok
    have free : ∀ {b : Addr} {o : Obj}, s.heap.get? b = some o → o ≠ sobj → H b = none := fun {b o} q ne => (hH b).elim (fun z => z) fun ⟨z, _⟩ => by
      subst z
      rw [hlist] at q
      exact absurd (Option.some.inj q).symm ne
    have toBase : ∀ {b : Addr} {o : Obj}, s.heap.get? b = some o → H b = none → (hidT s.heap H).get? b = some o := fun q n => hidT_get q n
    have nsBase : ∀ {b : Addr} {m : Str → Option Value}, s.heap.Ns b m → (hidT s.heap H).Ns b m := fun {b m} ⟨o, es, ep, q, d, rest⟩ =>
      ⟨o, es, ep, toBase q (free q fun z => by rw [z] at d; cases d), d, rest⟩
    have inBase : K.In (hidT s.heap H) := fun b o q => toBase (inK b o q) ((hH b).elim (fun z => z) fun ⟨z, e⟩ => by
      subst z
      have := hKa (by rw [e]; simp)
      rw [q] at this
      cases this)
    have env : Env0 P w K mg (hidT s.heap H) callerA [] s H :=
      { frames := rfl
        mod := { kin := inBase, glob := nsBase hg1, blt := ⟨mb, nsBase hb1, hb2⟩, nolimit := by obtain ⟨c, z1, z2⟩ := lim; exact ⟨c, nsBase z1, z2⟩ }
        bs := fun b o q => of_hidT q
        bsz := Nat.le_of_eq (hidT_size _ _)
        funs := trivial
        frf := fun b hb => by cases hb
        hok := hok
        bare := .of_eq hgens }
    refine codeAny_mono ((F _ inBase (nsBase hg1)).run callerA [] s H ⟨[.ref a], []⟩ [.ref a] [.ref a] _ _ room rfl env (hbind s (.ref a)) (.cons rfl .nil) (hsp H hS)) fun r s2 q => ?_
    match r, q with
    | .error e, q => exact q.elim
    | .ok .next, q => exact q.elim
    | .ok .brk, q => exact q.elim
    | .ok .cont, q => exact q.elim
    | .ok (.ret u), ⟨v, H2, os, bare, un, hok2, rel, hv⟩ =>
      subst hv
      cases (show u = Value.bool true from rel)
      refine ⟨rfl, OldK.of_keep fun b o q => ?_, os, bare⟩
      rcases hH b with z | ⟨z, e⟩
      · exact un.keep b o q z (fun y => by cases y) (fun y => by cases y)
      · obtain ⟨y1, _⟩ := hok b _ e
        obtain ⟨y2, _⟩ := hok2 b _ (un.frzs b _ _ e)
        rw [q] at y1
        cases y1
        exact y2
  cases hk : K.lookup a with
  | some o =>
    have q := inK a o hk
    rw [hlist] at q
    cases q
    exact main (fun _ => none) (fun _ => .inl rfl) (fun z => absurd rfl z) (.inr ⟨_, vs.toArray, _, hk, rfl, rfl, rfl, by rw [List.size_toArray, lv]; exact hsize, by simpa using rv⟩) fun b u z => by cases z
  | none =>
    have at0 : (fun b : Addr => if b = a then some (HO.frz sobj (.lst (ns.map V.int))) else none) a = some (.frz sobj (.lst (ns.map V.int))) := if_pos rfl
    refine main (fun b => if b = a then some (.frz sobj (.lst (ns.map V.int))) else none) (fun b => ?_) (fun _ => hk) (.inl (.inr ⟨sobj, at0⟩)) fun b u z => ?_
    · by_cases hb : b = a
      · exact .inr ⟨hb, if_pos hb⟩
      · exact .inl (if_neg hb)
    · by_cases hb : b = a
      · subst hb
        rw [at0] at z
        cases z
        exact ⟨hlist, by rw [List.length_map]; exact hsize, vs, _, rv, hlist⟩
      · dsimp only at z
        rw [if_neg hb] at z
        cases z
theorem walkG {l : PySem.W.OpenLaw} {n k : Nat} {q : Program} {loose : List Str} {XP : (Str → Option Value) → Heap → Prop} {YP : World → Heap → Prop} {d : DefRec} {K : Params → PySem.W.Frag} {sp : PySem.W.Frag → Sp} {x : Str}
    (hn : l.most = some n) (hn2 : n ≤ sizeLine) (hdf : d.params.defaults = []) (room : Room k callerA) (hY : ∀ (w : World) (h : Heap), YP w h → (K w.params).In h)
    (F : ∀ (w : World) (mg : Str → Option Value) (fa : Addr) (h : Heap), (K w.params).In h → h.Ns mainGlobals mg → mg d.name = some (.ref fa) →
      ∃ fd : FuncData, (∀ (s : Shared) (u : Value), BindsTo s fd ⟨[u], []⟩ [(x, u)]) ∧ ∀ base : Heap, (K w.params).In base → base.Ns mainGlobals mg → FnG l.prog w (K w.params) mg base CX0 k fa fd [x] (sp (K w.params)))
    (hsp : ∀ (K : PySem.W.Frag) (H : Hp) (a : Addr) (ns : List Int), ns.length ≤ n → SqL K H a (ns.map V.int) → sp K [.ref a] H (fun v _ => v = .bl true) E0) :
    PySem.W.WalkO q loose XP YP l.row.toRowW d [] (fun f vs => PySem.call f vs) :=
  Att.attach_call hn hdf fun w s₀ s₁ mg mb fa o pm cd doc a vs ns G Y ho hd hcd hmg hobj hints hlen hg => by
    obtain ⟨fd, hb, hF⟩ := F w mg fa _ (hY w _ Y) G.T.g hmg
    exact callG (hY w _ Y) G.T.g G.T.b G.T.builtins G.T.nolimit hg hobj hints (Nat.le_trans hlen hn2) room hF hb fun H hS => hsp (K w.params) H a ns hlen hS
/-- a law whose value is known of every script -/
theorem sp_of {S : Type} {K : PySem.W.Frag} {R : StI S} {F : List Int → List D → Option (MO S)} {n : Nat} (h : ∀ ns : List Int, ns.length ≤ n → F ns [] = some (.d (.bool true))) (H : Hp) (a : Addr) (ns : List Int) (hl : ns.length ≤ n) (hS : SqL K H a (ns.map V.int)) :
    spC K R 1 F [.ref a] H (fun v _ => v = .bl true) E0 :=
  ⟨rfl, H, a, [], ns, [], .d (.bool true), rfl, Same.refl _, hS, .nil, h ns hl, fun v G2 H2 fr s o _ => by cases o.1; rfl⟩
end DL
set_option Elab.async false
set_option linter.all false
set_option maxRecDepth 100000
set_option maxHeartbeats 4000000
namespace DL
open PySem PySem.Spec PyProof.Rows L2

/-! ### enumerate(a tuple) -/
theorem meets_enumT (l : Addr) (items : Array Value) :
    Meets (Builtin.«enumerate.__new__» ⟨[.type "enumerate", .ref l], []⟩) (fun _ R s => s.heap.IsTuple l items ∧
      R (.ok (.ret (.ref (s.heap.push { cls := .type "tuple_iterator", data := .fields #[.ref l, .int 0 0] }).objs.size)))
        { s with heap := (s.heap.push { cls := .type "tuple_iterator", data := .fields #[.ref l, .int 0 0] }).push { cls := .type "enumerate", data := .fields #[.none, .bool false, .ref s.heap.objs.size, rawInt 0, .none, .none] } }) :=
  .of_wp fun prog w A R s h => by
    obtain ⟨hp, g, d, tk, os⟩ := s
    obtain ⟨ht, h⟩ := h
    have hsub := sub_enumerate
    wp_walk
    refine wpAny_stack_any fun st => wpAny_pure ?_
    split
    · rename_i c _ _ _ _ _
      cases (c == Value.type "enumerate")
      · wp_walk using (wpAny_pyIter_tuple ht)
        exact ⟨_, rfl, h⟩
      · wp_walk using (wpAny_pyIter_tuple ht)
        exact ⟨_, rfl, h⟩
    · wp_walk using (wpAny_pyIter_tuple ht)
      exact ⟨_, rfl, h⟩
section
variable {prog : Program} {w : World} {A : Around} {E : Value → Shared → Prop} {s : Shared}
theorem call_enumT {l : Addr} {items : Array Value} {Q : Value → Shared → Prop} (hL : s.heap.IsTuple l items)
    (h : ∀ h', IsEnum h' (s.heap.objs.size + 1) s.heap.objs.size 0 .none → h'.IsTupleIter s.heap.objs.size l 0 → h'.objs.size = s.heap.objs.size + 2 → (∀ b o, s.heap.get? b = some o → h'.get? b = some o) → Q (.ref (s.heap.objs.size + 1)) { s with heap := h' }) :
    wpAny (model prog w) A (call (.type "enumerate") [.ref l]) Q E s := by
  refine callType_new F.called_enumerate (by decide) (F.typeCall_enumerate_1 _) (F.newCall_enumerate_1 _) (fun obj => F.args_object_init_2 obj _) F.entry_enumerate_new (meets_enumT l items) ⟨hL, ?_⟩
  have hz : (s.heap.push { cls := .type "tuple_iterator", data := .fields #[.ref l, .int 0 0] }).objs.size = s.heap.objs.size + 1 := Heap.size_push ..
  show _ ∧ _
  rw [hz]
  have he : IsEnum ((s.heap.push { cls := .type "tuple_iterator", data := .fields #[.ref l, .int 0 0] }).push
      { cls := .type "enumerate", data := .fields #[.none, .bool false, .ref s.heap.objs.size, rawInt 0, .none, .none] }) (s.heap.objs.size + 1) s.heap.objs.size 0 .none := by
    have q := Heap.get?_push_size (s.heap.push { cls := .type "tuple_iterator", data := .fields #[.ref l, .int 0 0] }) (o := { cls := .type "enumerate", data := .fields #[.none, .bool false, .ref s.heap.objs.size, rawInt 0, .none, .none] }) rfl
    rw [hz] at q
    exact q
  exact ⟨⟨_, he, rfl⟩, h _ he ⟨_, Heap.get?_push_of_some _ (Heap.get?_push_size _ rfl), rfl, rfl⟩ (by rw [Heap.size_push, hz]) fun b o x => Heap.get?_push_of_some _ (Heap.get?_push_of_some _ x)⟩
end
/-- enumerate over the tuple at a -/
def IteT (K : PySem.W.Frag) (a : Addr) : It :=
  ⟨fun i H => ∃ (xs : List V) (x : V), SqT K H a xs ∧ xs[i]? = some x, fun i H v H' => ∃ T x, v = .ref T ∧ H T = none ∧ H' = upd H T (.tup [.int (i : Nat), x]) ∧ ∀ xs, SqT K H a xs → xs[i]? = some x, fun i H => ∃ xs : List V, SqT K H a xs ∧ xs.length = i⟩
theorem turn_enumT {P : Program} {w : World} {K : PySem.W.Frag} {elts : List Expr} {kk : Nat} {tpos : Pos} (a e it : Addr) :
    Turn P w K (.Tuple elts kk tpos) (IteT K a) [e, it] e (fun i h => (∃ old, IsEnum h e it ((i : Nat) : Int) old) ∧ h.IsTupleIter it a i ∧ e ≠ it) where
  mem := by simp
  obj := fun i h st b hb => by
    obtain ⟨⟨old, he⟩, ⟨o, ho, hc, hd⟩, _⟩ := st
    rcases (show b = e ∨ b = it by simpa using hb) with z | z
    · rw [z]; exact ⟨_, he, fun v q => nomatch q⟩
    · rw [z]; exact ⟨o, ho, fun v q => by rw [hd] at q; cases q⟩
  keep := fun i h h' ⟨⟨old, he⟩, ⟨o, ho, hr⟩, ne⟩ k => ⟨⟨old, k e (by simp) _ he⟩, ⟨o, k it (by simp) o ho, hr⟩, ne⟩
  item := by
    intro X eP eW eK calm i pins s σ H E I hf st go
    subst eP eW eK
    obtain ⟨⟨old, he⟩, hit, ne⟩ := st
    obtain ⟨xs, x, hq, hx⟩ := go
    obtain ⟨its, rv, tp, _⟩ := I.tuple hq
    obtain ⟨u, hu, ru⟩ := rv.get hx
    have le : e < s.heap.objs.size := Heap.lt_size he
    have li : it < s.heap.objs.size := by obtain ⟨_, q, _⟩ := hit; exact Heap.lt_size q
    have nit : a ≠ it := fun z => by
      obtain ⟨o1, q1, c1, _⟩ := hit
      obtain ⟨o2, q2, c2, _⟩ := id tp
      rw [z, q1] at q2
      cases q2
      rw [c1] at c2
      exact absurd c2 (by decide)
    have nae : e ≠ a := fun z => by
      obtain ⟨o2, q2, c2, _⟩ := id tp
      rw [← z] at q2
      have q3 := Option.some.inj (he.symm.trans q2)
      rw [← q3] at c2
      exact absurd (show ("enumerate" : String) = "tuple" by injection c2) (by decide)
    have hlt : i < its.toArray.size := by
      have := (List.getElem?_eq_some_iff.mp hu).1
      simpa using this
    refine wpAny_pyNext_enum_itemD (Draws.tuple (A := X.A.in1) (show X.A.in1.handled = none from I.ok.hd calm) it a nit its.toArray) he ⟨hit, tp⟩ hlt ne (by simp [ne, nae]) fun v h1 tk hv hout st1 hnew hsz hk => ?_
    have hv2 : v = u := by
      have q : its.toArray[i]? = some v := hv
      rw [List.getElem?_toArray, hu] at q
      exact (Option.some.inj q).symm
    subst hv2
    refine ⟨_, rfl, wpAny_letOwnedTupleGo_enum (s := { s with heap := h1, toks := tk + 1 }) hout fun h2 he2 sb => ?_⟩
    have hT2 : h2.get? s.heap.objs.size = some { cls := .type "tuple", data := .seq #[.int i tk, v] } := (sb.2 _ (Nat.ne_of_gt le)).trans hnew
    have ok : ObjOk X.prog X.w (upd H s.heap.objs.size (.tup [.int (i : Nat), x])) h2 s.heap.objs.size (.tup [.int (i : Nat), x]) :=
      ⟨(by show 2 ≤ sizeLine; decide), [.int i tk, v], .cons ⟨_, rfl⟩ (.cons ru .nil), ⟨_, hT2, rfl, _, rfl⟩⟩
    have I1 : Inv X pins σ (upd H s.heap.objs.size (.tup [.int (i : Nat), x])) { s with heap := h2, toks := tk + 1 } :=
      I.turnedNew (ch := [e, it]) (fun b ob hb q => (sb.2 b fun z => hb (by simp [z])).trans (hk b ob (fun z => hb (by simp [z])) (fun z => hb (by simp [z])) q)) hf (Nat.le_refl _) ok
    refine ⟨.ref s.heap.objs.size, _, I1, rfl, ⟨_, x, rfl, I.hok.fresh (Nat.le_refl _), rfl, fun ys hy => by rw [I.tuple_inj hy hq]; exact hx⟩, ⟨⟨v, ?_⟩, ?_, ne⟩, fun b hb => ?_⟩
    · have e1 : ((i + 1 : Nat) : Int) = (i : Int) + 1 := by omega
      rw [e1]; exact he2
    · obtain ⟨o, ho, hr⟩ := st1.1
      exact ⟨o, (sb.2 it (Ne.symm ne)).trans ho, hr⟩
    · have lb : b < s.heap.objs.size := by
        rcases (show b = e ∨ b = it by simpa using hb) with z | z
        · rw [z]; exact le
        · rw [z]; exact li
      rw [upd_ne (Nat.ne_of_lt lb)]
      exact (hf b hb).1
  done := by
    intro X eP eW eK calm i pins s σ H E I hf st stop
    subst eP eW eK
    obtain ⟨⟨old, he⟩, hit, ne⟩ := st
    obtain ⟨xs, hq, hx⟩ := stop
    obtain ⟨its, rv, tp, _⟩ := I.tuple hq
    have nit : a ≠ it := fun z => by
      obtain ⟨o1, q1, c1, _⟩ := hit
      obtain ⟨o2, q2, c2, _⟩ := id tp
      rw [z, q1] at q2
      cases q2
      rw [c1] at c2
      exact absurd c2 (by decide)
    have hn : i = its.toArray.size := by
      have := rv.length
      simp only [List.size_toArray]
      omega
    rw [hn] at hit he
    have f1 := hf it (by simp)
    obtain ⟨f0, f1, f2, f3, f4, f5⟩ := f1
    exact wpAny_pyNext_enum_endD (Draws.tuple (A := X.A.in1) (show X.A.in1.handled = none from I.ok.hd calm) it a nit its.toArray) he ⟨hit, tp⟩ fun h' eb => ⟨rfl, I.turned (t' := s.toks) (fun b o hb q => eb b o hb q) f0 f1 f3 f4 f5⟩
  self := fun A i s Q E st h => by
    obtain ⟨⟨old, he⟩, _⟩ := st
    exact wpAny_pyIter_enum he h
def iEnumT (K : PySem.W.Frag) (ta : TA) : TI := fun σ H R => ta σ H fun vs H1 => ∃ a xs, vs = [.ref a] ∧ SqT K H1 a xs ∧ R (IteT K a) H1
theorem pi_enumT {X : Cx} {e : Expr} {ta : TA} {p pos tpos : Pos} {elts : List Expr} {kk : Nat} (hg : Gl X "enumerate") (hm : X.mg "enumerate" = none) (ha : PA X [e] ta) (hs : starEach [e] X.env = [(false, eval e X.env)] := by rfl) :
    PI X (.Tuple elts kk tpos) (.Call (.Name "enumerate" p) [e] [] pos) (iEnumT X.K ta) := by
  refine ⟨fun pins s σ H R I h => Call_ (ld_blt I hg hm boot_enumerate (PyProof.Rows.callWith_type1 (thn (ha.run pos pins s σ H _ I h) fun us s1 ⟨vs, H1, I1, r1, q1⟩ => ?_) hs rfl))⟩
  obtain ⟨a, xs, rfl, hq, q⟩ := q1
  match us, r1 with
  | _, .cons (rfl : _ = Value.ref a) .nil =>
    obtain ⟨its, rv, tp, _⟩ := I1.tuple hq
    refine call_enumT tp fun h' he hit hsz hk => wpAny_pyIter_enum he ?_
    refine ⟨s1.heap.objs.size + 1, [s1.heap.objs.size + 1, s1.heap.objs.size], _, _, H1, rfl, I1.kept (t' := s1.toks) hk, turn_enumT a (s1.heap.objs.size + 1) s1.heap.objs.size, ⟨⟨.none, he⟩, hit, Nat.succ_ne_self _⟩, fun b hb => ?_, q⟩
    have hle : s1.heap.objs.size ≤ b := by
      rcases (show b = s1.heap.objs.size + 1 ∨ b = s1.heap.objs.size by simpa using hb) with z | z
      · rw [z]; exact Nat.le_succ _
      · rw [z]; exact Nat.le_refl _
    exact I1.fpOk hle (I1.hok.fresh hle)
section
variable {S : Type} {X : Cx} {K : PySem.W.Frag} {tg e : Expr} {G : Hp} {g1 : DS S → Option (List D)} {p pos tpos : Pos} {elts : List Expr} {kk : Nat}
theorem itd_enumT {a : Addr} {vs : List V} {xs : List D} (q : SqT K G a vs) (z : vs.length ≤ sizeLine) (r : DenAll K G vs xs) : ItD K (IteT K a) (enumD 0 xs) G where
  len := by rw [enumD_len, ← r.length]; exact z
  go := fun i H s hi => by
    have hi' : i < vs.length := by rw [r.length]; rw [enumD_len] at hi; exact hi
    exact ⟨vs, vs[i], sqt_mono s q, List.getElem?_eq_getElem hi'⟩
  stop := fun i H s hi hj => ⟨vs, sqt_mono s q, by rw [r.length]; rw [enumD_len] at hi hj; omega⟩
  yld := fun i H x H' s hi ⟨T, y, ev, hT, eh, hy⟩ => by
    subst ev eh
    obtain ⟨d, h1, h2⟩ := r.getV (hy vs (sqt_mono s q))
    refine ⟨.tuple [.int (i : Int), d], by rw [enumD_get, h1]; simp, fun G0 s0 s1 => ⟨upd G0 T (.tup [.int (i : Int), y]), .upd s1 hT, ?_⟩⟩
    exact .tup (.inl (.inl upd_same)) (by show 2 ≤ sizeLine; decide) (.cons (.int _) (.cons ((h2.mono s0).at_new (s1.free hT)) .nil))
def enum2 : List D → Option (List D)
  | [.list xs] => some (enumD 0 xs)
  | [.tuple xs] => some (enumD 0 xs)
  | _ => none
/-- enumerate of a list or a tuple -/
theorem pi_en2 (hg : Gl X "enumerate") (hm : X.mg "enumerate" = none) (ha : PA X [e] (tPA X.K g1)) (hs : starEach [e] X.env = [(false, eval e X.env)] := by rfl) :
    PI X (.Tuple elts kk tpos) (.Call (.Name "enumerate" p) [e] [] pos) (tI X.K (gArgs g1 enum2)) :=
  PI.imp (PI.or (pi_enum hg hm ha hs) (pi_enumT hg hm ha hs)) fun σ H R ⟨G, ds, xs, s, w, e, k⟩ => by
    unfold gArgs at e
    cases ea : g1 ds with
    | none => rw [ea] at e; cases e
    | some as =>
      rw [ea] at e
      match as, e with
      | [.list ys], e =>
        cases e
        refine .inl ⟨G, ds, _, s, w, ea, fun vs G1 H1 g1 d1 => ?_⟩
        match vs, d1 with
        | _, .cons (.lst q z r) .nil => exact ⟨_, _, rfl, SqL.of (g1.sub _ _ q), k _ G1 H1 g1 (itd_enum q z r)⟩
      | [.tuple ys], e =>
        cases e
        refine .inr ⟨G, ds, _, s, w, ea, fun vs G1 H1 g1 d1 => ?_⟩
        match vs, d1 with
        | _, .cons (.tup q z r) .nil => exact ⟨_, _, rfl, sqt_mono g1.sub q, k _ G1 H1 g1 (itd_enumT q z r)⟩
end
end DL
set_option Elab.async false
set_option linter.all false
set_option maxRecDepth 100000
set_option maxHeartbeats 4000000
namespace DL
open PySem PySem.Spec PyProof.Rows L2

/-! ### statements as rules -/
theorem psi {X : Cx} {st : Stmt} {t t' : TS} (h : PS X st t) (i : ∀ D σ H, t' D σ H → t D σ H) : PS X st t' := ⟨fun pins s σ H D I q => h.run pins s σ H D I (i D σ H q)⟩
theorem pssi {X : Cx} {st : List Stmt} {t t' : TS} (h : PSs X st t) (i : ∀ D σ H, t' D σ H → t D σ H) : PSs X st t' := ⟨fun pins s σ H D I q => h.run pins s σ H D I (i D σ H q)⟩
section
variable {S : Type} {X : Cx} {R : StI S} {pn : List Nat} {st : Stmt} {rest a b : List Stmt} {g h : SF S} {e c tg iter : Expr} {pos : Pos}
theorem ss_seq (h1 : PS X st (tS X.K R pn g)) (h2 : PSs X rest (tS X.K R pn h)) : PSs X (st :: rest) (tS X.K R pn (gSeq g h)) := pssi (pss_cons h1 h2) fun _ _ _ => s_seq
theorem ss_one (h1 : PS X st (tS X.K R pn g)) : PSs X [st] (tS X.K R pn g) := pss_one h1
theorem ss_nil : PSs X [] (tS X.K R pn (gNext (S := S))) := pssi pss_nil fun _ _ _ => s_next
theorem ss_ret {f : XF S (MO S)} (he : PE X e (tO X.K R f)) : PS X (.Return (some e) pos) (tS X.K R pn (gRet f)) := psi (ps_ret he) fun _ _ _ => s_ret
theorem ss_retN : PS X (.Return none pos) (tS X.K R pn (gRetN (S := S))) := psi ps_retN fun _ _ _ => s_retN
theorem ss_brk : PS X (.Break pos) (tS X.K R pn (gBrk (S := S))) := psi ps_break fun _ _ _ => s_brk
theorem ss_cnt : PS X (.Continue pos) (tS X.K R pn (gCnt (S := S))) := psi ps_continue fun _ _ _ => s_cnt
theorem ss_doc {x j pos pos'} : PS X (.Expr (.Constant (.str x) j pos) pos') (tS X.K R pn (gNext (S := S))) := psi ps_doc fun _ _ _ => s_next
theorem ss_set {i : Nat} {x : Str} {f : XF S (MO S)} {pos' : Pos} (hp : i ∉ pn) (hN : X.N.Nodup) (hi : X.N[i]? = some x) (hx : Loc X.env.scope x) (he : PE X e (tO X.K R f)) (hs : swapsWith e (some (.Name x pos')) pos.line X.env = pure false := by rfl) (hf : X.fn x = true ∨ X.env.scope.names.lookup x = some .local := by first | exact .inl rfl | exact .inr rfl | assumption) :
    PS X (.Assign [.Name x pos'] e pos) (tS X.K R pn (gAsg i f)) := psi (ps_set hN hi hx he hs hf) fun _ _ _ => s_asg hp
theorem ss_drop {f : XF S D} (he : PE X e (tX X.K R f)) (hs : swapsWith e none pos.line X.env = pure false := by rfl) : PS X (.Expr e pos) (tS X.K R pn (gDrop f)) := psi (ps_expr he hs) fun _ _ _ => s_drop
theorem ss_if {f : XF S Bool} (hc : PT X c (tXT X.K R f)) (ha : PSs X a (tS X.K R pn g)) (hb : PSs X b (tS X.K R pn h)) : PS X (.If c a b pos) (tS X.K R pn (gIfS f g h)) := psi (ps_if hc ha hb) fun _ _ _ => s_if
theorem ss_asgT {t : D → Option (List (Nat × D))} {gt : TG} {f : XF S D} (ht : TGD X.K gt t) (hp : ∀ d as, t d = some as → ∀ p ∈ as, p.1 ∉ pn) (he : PE X e (tX X.K R f)) (hg : PG X tg gt) (hs : swapsWithSole [tg] e pos.line X.env = pure false := by rfl) (hw : swappedStores [tg] e X.env = pure none := by rfl)
    (h1 : (assignEach [tg] X.env).map (·.2) = [assign tg X.env] := by rfl) : PS X (.Assign [tg] e pos) (tS X.K R pn (gAsgT t f)) := psi (ps_asg he hg hs hw h1) fun _ _ _ => s_asgT ht hp
theorem ss_for {src : XF S (List D)} {t : D → Option (List (Nat × D))} {gt : TG} (ht : TGD X.K gt t) (hp : ∀ d as, t d = some as → ∀ p ∈ as, p.1 ∉ pn) (hc : X.nox.calm = true) (hi : PI X.nox tg iter (tXI X.K R src)) (hg : PG X.nox tg gt) (hb : PSs X.nox rest (tS X.K R pn g))
    (hs : ∀ x, foldedSetIterable iter X.nox.env x = pure x := by intro _; rfl) : PS X.nox (.For tg iter rest [] pos) (tS X.K R pn (gFor src t g)) := psi (ps_for PassesOwn.never hc hi hg hb hs) fun _ _ _ => s_for ht hp
theorem ss_while {n : Nat} {f : XF S Bool} (hc : PT X.nox c (tXT X.K R f)) (hb : PSs X.nox rest (tS X.K R pn g)) : PS X.nox (.While c rest [] pos) (tS X.K R pn (gWhile n f g)) := psi (ps_while PassesOwn.never hc hb) fun _ _ _ => s_while
theorem ss_par2 {i j : Nat} {x y : Str} {a b : Expr} {f : XF S (List (MO S))} {px py pt : Pos} {kt k2 pt2} (hpi : i ∉ pn) (hpj : j ∉ pn) (hc : X.calm = true) (hN : X.N.Nodup) (hi : X.N[i]? = some x) (hj : X.N[j]? = some y) (hij : i ≠ j)
    (hx : X.env.scope.names.lookup x = some .local) (hy : X.env.scope.names.lookup y = some .local) (ha : PA X [a, b] (tOA X.K R f))
    (hw : swappedStores [.Tuple [.Name x px, .Name y py] kt pt] (.Tuple [a, b] k2 pt2) X.env = pure (some [x, y]))
    (hs : swapsWithSole [.Tuple [.Name x px, .Name y py] kt pt] (.Tuple [a, b] k2 pt2) pos.line X.env = pure false := by rfl) :
    PS X (.Assign [.Tuple [.Name x px, .Name y py] kt pt] (.Tuple [a, b] k2 pt2) pos) (tS X.K R pn (gPar2 i j f)) := psi (ps_par hc hN hi hj hij hx hy ha hw hs) fun _ _ _ => s_par2 hpi hpj
theorem ss_par3 {i j l : Nat} {x y z : Str} {a b c : Expr} {f : XF S (List (MO S))} {px py pz pt pos : Pos} {kt k2 pt2} (hpi : i ∉ pn) (hpj : j ∉ pn) (hpl : l ∉ pn) (hc : X.calm = true) (hN : X.N.Nodup) (hi : X.N[i]? = some x) (hj : X.N[j]? = some y) (hl : X.N[l]? = some z) (hij : i ≠ j) (hil : i ≠ l) (hjl : j ≠ l)
    (hx : X.env.scope.names.lookup x = some .local) (hy : X.env.scope.names.lookup y = some .local) (hz : X.env.scope.names.lookup z = some .local) (ha : PA X [a, b, c] (tOA X.K R f))
    (hw : swappedStores [.Tuple [.Name x px, .Name y py, .Name z pz] kt pt] (.Tuple [a, b, c] k2 pt2) X.env = pure (some [x, y, z]))
    (hs : swapsWithSole [.Tuple [.Name x px, .Name y py, .Name z pz] kt pt] (.Tuple [a, b, c] k2 pt2) pos.line X.env = pure false := by rfl) :
    PS X (.Assign [.Tuple [.Name x px, .Name y py, .Name z pz] kt pt] (.Tuple [a, b, c] k2 pt2) pos) (tS X.K R pn (gPar3 i j l f)) := psi (ps_par3 hc hN hi hj hl hij hil hjl hx hy hz ha hw hs) fun _ _ _ => s_par3 hpi hpj hpl
end
/-! more than three, or names that are cells: the tuple is made and taken apart, own things stay own -/
section
variable {S : Type} {K : PySem.W.Frag} {R : StI S} {pn : List Nat} {Dn : Ends} {σ : L2.St} {H : Hp}
def setM (ds : DS S) : List Nat → List (MO S) → DS S
  | i :: is, m :: ms => setM (ds.set i (some m)) is ms
  | _, _ => ds
def gParN (is : List Nat) (f : XF S (List (MO S))) : SF S := fun ds => (f ds).bind fun p => if p.1.length = is.length ∧ p.1.length ≤ sizeLine then some (.nx (setM p.2 is p.1)) else none
theorem parN_go {G H : Hp} {Q : L2.St → Hp → Prop} {pn : List Nat} {σ0 : L2.St} : ∀ {is : List Nat} {vs : List V} {ms : List (MO S)} {fr : Addr → Prop} {ds : DS S} {σ : L2.St} {F : Nat → Addr → Prop}, RS K R ds σ G H F → OwnAll K R G H vs ms fr → (∀ a, fr a → ¬ ∃ i, F i a) → (∀ a, fr a → G a = none) → ms.length = is.length → (∀ i ∈ is, i ∉ pn) → (∀ i ∈ pn, σ[i]? = σ0[i]?) →
    (∀ σ' F', RS K R (setM ds is ms) σ' G H F' → (∀ a, (∃ i, F' i a) → (∃ i, F i a) ∨ fr a) → (∀ i ∈ pn, σ'[i]? = σ0[i]?) → Q σ' H) → gNames is vs σ H Q
  | [], _, _, _, ds, σ, F, r, .nil, _, _, _, _, hp, k => ⟨rfl, k σ F r (fun _ z => .inl z) hp⟩
  | i :: is, _, _, _, ds, σ, F, r, .cons (v := v) (m := m) (vs := vs) (ms := ms) (f1 := f1) (f2 := f2) o1 o2 d1, h1, h2, hl, hn, hp, k => by
    obtain ⟨F2, r2, u2⟩ := r.seto i o1 (fun a ha => h1 a (.inl ha)) fun a ha => h2 a (.inl ha)
    refine ⟨v, vs, rfl, ?_⟩
    show gNames is vs (σ.set i (some v)) H Q
    refine parN_go r2 o2 (fun a ha z => (u2 a z).elim (h1 a (.inr ha)) fun q => d1 a q ha) (fun a ha => h2 a (.inr ha)) (by simpa using hl) (fun j hj => hn j (List.mem_cons_of_mem _ hj)) (fun j hj => ?_) fun σ' F' r' u' hp' => k σ' F' r' (fun a z => ?_) hp'
    · rw [List.getElem?_set_ne fun z => hn i (List.mem_cons_self ..) (by rw [z]; exact hj)]
      exact hp j hj
    · rcases u' a z with z | z
      · rcases u2 a z with z | z
        · exact .inl z
        · exact .inr (.inl z)
      · exact .inr (.inr z)
  | [], _, _, _, _, _, _, _, .cons _ _ _, _, _, hl, _, _, _ => by simp at hl
  | _ :: _, _, _, _, _, _, _, _, .nil, _, _, hl, _, _, _ => by simp at hl
theorem OwnAll.length {G H : Hp} : ∀ {vs : List V} {ms : List (MO S)} {fr : Addr → Prop}, OwnAll K R G H vs ms fr → vs.length = ms.length
  | _, _, _, .nil => rfl
  | _, _, _, .cons _ o _ => by rw [List.length_cons, List.length_cons, OwnAll.length o]
theorem OwnAll.mono {G H H' : Hp} : ∀ {vs : List V} {ms : List (MO S)} {fr : Addr → Prop}, OwnAll K R G H vs ms fr → (∀ a, fr a → H' a = H a) → OwnAll K R G H' vs ms fr
  | _, _, _, .nil, _ => .nil
  | _, _, _, .cons o1 o2 d, h => .cons (o1.mono (Same.refl _) fun a ha => h a (.inl ha)) (OwnAll.mono o2 fun a ha => h a (.inr ha)) d
theorem OwnAll.trk {G H : Hp} : ∀ {vs : List V} {ms : List (MO S)} {fr : Addr → Prop}, OwnAll K R G H vs ms fr → ∀ a, fr a → H a ≠ none
  | _, _, _, .nil, _, h => h.elim
  | _, _, _, .cons o1 o2 _, a, h => h.elim (o1.trk a) (OwnAll.trk o2 a)
theorem s_parN {is : List Nat} {f : XF S (List (MO S))} (hn : ∀ i ∈ is, i ∉ pn) (w : tS K R pn (gParN is f) Dn σ H) : tAsg (tTup (tOA K R f)) (L2.gTup K is.length (gNames is)) Dn σ H := by
  obtain ⟨G, F, ds, o, r, e, k⟩ := w
  unfold gParN at e
  cases ef : f ds with
  | none => rw [ef] at e; cases e
  | some p =>
    rw [ef] at e
    simp only [Option.bind_some] at e
    split at e
    · rename_i hz
      cases e
      refine ⟨G, F, ds, p.1, p.2, r, ef, fun vs G' H' F' fr r' s o h1 h2 => ⟨by rw [o.length]; exact hz.2, fun q hq => ?_⟩⟩
      have gr : Gr G' H' G' (upd H' q (.tup vs)) := Gr.own r'.sub hq
      have r2 := r'.grow gr
      have o2 : OwnAll K R G' (upd H' q (.tup vs)) vs p.1 fr := o.mono fun a ha => upd_ne fun z => o.trk a ha (by rw [z]; exact hq)
      refine ⟨q, vs, rfl, .inl (.inl upd_same), by rw [o.length]; exact hz.1, ?_⟩
      refine parN_go (pn := pn) (σ0 := σ) r2 o2 h1 h2 hz.1 hn (fun _ _ => rfl) fun σ' F2 r3 u3 hp => ?_
      refine k σ' G' _ F2 r3 ((s.trans (gr.step (P := fun a => (∃ i, F' i a) ∨ fr a))).weaken u3) hp
    · cases e
variable {X : Cx} {es ts : List Expr} {pos tpos : Pos} {k1 k2 : Nat} {pt2 : Pos}
theorem ss_parN {is : List Nat} {f : XF S (List (MO S))} (hn : ∀ i ∈ is, i ∉ pn) (ha : PA X es (tOA X.K R f)) (hg : PG X (.Tuple ts k1 tpos) (L2.gTup X.K is.length (gNames is))) (hs : swapsWithSole [.Tuple ts k1 tpos] (.Tuple es k2 pt2) pos.line X.env = pure false := by rfl) (hw : swappedStores [.Tuple ts k1 tpos] (.Tuple es k2 pt2) X.env = pure none := by rfl)
    (h1 : (assignEach [.Tuple ts k1 tpos] X.env).map (·.2) = [assign (.Tuple ts k1 tpos) X.env] := by rfl) : PS X (.Assign [.Tuple ts k1 tpos] (.Tuple es k2 pt2) pos) (tS X.K R pn (gParN is f)) := psi (ps_asg (pe_tup ha) hg hs hw h1) fun _ _ _ => s_parN hn
end

/-! ### own things moved out of a slot -/
section
variable {S : Type} {X : Cx} {R : StI S} {K : PySem.W.Frag} {e : Expr}
def oMove (i : Nat) : XF S (MO S) := fun ds => match ds[i]? with
  | some (some (.lst xs)) => some (.lst xs, ds.set i none)
  | some (some (.st s)) => some (.st s, ds.set i none)
  | some (some (.dic kvs)) => some (.dic kvs, ds.set i none)
  | _ => none
theorem RS.moved {ds : DS S} {σ : L2.St} {G H : Hp} {F : Nat → Addr → Prop} {i : Nat} {m : MO S} (r : RS K R ds σ G H F) (e : ds[i]? = some (some m)) : RS K R (ds.set i none) σ G H (setF F i fun _ => False) := by
  have hi : i < ds.length := (List.getElem?_eq_some_iff.mp e).1
  refine ⟨r.sub, by rw [List.length_set]; exact r.len, fun j m' q => ?_, fun j q a ha => ?_, fun j l a ha hb => ?_, fun j a ha => ?_⟩
  · by_cases hj : i = j
    · subst hj
      rw [List.getElem?_set_self hi] at q
      cases q
    · rw [List.getElem?_set_ne hj] at q
      obtain ⟨v, h1, h2⟩ := r.own j m' q
      exact ⟨v, h1, h2.iff fun a => by unfold setF; rw [if_neg (Ne.symm hj)]⟩
  · unfold setF at ha
    by_cases hj : j = i
    · rw [if_pos hj] at ha; exact ha
    · rw [if_neg hj] at ha
      refine r.emp j (fun m' z => q m' ?_) a ha
      rw [List.getElem?_set_ne (Ne.symm hj)]
      exact z
  · unfold setF at ha hb
    by_cases hj : j = i
    · rw [if_pos hj] at ha; exact ha.elim
    · by_cases hl : l = i
      · rw [if_pos hl] at hb; exact hb.elim
      · rw [if_neg hj] at ha
        rw [if_neg hl] at hb
        exact r.dj j l a ha hb
  · unfold setF at ha
    by_cases hj : j = i
    · rw [if_pos hj] at ha; exact ha.elim
    · rw [if_neg hj] at ha; exact r.dis j a ha
theorem o_move {i : Nat} {σ : L2.St} {H : Hp} {Q : VK} (h : tO K R (oMove i) σ H Q) : tVar i σ H Q := by
  obtain ⟨G, F, ds, m, ds', r, e, k⟩ := h
  have key : ∃ m', ds[i]? = some (some m') ∧ m = m' ∧ ds' = ds.set i none := by
    unfold oMove at e
    split at e
    · cases e; exact ⟨_, by assumption, rfl, rfl⟩
    · cases e; exact ⟨_, by assumption, rfl, rfl⟩
    · cases e; exact ⟨_, by assumption, rfl, rfl⟩
    · cases e
  obtain ⟨m', e1, rfl, rfl⟩ := key
  obtain ⟨v, hv, o⟩ := r.own i m e1
  refine ⟨v, hv, k v G H _ (F i) (r.moved e1) ⟨fun _ _ _ z => z, Same.refl _, r.sub, fun _ z => .inl z, fun b hb => ?_⟩ o (fun a ha ⟨j, z⟩ => ?_) (r.dis i)⟩
  · rcases hb with ⟨j, z⟩ | z
    · unfold setF at z
      by_cases hj : j = i
      · rw [if_pos hj] at z; exact z.elim
      · rw [if_neg hj] at z; exact .inl ⟨j, z⟩
    · exact .inl ⟨i, z⟩
  · unfold setF at z
    by_cases hj : j = i
    · rw [if_pos hj] at z; exact z
    · rw [if_neg hj] at z; exact hj (r.dj j i a z ha)
theorem eo_move {i : Nat} (h : PE X e (tVar i)) : PE X e (tO X.K R (oMove (S := S) i)) := PE.imp h fun _ _ _ => o_move
end
/-! ### comprehensions as rules -/
section
variable {S : Type} {X : Cx} {R : StI S} {pn : List Nat} {elt tg iter : Expr} {ifs : List Expr} {scope : Scope} {own : List (Str × Nat)} {pos spos py : Pos} {t : D → Option (List (Nat × D))} {gt : TG} {y : Str} {i : Nat}
theorem ef_lc {src : DS S → Option (List D)} {h : DS S → Option Bool} {g : DS S → Option D} (ht : TGD X.K gt t) (ho : ∀ d as, t d = some as → ∀ p ∈ as, p.1 ∈ own.map (·.2)) (hc : X.calm = true) (hN : X.N.Nodup) (hi : PI X tg iter (tI X.K src)) (ok : BlkOk X.N X.env.scope scope own)
    (hg : ∀ (s : Shared) (H : Hp) (C : Addr) (cl : List (Str × Addr)) (fp : List Addr), PG (X.blk s H scope (compEnvC scope cl C X.env) fp) tg gt) (hh : ∀ (s : Shared) (H : Hp) (C : Addr) (cl : List (Str × Addr)) (fp : List Addr), PTs (X.blk s H scope (compEnvC scope cl C X.env) fp) ifs (tPT X.K h))
    (he : ∀ (s : Shared) (H : Hp) (C : Addr) (cl : List (Str × Addr)) (fp : List Addr), PE (X.blk s H scope (compEnvC scope cl C X.env) fp) elt (tP X.K g)) (hs : ∀ x, foldedSetIterable iter X.env x = pure x := by intro _; rfl) :
    PE X (.ListComp elt [⟨tg, iter, ifs, 0⟩] scope pos) (tF X.K (gLc src (own.map (·.2)) t h g)) := PE.imp (pe_lc hc hN hi ok hg hh he hs) fun _ _ _ => p_lc ht ho
theorem eo_lc {src : XF S (List D)} {h : XF S Bool} {g : XF S D} (ht : TGD X.K gt t) (ho : ∀ d as, t d = some as → ∀ p ∈ as, p.1 ∈ own.map (·.2)) (hc : X.calm = true) (hN : X.N.Nodup) (hi : PI X tg iter (tXI X.K R src)) (ok : BlkOk X.N X.env.scope scope own)
    (hg : ∀ (s : Shared) (H : Hp) (C : Addr) (cl : List (Str × Addr)) (fp : List Addr), PG (X.blk s H scope (compEnvC scope cl C X.env) fp) tg gt) (hh : ∀ (s : Shared) (H : Hp) (C : Addr) (cl : List (Str × Addr)) (fp : List Addr), PTs (X.blk s H scope (compEnvC scope cl C X.env) fp) ifs (tXT X.K R h))
    (he : ∀ (s : Shared) (H : Hp) (C : Addr) (cl : List (Str × Addr)) (fp : List Addr), PE (X.blk s H scope (compEnvC scope cl C X.env) fp) elt (tX X.K R g)) (hs : ∀ x, foldedSetIterable iter X.env x = pure x := by intro _; rfl) :
    PE X (.ListComp elt [⟨tg, iter, ifs, 0⟩] scope pos) (tO X.K R (xLc src (own.map (·.2)) t h g)) := PE.imp (pe_lc hc hN hi ok hg hh he hs) fun _ _ _ => x_lc ht ho
/-- how a comprehension's reading is turned into one of own things -/
theorem ss_lcP {src : DS S → Option (List D)} {h : DS S → Option Bool} {g : DS S → Option D} {f : XF S (MO S)} (conv : ∀ σ H (Q : VK), tO X.K R f σ H Q → tF X.K (gLc src (own.map (·.2)) t h g) σ H Q) (hp : i ∉ pn) (ht : TGD X.K gt t) (ho : ∀ d as, t d = some as → ∀ p ∈ as, p.1 ∈ own.map (·.2)) (hc : X.calm = true) (hN : X.N.Nodup) (hy : X.N[i]? = some y) (hyl : X.env.scope.names.lookup y = some .local)
    (hsw : swapsWith (.ListComp elt [⟨tg, iter, ifs, 0⟩] scope pos) (some (.Name y py)) spos.line X.env = pure true) (hi : PI X tg iter (tI X.K src)) (ok : BlkOk X.N X.env.scope scope own)
    (hg : ∀ (s : Shared) (H : Hp) (C : Addr) (cl : List (Str × Addr)) (fp : List Addr), PG (X.blk s H scope (compEnvC scope cl C X.env) fp) tg gt) (hh : ∀ (s : Shared) (H : Hp) (C : Addr) (cl : List (Str × Addr)) (fp : List Addr), PTs (X.blk s H scope (compEnvC scope cl C X.env) fp) ifs (tPT X.K h))
    (he : ∀ (s : Shared) (H : Hp) (C : Addr) (cl : List (Str × Addr)) (fp : List Addr), PE (X.blk s H scope (compEnvC scope cl C X.env) fp) elt (tP X.K g)) (hs : ∀ x, foldedSetIterable iter X.env x = pure x := by intro _; rfl) :
    PS X (.Assign [.Name y py] (.ListComp elt [⟨tg, iter, ifs, 0⟩] scope pos) spos) (tS X.K R pn (gAsg i f)) := psi (ps_setLc hc hN hy hyl hsw hi ok hg hh he hs) fun D σ H w => p_lc ht ho (conv _ _ _ (s_asg hp w))
theorem ss_lcX {src : XF S (List D)} {h : XF S Bool} {g : XF S D} {f : XF S (MO S)} (conv : ∀ σ H (Q : VK), tO X.K R f σ H Q → tO X.K R (xLc src (own.map (·.2)) t h g) σ H Q) (hp : i ∉ pn) (ht : TGD X.K gt t) (ho : ∀ d as, t d = some as → ∀ p ∈ as, p.1 ∈ own.map (·.2)) (hc : X.calm = true) (hN : X.N.Nodup) (hy : X.N[i]? = some y) (hyl : X.env.scope.names.lookup y = some .local)
    (hsw : swapsWith (.ListComp elt [⟨tg, iter, ifs, 0⟩] scope pos) (some (.Name y py)) spos.line X.env = pure true) (hi : PI X tg iter (tXI X.K R src)) (ok : BlkOk X.N X.env.scope scope own)
    (hg : ∀ (s : Shared) (H : Hp) (C : Addr) (cl : List (Str × Addr)) (fp : List Addr), PG (X.blk s H scope (compEnvC scope cl C X.env) fp) tg gt) (hh : ∀ (s : Shared) (H : Hp) (C : Addr) (cl : List (Str × Addr)) (fp : List Addr), PTs (X.blk s H scope (compEnvC scope cl C X.env) fp) ifs (tXT X.K R h))
    (he : ∀ (s : Shared) (H : Hp) (C : Addr) (cl : List (Str × Addr)) (fp : List Addr), PE (X.blk s H scope (compEnvC scope cl C X.env) fp) elt (tX X.K R g)) (hs : ∀ x, foldedSetIterable iter X.env x = pure x := by intro _; rfl) :
    PS X (.Assign [.Name y py] (.ListComp elt [⟨tg, iter, ifs, 0⟩] scope pos) spos) (tS X.K R pn (gAsg i f)) := psi (ps_setLc hc hN hy hyl hsw hi ok hg hh he hs) fun D σ H w => x_lc ht ho (conv _ _ _ (s_asg hp w))
end
end DL
set_option Elab.async false
set_option linter.all false
set_option maxRecDepth 100000
set_option maxHeartbeats 4000000
namespace DL
open PySem PySem.Spec PyProof.Rows L2

/-! ### sources of loops, with effects -/
section
variable {S : Type} {X : Cx} {R : StI S} {tg e a b : Expr} {p pos : Pos}
def xiP (src : DS S → Option (List D)) : XF S (List D) := fun ds => (src (hideDS ds)).map fun xs => (xs, ds)
theorem xi_P {src : DS S → Option (List D)} (h : PI X tg e (tI X.K src)) : PI X tg e (tXI X.K R (xiP src)) := PI.imp h fun σ H J ⟨G, F, ds, xs, ds', r, e, k⟩ => by
  unfold xiP at e
  cases eg : src (hideDS ds) with
  | none => rw [eg] at e; cases e
  | some ys =>
    rw [eg] at e
    cases e
    exact ⟨G, hideDS ds, _, r.sub, r.view, eg, fun I G' H' gr it => k I G' H' F (r.grow gr) gr.step it⟩
def xSrc (f : XF S D) : XF S (List D) := xb f fun x => xlift (srcD x)
theorem xi_any {f : XF S D} (h : PE X e (tX X.K R f)) : PI X tg e (tXI X.K R (xSrc f)) := PI.imp (PI.or (pi_list h) (PI.or (pi_tup h) (pi_str h))) fun σ H J ⟨G, F, ds, xs, ds', r, e, k⟩ => by
  obtain ⟨d, ds1, ea, e⟩ := xb_some e
  obtain ⟨eg, e9⟩ := xlift_some e
  subst e9
  cases d with
  | list ys =>
    cases eg
    refine .inl ⟨G, F, ds, _, _, r, ea, fun v G1 H1 F1 r1 s1 d1 => ?_⟩
    cases d1 with
    | lst q z rr => exact ⟨_, rfl, ⟨_, SqL.of (r1.sub _ _ q)⟩, k _ G1 H1 F1 r1 s1 (itd_list q z rr)⟩
  | tuple ys =>
    cases eg
    refine .inr (.inl ⟨G, F, ds, _, _, r, ea, fun v G1 H1 F1 r1 s1 d1 => ?_⟩)
    cases d1 with
    | tup q z rr => exact ⟨_, rfl, ⟨_, sqt_mono r1.sub q⟩, k _ G1 H1 F1 r1 s1 (itd_tup q z rr)⟩
  | str x =>
    cases eg
    refine .inr (.inr ⟨G, F, ds, _, _, r, ea, fun v G1 H1 F1 r1 s1 d1 => ?_⟩)
    cases d1 with
    | str _ z o => exact ⟨_, rfl, k _ G1 H1 F1 r1 s1 (itd_str z o)⟩
  | _ => cases eg
def xArgs (f : XF S (List D)) (g : List D → Option (List D)) : XF S (List D) := xb f fun x => xlift (g x)
theorem xi_r1 {f : XF S (List D)} (hg : Gl X "range") (hm : X.mg "range" = none) (ha : PA X [a] (tXA X.K R f)) (hs : starEach [a] X.env = [(false, eval a X.env)] := by rfl) : PI X tg (.Call (.Name "range" p) [a] [] pos) (tXI X.K R (xArgs f rng1)) :=
  PI.imp (pi_range1 hg hm ha hs) fun σ H J ⟨G, F, ds, xs, ds', r, e, k⟩ => by
    obtain ⟨as, ds1, ea, e⟩ := xb_some e
    obtain ⟨eg, e9⟩ := xlift_some e
    subst e9
    match as, eg with
    | [.int j], eg =>
      simp only [rng1] at eg
      split at eg
      · rename_i hz
        cases eg
        refine ⟨G, F, ds, _, _, r, ea, fun vs G1 H1 F1 r1 s1 d1 => ?_⟩
        cases d1 with
        | cons d1 rr =>
          cases rr
          cases d1
          have hl : (sizeLine : Int) < 2 ^ 62 := by decide
          exact ⟨j, rfl, hz.2, by omega, k _ G1 H1 F1 r1 s1 (itd_rng (by omega))⟩
      · cases eg
theorem xi_r2 {f : XF S (List D)} (hg : Gl X "range") (hm : X.mg "range" = none) (ha : PA X [a, b] (tXA X.K R f)) (hs : starEach [a, b] X.env = [(false, eval a X.env), (false, eval b X.env)] := by rfl) (hs2 : starEach [b] X.env = [(false, eval b X.env)] := by rfl) :
    PI X tg (.Call (.Name "range" p) [a, b] [] pos) (tXI X.K R (xArgs f rng2)) :=
  PI.imp (pi_range2 hg hm ha hs hs2) fun σ H J ⟨G, F, ds, xs, ds', r, e, k⟩ => by
    obtain ⟨as, ds1, ea, e⟩ := xb_some e
    obtain ⟨eg, e9⟩ := xlift_some e
    subst e9
    match as, eg with
    | [.int i, .int j], eg =>
      simp only [rng2] at eg
      split at eg
      · rename_i hz
        cases eg
        refine ⟨G, F, ds, _, _, r, ea, fun vs G1 H1 F1 r1 s1 d1 => ?_⟩
        cases d1 with
        | cons d1 rr =>
          cases rr with
          | cons d2 rr =>
            cases rr
            cases d1
            cases d2
            exact ⟨i, j, rfl, hz.2, k _ G1 H1 F1 r1 s1 (itd_rng (by omega))⟩
      · cases eg
/-! enumerate over the script -/
def xEnS (i : Nat) : XF S (List D) := fun ds => (scrAt ds i).bind fun ns => if ns.length ≤ sizeLine then some (enumD 0 (ns.map .int), ds) else none
def xSc (i : Nat) : XF S (List D) := fun ds => (scrAt ds i).bind fun ns => if ns.length ≤ sizeLine then some (ns.map .int, ds) else none
theorem den_ints {K : PySem.W.Frag} {G : Hp} : ∀ ns : List Int, DenAll K G (ns.map V.int) (ns.map PyData.int)
  | [] => .nil
  | n :: r => .cons (.int n) (den_ints r)
theorem itd_scr {K : PySem.W.Frag} {G : Hp} {a : Addr} {ns : List Int} (q : SqL K G a (ns.map V.int)) (z : ns.length ≤ sizeLine) : ItD K (Itl K a) (ns.map PyData.int) G where
  len := by rw [List.length_map]; exact z
  go := fun i H s hi => ⟨ns.map V.int, (ns.map V.int)[i]'(by rw [List.length_map] at hi ⊢; exact hi), sql_mono s q, List.getElem?_eq_getElem _⟩
  stop := fun i H s hi hj => ⟨ns.map V.int, sql_mono s q, by rw [List.length_map] at hi hj ⊢; omega⟩
  yld := fun i H x H' s hi ⟨eh, hy⟩ => by
    subst eh
    have hx := hy _ (sql_mono s q)
    obtain ⟨d, h1, h2⟩ := (den_ints (K := K) (G := G) ns).getV hx
    exact ⟨d, h1, fun G0 s0 s1 => ⟨G0, .refl s1, h2.mono s0⟩⟩
theorem itd_enS {K : PySem.W.Frag} {G : Hp} {a : Addr} {ns : List Int} (q : SqL K G a (ns.map V.int)) (z : ns.length ≤ sizeLine) : ItD K (Ite K a) (enumD 0 (ns.map PyData.int)) G where
  len := by rw [enumD_len, List.length_map]; exact z
  go := fun i H s hi => by
    rw [enumD_len, List.length_map] at hi
    exact ⟨ns.map V.int, (ns.map V.int)[i]'(by rw [List.length_map]; exact hi), sql_mono s q, List.getElem?_eq_getElem _⟩
  stop := fun i H s hi hj => ⟨ns.map V.int, sql_mono s q, by rw [enumD_len, List.length_map] at hi hj; rw [List.length_map]; omega⟩
  yld := fun i H x H' s hi ⟨T, y, ev, hT, eh, hy⟩ => by
    subst ev eh
    have hx := hy _ (sql_mono s q)
    obtain ⟨d, h1, h2⟩ := (den_ints (K := K) (G := G) ns).getV hx
    refine ⟨.tuple [.int (i : Int), d], by rw [enumD_get, h1]; simp, fun G0 s0 s1 => ⟨upd G0 T (.tup [.int (i : Int), y]), .upd s1 hT, ?_⟩⟩
    exact .tup (.inl (.inl upd_same)) (by show 2 ≤ sizeLine; decide) (.cons (.int _) (.cons ((h2.mono s0).at_new (s1.free hT)) .nil))
theorem xi_enS {i : Nat} (hg : Gl X "enumerate") (hm : X.mg "enumerate" = none) (ha : PE X e (tVar i)) (hst : starEach [e] X.env = (false, eval e X.env) :: starEach [] X.env := by rfl) (hs : starEach [e] X.env = [(false, eval e X.env)] := by rfl) {elts : List Expr} {kk : Nat} {tpos : Pos} :
    PI X (.Tuple elts kk tpos) (.Call (.Name "enumerate" p) [e] [] pos) (tXI X.K R (xEnS i)) :=
  PI.imp (pi_enum hg hm (pa_cons ha pa_nil hst) hs) fun σ H J ⟨G, F, ds, xs, ds', r, e, k⟩ => by
    unfold xEnS at e
    cases es : scrAt ds i with
    | none => rw [es] at e; cases e
    | some ns =>
      rw [es] at e
      simp only [Option.bind_some] at e
      split at e
      · cases e
        rename_i hz
        obtain ⟨v, hv, ⟨a, rfl, q⟩, _⟩ := r.own i _ (scrAt_some es)
        exact ⟨_, hv, a, ns.map V.int, rfl, sql_mono r.sub q, k _ G H F r (.refl r.sub) (itd_enS q hz)⟩
      · cases e
theorem xi_scr {i : Nat} (ha : PE X e (tVar i)) : PI X tg e (tXI X.K R (xSc i)) := PI.imp (pi_list ha) fun σ H J ⟨G, F, ds, xs, ds', r, e, k⟩ => by
    unfold xSc at e
    cases es : scrAt ds i with
    | none => rw [es] at e; cases e
    | some ns =>
      rw [es] at e
      simp only [Option.bind_some] at e
      split at e
      · cases e
        rename_i hz
        obtain ⟨v, hv, ⟨a, rfl, q⟩, _⟩ := r.own i _ (scrAt_some es)
        exact ⟨_, hv, a, rfl, ⟨_, sql_mono r.sub q⟩, k _ G H F r (.refl r.sub) (itd_scr q hz)⟩
      · cases e
end
/-! ### slices -/
section
variable {S : Type} {X : Cx} {R : StI S} {e : Expr} {pos p2 : Pos} {lo hi : Option Expr}
def tXO (K : PySem.W.Frag) (R : StI S) (g : XF S (Option Int)) : TO := fun σ H Q => ∃ G F ds o ds', RS K R ds σ G H F ∧ g ds = some (o, ds') ∧ ∀ G' H' F', RS K R ds' σ G' H' F' → Step G H (fun a => ∃ i, F i a) G' H' (fun a => ∃ i, F' i a) → Q o H'
def xNoPart : XF S (Option Int) := fun ds => some (none, ds)
def intD1 : D → Option (Option Int)
  | .int i => some (some i)
  | _ => none
def xPart (f : XF S D) : XF S (Option Int) := xb f fun x => xlift (intD1 x)
theorem xo_no : PO X none (tXO X.K R (xNoPart (S := S))) := PO.imp po_none fun σ H Q ⟨G, F, ds, o, ds', r, e, k⟩ => by
  cases e
  exact k G H F r (.refl r.sub)
theorem xo_part {f : XF S D} (h : PE X e (tX X.K R f)) : PO X (some e) (tXO X.K R (xPart f)) := PO.imp (po_some h) fun σ H Q ⟨G, F, ds, o, ds', r, e, k⟩ => by
  obtain ⟨x, ds1, ea, e⟩ := xb_some e
  obtain ⟨eg, e9⟩ := xlift_some e
  subst e9
  match x, eg with
  | .int i, eg =>
    cases eg
    refine ⟨G, F, ds, .int i, _, r, ea, fun v G1 H1 F1 r1 s1 d1 => ?_⟩
    cases d1
    exact ⟨i, rfl, k G1 H1 F1 r1 s1⟩
def xSl3 {α : Type} (fa : XF S D) (fl fh : XF S (Option Int)) (g : D → Option Int → Option Int → Option α) : XF S α := xb fa fun x => xb fl fun l => xb fh fun h => xlift (g x l h)
theorem eo_sl {fa : XF S D} {fl fh : XF S (Option Int)} (he : PE X e (tX X.K R fa)) (hl : PO X lo (tXO X.K R fl)) (hu : PO X hi (tXO X.K R fh)) : PE X (.Subscript e (.Slice lo hi none p2) pos) (tO X.K R (xSl3 fa fl fh fun x l h => (slL x l h).map .lst)) := PE.imp (pe_slice sl_list he hl hu) fun σ H Q ⟨G, F, ds, m, ds', r, e, k⟩ => by
  obtain ⟨x, ds1, ea, e⟩ := xb_some e
  obtain ⟨l, ds2, el, e⟩ := xb_some e
  obtain ⟨h, ds3, eh, e⟩ := xb_some e
  obtain ⟨eg, e9⟩ := xlift_some e
  subst e9
  match x, ea, eg with
  | .list ys, ea, eg =>
    cases eg
    refine ⟨G, F, ds, _, ds1, r, ea, fun v G1 H1 F1 r1 s1 d1 => ?_⟩
    refine ⟨G1, F1, ds1, l, ds2, r1, el, fun G2 H2 F2 r2 s2 => ?_⟩
    refine ⟨G2, F2, ds2, h, _, r2, eh, fun G3 H3 F3 r3 s3 => ?_⟩
    have d3 := d1.mono (s2.trans s3).keep
    cases d3 with
    | lst q z rr =>
      rename_i a0 vs0
      refine ⟨_, _, rfl, SqL.of (r3.sub _ _ q), fun p hp => ?_⟩
      have g3 := Gr.own (o := .lst (cutV vs0 l h)) r3.sub hp
      refine k (.ref p) G3 (upd H3 p _) F3 (· = p) (r3.grow g3) ((s1.trans (s2.trans s3)).trans ⟨g3.step (P := fun a => ∃ i, F3 i a).frame, g3.keep, g3.sub, g3.step.new0, fun b hb => ?_⟩) ⟨p, _, rfl, upd_same, Nat.le_trans (cutV_le _ _ _) z, den_cut rr l h, fun a => Iff.rfl⟩ (fun a ha ⟨i, hi⟩ => ?_) fun a ha => by rw [ha]; exact r3.sub.free hp
      · rcases hb with hb | hb
        · exact .inl hb
        · exact .inr (by rw [hb]; exact hp)
      · rw [ha] at hi
        exact r3.trk i p hi hp
theorem cutS_le (z : Str) (lo hi : Option Int) : (cutS z lo hi).length ≤ z.length := by
  show ((z.cps.toList.drop _).take _).toArray.size ≤ z.cps.size
  simp only [List.size_toArray, List.length_take, List.length_drop, Array.length_toList]
  omega
/-- the whole of a tuple is the tuple itself -/
def slT1 : D → Option Int → Option Int → Option D
  | .tuple xs, lo, hi => some (.tuple (cutD xs lo hi))
  | .str x, lo, hi => if PyData.strOk (cutS x lo hi) = true then some (.str (cutS x lo hi)) else none
  | _, _, _ => none
theorem sl_ts2 : SlR X (fun x lo hi H Q => rSlA X.K x lo hi H Q ∨ rSlS x lo hi H Q) := SlR.or sl_tupA sl_str
theorem cutD_whole {xs : List D} {lo hi : Option Int} (h : HT.sIx xs.length 0 lo = 0 ∧ HT.sIx xs.length xs.length hi = xs.length) : cutD xs lo hi = xs := by
  unfold cutD
  rw [h.1, h.2, List.drop_zero, Nat.sub_zero, List.take_length]
theorem slT_ok {K : PySem.W.Frag} {v : V} {x d : D} {l h : Option Int} {G H : Hp} {Q : VK} (s : Same G H) (dv : Den K G v x) (e : slT1 x l h = some d) (k : ∀ v G' H', Gr G H G' H' → Den K G' v d → Q v H') : rSlA K v l h H Q ∨ rSlS v l h H Q := by
  cases dv with
  | tup q z r =>
    rename_i a vs xs
    cases e
    refine .inl ⟨a, vs, rfl, sqt_mono s q, fun hw => ?_, fun hw p hp => ?_⟩
    · rw [r.length] at hw
      exact k _ G H (.refl s) (by rw [cutD_whole hw]; exact .tup q z r)
    · have hg := s.free hp
      exact k _ (upd G p (.tup (cutV vs l h))) _ (.upd s hp) (.tup (.inl (.inl upd_same)) (Nat.le_trans (cutV_le _ _ _) z) ((den_cut r l h).mono fun b u e => by rw [upd_ne (ne_of_none e hg)]; exact e))
  | str y z o =>
    unfold slT1 at e
    dsimp only at e
    split at e
    · rename_i ho
      cases e
      exact .inr ⟨y, rfl, z, k _ G H (.refl s) (.str _ (Nat.le_trans (cutS_le _ _ _) z) ho)⟩
    · cases e
  | _ => cases e
def gSlT (ga : DS S → Option D) (gl gh : DS S → Option (Option Int)) : DS S → Option D := fun ds => (ga ds).bind fun x => (gl ds).bind fun l => (gh ds).bind fun h => slT1 x l h
theorem ep_sl {ga : DS S → Option D} {gl gh : DS S → Option (Option Int)} (he : PE X e (tP X.K ga)) (hl : PO X lo (tPO X.K gl)) (hu : PO X hi (tPO X.K gh)) : PE X (.Subscript e (.Slice lo hi none p2) pos) (tP X.K (gSlT ga gl gh)) := PE.imp (pe_slice sl_ts2 he hl hu) fun σ H Q ⟨G, ds, d, s, w, e, k⟩ => by
  unfold gSlT at e
  cases ea : ga ds with
  | none => rw [ea] at e; cases e
  | some x =>
    cases el : gl ds with
    | none => simp [ea, el] at e
    | some l =>
      cases eh : gh ds with
      | none => simp [ea, el, eh] at e
      | some h =>
        simp only [ea, el, eh, Option.bind_some] at e
        refine ⟨G, ds, x, s, w, ea, fun v G1 H1 g1 d1 => ?_⟩
        refine ⟨G1, ds, l, g1.sub, w.mono g1.keep, el, fun G2 H2 g2 => ?_⟩
        refine ⟨G2, ds, h, g2.sub, w.mono (g1.trans g2).keep, eh, fun G3 H3 g3 => ?_⟩
        exact slT_ok g3.sub (d1.mono (g2.trans g3).keep) e fun v G4 H4 g4 d4 => k v G4 H4 (((g1.trans g2).trans g3).trans g4) d4
theorem ex_sl {fa : XF S D} {fl fh : XF S (Option Int)} (he : PE X e (tX X.K R fa)) (hl : PO X lo (tXO X.K R fl)) (hu : PO X hi (tXO X.K R fh)) : PE X (.Subscript e (.Slice lo hi none p2) pos) (tX X.K R (xSl3 fa fl fh slT1)) := PE.imp (pe_slice sl_ts2 he hl hu) fun σ H Q ⟨G, F, ds, m, ds', r, e, k⟩ => by
  obtain ⟨x, ds1, ea, e⟩ := xb_some e
  obtain ⟨l, ds2, el, e⟩ := xb_some e
  obtain ⟨h, ds3, eh, e⟩ := xb_some e
  obtain ⟨eg, e9⟩ := xlift_some e
  subst e9
  refine ⟨G, F, ds, _, ds1, r, ea, fun v G1 H1 F1 r1 s1 d1 => ?_⟩
  refine ⟨G1, F1, ds1, l, ds2, r1, el, fun G2 H2 F2 r2 s2 => ?_⟩
  refine ⟨G2, F2, ds2, h, _, r2, eh, fun G3 H3 F3 r3 s3 => ?_⟩
  exact slT_ok r3.sub (d1.mono (s2.trans s3).keep) eg fun v G4 H4 g4 d4 => k v G4 H4 F3 (r3.grow g4) (((s1.trans s2).trans s3).trans g4.step) d4
/-- xs[::-1] -/
def gRev (ga : DS S → Option D) : DS S → Option (List D) := fun ds => (ga ds).bind fun x => match x with
  | .list ys => some ys.reverse
  | _ => none
theorem DenAll.rev {K : PySem.W.Frag} {G : Hp} : ∀ {vs : List V} {ds : List D}, DenAll K G vs ds → DenAll K G vs.reverse ds.reverse
  | _, _, .nil => .nil
  | _, _, .cons d r => by rw [List.reverse_cons, List.reverse_cons]; exact (DenAll.rev r).append (.cons d .nil)
theorem ef_rev {ga : DS S → Option D} {k : Nat} {p1 p3 p4 : Pos} (he : PE X e (tP X.K ga)) : PE X (.Subscript e (.Slice none none (some (.UnaryOp .USub (.Constant (.int 1) k p1) p2)) p3) pos) (tF X.K (gRev ga)) := PE.imp (pe_revL he) fun σ H Q ⟨G, ds, d, s, w, e, k⟩ => by
  unfold gRev at e
  cases ea : ga ds with
  | none => rw [ea] at e; cases e
  | some x =>
    rw [ea] at e
    match x, ea, e with
    | .list ys, ea, e =>
      cases e
      refine ⟨G, ds, _, s, w, ea, fun v G1 H1 g1 d1 => ?_⟩
      cases d1 with
      | lst q z r => exact ⟨_, _, rfl, SqL.of (g1.sub _ _ q), fun p hp => k p _ G1 _ (g1.trans (.own g1.sub hp)) (g1.sub.free hp) (g1.all.free hp) upd_same (by rw [List.length_reverse]; exact z) r.rev⟩
end
/-! ### texts -/
section
variable {S : Type} {X : Cx} {R : StI S} {o e : Expr} {apos pos : Pos}
def strOkAll (ys : List Str) : Bool := ys.all fun y => decide (y.length ≤ sizeLine) && PyData.strOk y
theorem den_strs {K : PySem.W.Frag} {G : Hp} : ∀ {ys : List Str}, strOkAll ys = true → DenAll K G (ys.map V.str) (ys.map PyData.str)
  | [], _ => .nil
  | y :: r, h => by
    unfold strOkAll at h
    rw [List.all_cons] at h
    obtain ⟨h1, h2⟩ := Bool.and_eq_true_iff.mp h
    obtain ⟨h3, h4⟩ := Bool.and_eq_true_iff.mp h1
    exact .cons (.str y (of_decide_eq_true h3) h4) (den_strs h2)
def splitD : D → D → Option (List D)
  | .str a, .str b => if (b.length == 0) = false ∧ a.length + 2 ≤ sizeLine ∧ (Txt.split a b).length ≤ sizeLine ∧ strOkAll (Txt.split a b) = true then some ((Txt.split a b).map .str) else none
  | _, _ => none
def gSplit (ga gb : DS S → Option D) : DS S → Option (List D) := fun ds => (ga ds).bind fun x => (gb ds).bind fun y => splitD x y
theorem ef_split {ga gb : DS S → Option D} (ho : PE X o (tP X.K ga)) (he : PE X e (tP X.K gb)) (hs : starEach [e] X.env = [(false, eval e X.env)] := by rfl) (hbase : attributeBase o "split" X.env (eval o X.env) = eval o X.env := by rfl) (hline : (apos.endLine == pos.line) = true := by rfl) :
    PE X (.Call (.Attribute o "split" apos) [e] [] pos) (tF X.K (gSplit ga gb)) := PE.imp (pe_split ho he hs hbase hline) fun σ H Q ⟨G, ds, d, s, w, e, k⟩ => by
  unfold gSplit at e
  cases ea : ga ds with
  | none => rw [ea] at e; cases e
  | some x =>
    cases eb : gb ds with
    | none => simp [ea, eb] at e
    | some y =>
      simp only [ea, eb, Option.bind_some] at e
      match x, y, ea, eb, e with
      | .str a, .str b, ea, eb, e =>
        simp only [splitD] at e
        split at e
        · rename_i hz
          cases e
          refine ⟨G, ds, _, s, w, ea, fun v G1 H1 g1 d1 => ?_⟩
          cases d1
          refine ⟨⟨_, rfl⟩, G1, ds, _, g1.sub, w.mono g1.keep, eb, fun u G2 H2 g2 d2 => ?_⟩
          cases d2
          exact ⟨a, b, rfl, rfl, hz.1, hz.2.1, fun p hp => k p _ G2 _ ((g1.trans g2).trans (.own g2.sub hp)) (g2.sub.free hp) ((g1.trans g2).all.free hp) upd_same (by rw [List.length_map]; exact hz.2.2.1) (den_strs hz.2.2.2)⟩
        · cases e
def joinD : D → D → Option D
  | .str a, .list ys => (strsOf ys).bind fun zs => if (zs.map (·.length)).sum + zs.length * a.length ≤ 16777216 ∧ (Txt.join a zs).length ≤ sizeLine ∧ PyData.strOk (Txt.join a zs) = true then some (.str (Txt.join a zs)) else none
  | _, _ => none
theorem join_ok {K : PySem.W.Frag} {v u : V} {x y d : D} {G H : Hp} {Q : VK} (s : Same G H) (dv : Den K G v x) (du : Den K G u y) (e : joinD x y = some d) (k : ∀ v, Den K G v d → Q v H) :
    (∃ a, v = .str a) ∧ ∃ a p, ∃ ys : List Str, v = .str a ∧ [u] = [.ref p] ∧ (SqL K H p (ys.map V.str) ∨ SqT K H p (ys.map V.str)) ∧ (ys.map (·.length)).sum + ys.length * a.length ≤ 16777216 ∧ Q (.str (Txt.join a ys)) H := by
  match x, y, e with
  | .str a, .list ys, e =>
    unfold joinD at e
    dsimp only at e
    cases es : strsOf ys with
    | none => rw [es] at e; cases e
    | some zs =>
      rw [es] at e
      simp only [Option.bind_some] at e
      split at e
      · rename_i hz
        cases e
        cases dv
        cases du with
        | lst q z r =>
          have := strs_den r es
          subst this
          exact ⟨⟨_, rfl⟩, a, _, zs, rfl, rfl, .inl (SqL.of (s _ _ q)), hz.1, k _ (.str _ hz.2.1 hz.2.2)⟩
      · cases e
def gOp2 (g : D → D → Option D) (ga gb : DS S → Option D) : DS S → Option D := fun ds => (ga ds).bind fun x => (gb ds).bind fun y => g x y
theorem ep_join {ga gb : DS S → Option D} (ho : PE X o (tP X.K ga)) (he : PE X e (tP X.K gb)) (hs : starEach [e] X.env = [(false, eval e X.env)] := by rfl) (hbase : attributeBase o "join" X.env (eval o X.env) = eval o X.env := by rfl) (hline : (apos.endLine == pos.line) = true := by rfl) :
    PE X (.Call (.Attribute o "join" apos) [e] [] pos) (tP X.K (gOp2 joinD ga gb)) := PE.imp (pe_join ho he hs hbase hline) fun σ H Q ⟨G, ds, d, s, w, e, k⟩ => by
  unfold gOp2 at e
  cases ea : ga ds with
  | none => rw [ea] at e; cases e
  | some x =>
    cases eb : gb ds with
    | none => simp [ea, eb] at e
    | some y =>
      simp only [ea, eb, Option.bind_some] at e
      refine ⟨G, ds, x, s, w, ea, fun v G1 H1 g1 d1 => ?_⟩
      have isS : ∃ a, v = .str a := by
        match x, y, e with
        | .str a, .list ys, e => cases d1; exact ⟨_, rfl⟩
      exact ⟨isS, G1, ds, y, g1.sub, w.mono g1.keep, eb, fun u G2 H2 g2 d2 => (join_ok g2.sub (d1.mono g2.keep) d2 e fun v3 d3 => k v3 G2 H2 (g1.trans g2) d3).2⟩
theorem ex_join {fa fb : XF S D} (ho : PE X o (tX X.K R fa)) (he : PE X e (tX X.K R fb)) (hs : starEach [e] X.env = [(false, eval e X.env)] := by rfl) (hbase : attributeBase o "join" X.env (eval o X.env) = eval o X.env := by rfl) (hline : (apos.endLine == pos.line) = true := by rfl) :
    PE X (.Call (.Attribute o "join" apos) [e] [] pos) (tX X.K R (xOp joinD fa fb)) := PE.imp (pe_join ho he hs hbase hline) fun σ H Q ⟨G, F, ds, d, ds', r, e, k⟩ => by
  obtain ⟨x, ds1, ea, e⟩ := xb_some e
  obtain ⟨y, ds2, eb, e⟩ := xb_some e
  obtain ⟨eg, e9⟩ := xlift_some e
  subst e9
  refine ⟨G, F, ds, x, ds1, r, ea, fun v G1 H1 F1 r1 s1 d1 => ?_⟩
  have isS : ∃ a, v = .str a := by
    match x, y, eg with
    | .str a, .list ys, eg => cases d1; exact ⟨_, rfl⟩
  exact ⟨isS, G1, F1, ds1, y, _, r1, eb, fun u G2 H2 F2 r2 s2 d2 => (join_ok r2.sub (d1.mono s2.keep) d2 eg fun v3 d3 => k v3 G2 H2 F2 r2 (s1.trans s2) d3).2⟩
/-- a text times a small number -/
def rRepS : R2 := fun x y H Q => ∃ (a : Str) (n : Int), x = .str a ∧ y = .int n ∧ 0 ≤ n ∧ n ≤ 1000 ∧ a.length ≤ 1000 ∧ ∀ z : Str, z = ⟨(List.replicate n.toNat a.cps.toList).flatten.toArray⟩ → Q (.str z) H
theorem rep_foldl : ∀ (n : Nat) (x acc : Array Nat), (List.replicate n x).foldl (· ++ ·) acc = acc ++ ((List.replicate n x.toList).flatten).toArray
  | 0, x, acc => by simp
  | n + 1, x, acc => by
    rw [List.replicate_succ, List.foldl_cons, rep_foldl n x (acc ++ x), List.replicate_succ, List.flatten_cons]
    apply Array.ext'
    simp
theorem op_repS : OpR X (binaryOp .Mult) rRepS := by
  intro pins s σ H x y v u Q I rx ry h
  obtain ⟨a, n, rfl, rfl, h0, h1, h2, q⟩ := h
  obtain ⟨t, rfl⟩ := rx
  obtain ⟨t', rfl⟩ := ry
  have hlt : ¬ n < -(2 ^ 63 : Int) := by omega
  have hgt : ¬ n ≥ 2 ^ 63 := by omega
  refine PySem.P.mul_str (by rw [decide_eq_false hlt, decide_eq_false hgt]; rfl) (fun hn _ => ?_) (fun hn _ => ?_) ?_
  · have : (1000 : Int) ≤ (2 ^ 63 - 1) / n := by
      apply Int.le_ediv_of_mul_le (by omega)
      omega
    omega
  · have h3 : a.length * n.toNat ≤ 1000 * 1000 := Nat.mul_le_mul h2 (by omega)
    unfold PySem.Builtin.Str.tooLong
    exact decide_eq_false (by have : (1000 * 1000 : Nat) ≤ sizeLine := by decide
                              omega)
  · by_cases c1 : n < 1
    · have e0 : n = 0 := by omega
      subst e0
      rw [if_pos c1]
      refine ⟨by decide, .str Str.empty, H, I.tok _, ⟨_, rfl⟩, q _ ?_⟩
      rfl
    · rw [if_neg c1]
      by_cases c2 : (n == 1 || a.length == 0) = true
      · rw [if_pos c2]
        refine ⟨.str a, H, I, ⟨_, rfl⟩, q a ?_⟩
        rcases Bool.or_eq_true_iff.mp c2 with c | c
        · have e1 : n = 1 := by simpa using c
          subst e1
          simp
        · have e1 : a.cps = #[] := by
            have : a.cps.size = 0 := by simpa [Str.length] using c
            exact Array.eq_empty_of_size_eq_zero this
          cases a
          simp only at e1
          subst e1
          simp
      · rw [if_neg c2]
        refine ⟨?_, .str _, H, I.tok _, ⟨_, rfl⟩, q _ ?_⟩
        · rw [rep_foldl]
          show ((#[] : Array Nat) ++ _).size ≤ sizeLine
          rw [Array.size_append, List.size_toArray, List.size_toArray, List.length_flatten, List.map_replicate, List.sum_replicate_nat]
          have h3 : n.toNat * a.cps.toList.length ≤ 1000 * 1000 := Nat.mul_le_mul (by omega) (by simpa [Str.length] using h2)
          have h4 : (1000 * 1000 : Nat) ≤ sizeLine := by decide
          simp only [List.size_toArray, List.length_nil]
          omega
        · rw [rep_foldl]; simp
def repS (a : Str) (n : Int) : Str := ⟨(List.replicate n.toNat a.cps.toList).flatten.toArray⟩
def repD : D → D → Option D
  | .str a, .int n => if 0 ≤ n ∧ n ≤ 1000 ∧ a.length ≤ 1000 ∧ (repS a n).length ≤ sizeLine ∧ PyData.strOk (repS a n) = true then some (.str (repS a n)) else none
  | _, _ => none
theorem d_rep {K : PySem.W.Frag} : R2D K rRepS repD := by
  intro x y dx dy d G H Q s d1 d2 e k
  match dx, dy, e with
  | .str a, .int n, e =>
    simp only [repD] at e
    split at e
    · rename_i hz
      cases e
      cases d1
      cases d2
      exact ⟨a, n, rfl, rfl, hz.1, hz.2.1, hz.2.2.1, fun z ez => by rw [ez]; exact k _ G H (.refl s) (.str _ hz.2.2.2.1 hz.2.2.2.2)⟩
    · cases e
end
end DL
set_option Elab.async false
set_option linter.all false
set_option maxRecDepth 100000
set_option maxHeartbeats 4000000
namespace DL
open PySem PySem.Spec PyProof.Rows L2

/-! ### list.index -/
section
variable {S : Type} {X : Cx} {R : StI S} {pn : List Nat} {o e i : Expr} {es : List Expr} {apos cpos pos tpos : Pos}
def firstEq (d : D) : List D → Nat → Option Nat
  | [], _ => none
  | x :: xs, k => if PyData.eqv x d = true then some k else firstEq d xs (k + 1)
theorem firstEq_some {d : D} : ∀ {xs : List D} {k j : Nat}, firstEq d xs k = some j → ∃ m z, j = k + m ∧ xs[m]? = some z ∧ PyData.eqv z d = true ∧ ∀ n z', n < m → xs[n]? = some z' → PyData.eqv z' d = false
  | [], _, _, h => by cases h
  | x :: xs, k, j, h => by
    unfold firstEq at h
    split at h
    · rename_i hx
      cases h
      exact ⟨0, x, rfl, rfl, hx, fun n z' hn => absurd hn (Nat.not_lt_zero _)⟩
    · rename_i hx
      obtain ⟨m, z, e1, e2, e3, e4⟩ := firstEq_some h
      refine ⟨m + 1, z, by omega, by simpa using e2, e3, fun n z' hn hz => ?_⟩
      cases n with
      | zero => cases hz; exact Bool.eq_false_iff.mpr hx
      | succ n => exact e4 n z' (by omega) (by simpa using hz)
def idxD : D → D → Option D
  | .list ys, d => if SeqAt.shaped (.list ys) = true ∧ SeqAt.shaped d = true then (firstEq d ys 0).map fun j => .int (j : Nat) else none
  | _, _ => none
theorem ep_idx {ga gb : DS S → Option D} (hu : X.A.units + 65 < cLine) (ho : PE X o (tP X.K ga)) (he : PE X e (tP X.K gb)) (hbase : attributeBase o "index" X.env (eval o X.env) = eval o X.env := by rfl)
    (hfew : ((backTo cpos (starEach [e] X.env)).all (fun x => !x.1) && (backToKw cpos (keywordEach [] X.env)).all (fun x => x.1.isSome)
      && decide (([e] : List Expr).length + ([] : List Keyword).length + (if ([] : List Keyword).isEmpty then 0 else 1) < 30)) = true := by rfl)
    (hline : (apos.endLine == cpos.line) = true := by rfl) (hs : starEach [e] X.env = (false, eval e X.env) :: starEach [] X.env := by rfl) (hplain : (backTo cpos (starEach [] X.env)).any (·.1) = false := by rfl) :
    PE X (.Call (.Attribute o "index" apos) [e] [] cpos) (tP X.K (gOp2 idxD ga gb)) :=
  PE.imp (pe_bm PySem.F.plainAttrs_list PySem.F.slot_list_index PySem.F.type_list_index (mt_indexD hu) ho (pa_cons he pa_nil hs) hbase hfew hline hs hplain) fun σ H Q ⟨G, ds, d, s, w, e, k⟩ => by
    unfold gOp2 at e
    cases ea : ga ds with
    | none => rw [ea] at e; cases e
    | some x =>
      cases eb : gb ds with
      | none => simp [ea, eb] at e
      | some y =>
        simp only [ea, eb, Option.bind_some] at e
        match x, ea, e with
        | .list ys, ea, e =>
          simp only [idxD] at e
          split at e
          · rename_i hz
            cases ej : firstEq y ys 0 with
            | none => rw [ej] at e; cases e
            | some j =>
              rw [ej] at e
              cases e
              obtain ⟨m, z, e1, e2, e3, e4⟩ := firstEq_some ej
              rw [Nat.zero_add] at e1
              subst e1
              refine ⟨G, ds, _, s, w, ea, fun v G1 H1 g1 d1 => ?_⟩
              cases d1 with
              | lst q zz r =>
                refine ⟨.inl ⟨rfl, _, SqL.of (g1.sub _ _ q)⟩, G1, ds, y, g1.sub, w.mono g1.keep, eb, fun u G2 H2 g2 d2 => ?_⟩
                exact ⟨_, u, y, ys, j, z, rfl, rfl, ((Den.lst (g2.keep _ _ q) zz (r.mono g2.keep)).mono g2.sub).dp, (d2.mono g2.sub).dp, hz.1, hz.2, e2, e3, e4, k _ G2 H2 (g1.trans g2) (.int _)⟩
          · cases e

/-! ### own lists changed in place, as rules -/
theorem ty_own {K : PySem.W.Frag} : ∀ p vs (H : Hp), H p = some (.lst vs) → tyV K "list" (.ref p) H := fun p vs H h => .inl ⟨rfl, vs, SqL.of h⟩
theorem ex_app {j : Nat} {f : XF S (List D)} (ho : PE X o (tVar j)) (ha : PA X (e :: es) (tXA X.K R f)) (hbase : attributeBase o "append" X.env (eval o X.env) = eval o X.env := by rfl)
    (hfew : ((backTo cpos (starEach (e :: es) X.env)).all (fun x => !x.1) && (backToKw cpos (keywordEach [] X.env)).all (fun x => x.1.isSome)
      && decide ((e :: es).length + ([] : List Keyword).length + (if ([] : List Keyword).isEmpty then 0 else 1) < 30)) = true := by rfl)
    (hline : (apos.endLine == cpos.line) = true := by rfl) (hs : starEach (e :: es) X.env = (false, eval e X.env) :: starEach es X.env := by rfl) (hplain : (backTo cpos (starEach es X.env)).any (·.1) = false := by rfl) :
    PE X (.Call (.Attribute o "append" apos) (e :: es) [] cpos) (tX X.K R (xMt j appD f)) := PE.imp (pe_bm PySem.F.plainAttrs_list PySem.F.slot_list_append PySem.F.type_list_append mt_append ho ha hbase hfew hline hs hplain) fun _ _ _ h => x_mt d_app ty_own h
theorem ex_ext {j : Nat} {f : XF S (List D)} (ho : PE X o (tVar j)) (ha : PA X (e :: es) (tXA X.K R f)) (hbase : attributeBase o "extend" X.env (eval o X.env) = eval o X.env := by rfl)
    (hfew : ((backTo cpos (starEach (e :: es) X.env)).all (fun x => !x.1) && (backToKw cpos (keywordEach [] X.env)).all (fun x => x.1.isSome)
      && decide ((e :: es).length + ([] : List Keyword).length + (if ([] : List Keyword).isEmpty then 0 else 1) < 30)) = true := by rfl)
    (hline : (apos.endLine == cpos.line) = true := by rfl) (hs : starEach (e :: es) X.env = (false, eval e X.env) :: starEach es X.env := by rfl) (hplain : (backTo cpos (starEach es X.env)).any (·.1) = false := by rfl) :
    PE X (.Call (.Attribute o "extend" apos) (e :: es) [] cpos) (tX X.K R (xMt j extD f)) := PE.imp (pe_bm PySem.F.plainAttrs_list PySem.F.slot_list_extend PySem.F.type_list_extend mt_extend ho ha hbase hfew hline hs hplain) fun _ _ _ h => x_mt d_ext ty_own h
theorem ex_pop {j : Nat} {f : XF S (List D)} (ho : PE X o (tVar j)) (ha : PA X (e :: es) (tXA X.K R f)) (hbase : attributeBase o "pop" X.env (eval o X.env) = eval o X.env := by rfl)
    (hfew : ((backTo cpos (starEach (e :: es) X.env)).all (fun x => !x.1) && (backToKw cpos (keywordEach [] X.env)).all (fun x => x.1.isSome)
      && decide ((e :: es).length + ([] : List Keyword).length + (if ([] : List Keyword).isEmpty then 0 else 1) < 30)) = true := by rfl)
    (hline : (apos.endLine == cpos.line) = true := by rfl) (hs : starEach (e :: es) X.env = (false, eval e X.env) :: starEach es X.env := by rfl) (hplain : (backTo cpos (starEach es X.env)).any (·.1) = false := by rfl) :
    PE X (.Call (.Attribute o "pop" apos) (e :: es) [] cpos) (tX X.K R (xMt j popAtD f)) := PE.imp (pe_bm PySem.F.plainAttrs_list PySem.F.slot_list_pop PySem.F.type_list_pop mt_popAt ho ha hbase hfew hline hs hplain) fun _ _ _ h => x_mt d_popAt ty_own h
theorem ss_setI {j : Nat} {f : XF S D} {gi : DS S → Option D} (ho : PE X o (tVar j)) (hi : PE X i (tP X.K gi)) (he : PE X e (tX X.K R f))
    (ha : ∀ v, assign (.Subscript o i tpos) X.env v = (do
      let ov ← holding [v] (eval o X.env)
      let iv ← holding [v, ov] (eval i X.env)
      standAt tpos
      holding [v, ov, iv] (setItem ov iv v)
      release [v, ov, iv] []) := by intro _; rfl)
    (hs : swapsWithSole [.Subscript o i tpos] e pos.line X.env = pure false := by rfl) (hw : swappedStores [.Subscript o i tpos] e X.env = pure none := by rfl)
    (h1 : (assignEach [.Subscript o i tpos] X.env).map (·.2) = [assign (.Subscript o i tpos) X.env] := by rfl) :
    PS X (.Assign [.Subscript o i tpos] e pos) (tS X.K R pn (gSetI j f gi)) := psi (ps_asg he (pg_sub ho hi set_list ha) hs hw h1) fun _ _ _ => s_setI
end
end DL
set_option Elab.async false
set_option linter.all false
set_option maxRecDepth 100000
set_option maxHeartbeats 4000000
namespace DL
open PySem PySem.Spec PyProof.Rows L2

/-! ### the things with a state of their own: what is drawn by; a dict of ints -/
inductive St2 where
  | draw (cells left : List Int) (at_ : Int)
  | dic (kvs : List (Int × Int))
def drawKV (pc pl : Addr) (k : Int) : List (Key × V) := [(.inr "cells", .ref pc), (.inr "left", .ref pl), (.inr "at", .int k)]
def dicKV (kvs : List (Int × Int)) : List (Key × V) := kvs.map fun p => (.inl p.1, .int p.2)
def rel2 (H : Hp) (v : V) : St2 → (Addr → Prop) → Prop
  | .draw cells left k, fp => ∃ p pc pl, v = .ref p ∧ H p = some (.dK (drawKV pc pl k)) ∧ H pc = some (.lst (cells.map V.int)) ∧ H pl = some (.lst (left.map V.int)) ∧ p ≠ pc ∧ p ≠ pl ∧ pc ≠ pl ∧ ∀ a, fp a ↔ a = p ∨ a = pc ∨ a = pl
  | .dic kvs, fp => ∃ p, v = .ref p ∧ H p = some (.dK (dicKV kvs)) ∧ ∀ a, fp a ↔ a = p
def R2i : StI St2 where
  rel := rel2
  frame := fun {H H' v s fp} h k => by
    cases s with
    | draw cells left n =>
      obtain ⟨p, pc, pl, rfl, h1, h2, h3, n1, n2, n3, hf⟩ := h
      exact ⟨p, pc, pl, rfl, by rw [k p ((hf p).mpr (.inl rfl))]; exact h1, by rw [k pc ((hf pc).mpr (.inr (.inl rfl)))]; exact h2, by rw [k pl ((hf pl).mpr (.inr (.inr rfl)))]; exact h3, n1, n2, n3, hf⟩
    | dic kvs =>
      obtain ⟨p, rfl, h1, hf⟩ := h
      exact ⟨p, rfl, by rw [k p ((hf p).mpr rfl)]; exact h1, hf⟩
  trk := fun {H v s fp} h a ha => by
    cases s with
    | draw cells left n =>
      obtain ⟨p, pc, pl, rfl, h1, h2, h3, n1, n2, n3, hf⟩ := h
      rcases (hf a).mp ha with z | z | z
      · rw [z, h1]; simp
      · rw [z, h2]; simp
      · rw [z, h3]; simp
    | dic kvs =>
      obtain ⟨p, rfl, h1, hf⟩ := h
      rw [(hf a).mp ha, h1]; simp
abbrev DS2 := DS St2
section
variable {S : Type} {K : PySem.W.Frag} {R : StI S} {ds : DS S} {σ : L2.St} {G H : Hp} {F : Nat → Addr → Prop}
theorem RS.put (r : RS K R ds σ G H F) {i : Nat} {s s' : S} {v : V} {q : Addr} {o : HO} (e : ds[i]? = some (some (.st s))) (hv : σ[i]? = some (some v)) (hq : F i q) (rel : R.rel (upd H q o) v s' (F i)) :
    RS K R (ds.set i (some (.st s'))) σ G (upd H q o) F ∧ Step G H (fun a => ∃ j, F j a) G (upd H q o) (fun a => ∃ j, F j a) := by
  have hi : i < ds.length := (List.getElem?_eq_some_iff.mp e).1
  have hg : G q = none := r.dis i q hq
  have sub : Same G (upd H q o) := fun b u z => by rw [upd_ne (ne_of_none z hg)]; exact r.sub b u z
  refine ⟨⟨sub, by rw [List.length_set]; exact r.len, fun j m z => ?_, fun j z => ?_, r.dj, r.dis⟩, ⟨fun a ha u z => ?_, Same.refl _, sub, fun b hb => .inl hb, fun b hb => .inl hb⟩⟩
  · by_cases hj : i = j
    · subst hj
      rw [List.getElem?_set_self hi] at z
      cases z
      exact ⟨v, hv, rel⟩
    · rw [List.getElem?_set_ne hj] at z
      obtain ⟨u, h1, h2⟩ := r.own j m z
      exact ⟨u, h1, h2.mono (Same.refl _) fun a ha => upd_ne fun y => hj (r.dj i j a (by rw [y]; exact hq) ha)⟩
  · by_cases hj : i = j
    · subst hj
      exact absurd (List.getElem?_set_self hi) (z _)
    · rw [List.getElem?_set_ne hj] at z
      exact r.emp j z
  · rw [upd_ne fun y => ha ⟨i, by rw [y]; exact hq⟩]; exact z
end
def drawAt (ds : DS2) (i : Nat) : Option (List Int × List Int × Int) := match ds[i]? with
  | some (some (.st (.draw c l k))) => some (c, l, k)
  | _ => none
theorem drawAt_some {ds : DS2} {i : Nat} {c l : List Int} {k : Int} (h : drawAt ds i = some (c, l, k)) : ds[i]? = some (some (.st (.draw c l k))) := by
  unfold drawAt at h
  split at h
  · cases h; assumption
  · cases h
def dicAt (ds : DS2) (i : Nat) : Option (List (Int × Int)) := match ds[i]? with
  | some (some (.st (.dic kvs))) => some kvs
  | _ => none
theorem dicAt_some {ds : DS2} {i : Nat} {kvs : List (Int × Int)} (h : dicAt ds i = some kvs) : ds[i]? = some (some (.st (.dic kvs))) := by
  unfold dicAt at h
  split at h
  · cases h; assumption
  · cases h
section
variable {X : Cx} {pn : List Nat} {o e i e2 : Expr} {es : List Expr} {pos pos2 apos cpos : Pos} {j : Nat}
/-- m["at"] -/
def xAt (j : Nat) : XF St2 D := fun ds => (drawAt ds j).map fun p => (.int p.2.2, ds)
abbrev kAt : TE := tC (.str "at")
abbrev kLeft : TE := tC (.str "left")
abbrev kCells : TE := tC (.str "cells")
theorem get_at {pc pl : Addr} {k : Int} {H : Hp} {p : Addr} (h : H p = some (.dK (drawKV pc pl k))) : DGet H p (.str "at") (some (.int k)) := by
  have := DGet.k (k := .inr "at") h
  rwa [show valV (drawKV pc pl k) (.inr "at") = some (.int k) from by rfl] at this
theorem get_left {pc pl : Addr} {k : Int} {H : Hp} {p : Addr} (h : H p = some (.dK (drawKV pc pl k))) : DGet H p (.str "left") (some (.ref pl)) := by
  have := DGet.k (k := .inr "left") h
  rwa [show valV (drawKV pc pl k) (.inr "left") = some (.ref pl) from by rfl] at this
theorem get_cells {pc pl : Addr} {k : Int} {H : Hp} {p : Addr} (h : H p = some (.dK (drawKV pc pl k))) : DGet H p (.str "cells") (some (.ref pc)) := by
  have := DGet.k (k := .inr "cells") h
  rwa [show valV (drawKV pc pl k) (.inr "cells") = some (.ref pc) from by rfl] at this
theorem ex_at (hu : X.A.units + 1 < cLine) (ho : PE X o (tVar j)) (hi : PE X i kAt) (hs : NoSl i) : PE X (.Subscript o i pos) (tX X.K R2i (xAt j)) := PE.imp (pe_dget hu ho hi hs) fun σ H Q ⟨G, F, ds, d, ds', r, e, k⟩ => by
  unfold xAt at e
  cases ed : drawAt ds j with
  | none => rw [ed] at e; cases e
  | some t =>
    rw [ed] at e
    cases e
    obtain ⟨c, l, n⟩ := t
    obtain ⟨v, hv, p, pc, pl, rfl, h1, _⟩ := r.own j _ (drawAt_some ed)
    exact ⟨_, hv, p, _, rfl, get_at h1, k _ G H F r (.refl r.sub) (.int _)⟩
/-- m["left"] != [] -/
def xLeftNe (j : Nat) : XF St2 Bool := fun ds => (drawAt ds j).bind fun p => if p.2.1.length ≤ sizeLine then some (!p.2.1.isEmpty, ds) else none
/-- len(m["left"]) -/
def xLeftLen (j : Nat) : XF St2 D := fun ds => (drawAt ds j).map fun p => (.int (p.2.1.length : Nat), ds)
theorem dpAll_ints {K : PySem.W.Frag} {H : Hp} : ∀ l : List Int, DpAll K H (l.map V.int) (l.map PyData.int)
  | [] => .nil
  | n :: r => .cons (.int n) (dpAll_ints r)
theorem layAll_ints : ∀ l : List Int, PyData.canLayAll0 (l.map PyData.int) = true
  | [] => by unfold PyData.canLayAll0; rfl
  | n :: r => by unfold List.map PyData.canLayAll0; rw [layAll_ints r]; rfl
theorem xt_leftNe (hu : X.A.units + 65 < cLine) (ho : PE X o (tVar j)) (hi : PE X i kLeft) (hs : NoSl i) (hm : behindInMarks .NotEq (.List [] pos2) = false) : PT X (.Compare (.Subscript o i pos) [.NotEq] [.List [] pos2] apos) (tXT X.K R2i (xLeftNe j)) :=
  PT.imp (pt_cmpR (o_ne hu) (pe_dget (by omega) ho hi hs) (pe_lst pa_nil) hm) fun σ H Q ⟨G, F, ds, b, ds', r, e, k⟩ => by
    unfold xLeftNe at e
    cases ed : drawAt ds j with
    | none => rw [ed] at e; cases e
    | some t =>
      rw [ed, Option.bind_some] at e
      split at e
      · rename_i hz
        cases e
        obtain ⟨c, l, n⟩ := t
        obtain ⟨v, hv, p, pc, pl, rfl, h1, h2, h3, _⟩ := r.own j _ (drawAt_some ed)
        refine ⟨_, hv, p, _, rfl, get_left h1, (by show 0 ≤ sizeLine; decide), fun q hq => ?_⟩
        have g3 := Gr.own (o := .lst []) r.sub hq
        have h3' := g3.all _ _ h3
        refine ⟨.list (l.map .int), .list [], .lst (.inl (.inl h3')) (dpAll_ints l), .lst (.inl (.inl upd_same)) .nil, ?_, ?_, ?_, ?_⟩
        · unfold PyData.canLay0; exact layAll_ints l
        · decide
        · refine Nat.le_trans (Nat.min_le_right _ _) ?_
          decide
        · refine ⟨_, rfl, ?_⟩
          have e2 : (if true = true then !PyData.eqv (.list (l.map .int)) (.list []) else PyData.eqv (.list (l.map .int)) (.list [])) = !l.isEmpty := by
            cases l with
            | nil => decide
            | cons a l => rfl
          rw [e2]
          exact k G _ F (r.grow g3) g3.step
      · cases e
/-- m["left"][i], m["cells"][i] -/
def xLeftIx (j : Nat) (g : DS2 → Option D) : XF St2 D := fun ds => (drawAt ds j).bind fun p => (g (hideDS ds)).bind fun x => match x with
  | .int n => (atI p.2.1 n).map fun z => (.int z, ds)
  | _ => none
def xCellsIx (j : Nat) (g : DS2 → Option D) : XF St2 D := fun ds => (drawAt ds j).bind fun p => (g (hideDS ds)).bind fun x => match x with
  | .int n => (atI p.1 n).map fun z => (.int z, ds)
  | _ => none
theorem at_map {xs : List Int} {n z : Int} (h : atI xs n = some z) : atI (xs.map V.int) n = some (.int z) := by
  unfold atI at h ⊢
  rw [List.length_map]
  cases e : ixN xs.length n with
  | none => rw [e] at h; cases h
  | some k =>
    rw [e] at h
    simp only [Option.bind_some] at h ⊢
    rw [List.getElem?_map, h]
    rfl
theorem ex_leftLen (hg : Gl X "len") (hm : X.mg "len" = none) (hu : X.A.units + 1 < cLine) (ho : PE X o (tVar j)) (hi : PE X i kLeft) (hs : NoSl i) {p2 : Pos} (he : starEach [.Subscript o i pos] X.env = (false, eval (.Subscript o i pos) X.env) :: starEach [] X.env := by rfl) (hpl : (backTo pos2 (starEach [] X.env)).any (·.1) = false := by rfl) :
    PE X (.Call (.Name "len" p2) [.Subscript o i pos] [] pos2) (tX X.K R2i (xLeftLen j)) :=
  PE.imp (pe_callB call_len hg hm PySem.boot_len (pa_cons (pe_dget hu ho hi hs) pa_nil he) (by decide) (by decide) he hpl) fun σ H Q ⟨G, F, ds, d, ds', r, e, k⟩ => by
    unfold xLeftLen at e
    cases ed : drawAt ds j with
    | none => rw [ed] at e; cases e
    | some t =>
      rw [ed] at e
      cases e
      obtain ⟨c, l, n⟩ := t
      obtain ⟨v, hv, p, pc, pl, rfl, h1, h2, h3, _⟩ := r.own j _ (drawAt_some ed)
      refine ⟨_, hv, p, _, rfl, get_left h1, _, _, rfl, .inl ⟨_, SqL.of h3, rfl⟩, ?_⟩
      rw [List.length_map]
      exact k _ G H F r (.refl r.sub) (.int _)
theorem ex_leftIx {g : DS2 → Option D} (hu : X.A.units + 1 < cLine) (ho : PE X o (tVar j)) (hi : PE X i kLeft) (hs : NoSl i) (he : PE X e2 (tP X.K g)) (hs2 : PlainIx e2) : PE X (.Subscript (.Subscript o i pos) e2 pos2) (tX X.K R2i (xLeftIx j g)) :=
  PE.imp (pe_ix ix_list (pe_dget hu ho hi hs) he hs2) fun σ H Q ⟨G, F, ds, d, ds', r, e, k⟩ => by
    unfold xLeftIx at e
    cases ed : drawAt ds j with
    | none => rw [ed] at e; cases e
    | some t =>
      rw [ed, Option.bind_some] at e
      cases eg : g (hideDS ds) with
      | none => rw [eg] at e; cases e
      | some x =>
        rw [eg, Option.bind_some] at e
        match x, eg, e with
        | .int m, eg, e =>
          dsimp only at e
          cases ea : atI t.2.1 m with
          | none => rw [ea] at e; cases e
          | some z =>
            rw [ea] at e
            cases e
            obtain ⟨c, l, n⟩ := t
            obtain ⟨v, hv, p, pc, pl, rfl, h1, h2, h3, _⟩ := r.own j _ (drawAt_some ed)
            refine ⟨_, hv, p, _, rfl, get_left h1, G, hideDS ds, _, r.sub, r.view, eg, fun u G1 H1 g1 d1 => ?_⟩
            cases d1
            exact ⟨pl, _, m, _, rfl, rfl, SqL.of (g1.all _ _ h3), at_map ea, k _ G1 H1 F (r.grow g1) g1.step (.int _)⟩
theorem ex_cellsIx {g : DS2 → Option D} (hu : X.A.units + 1 < cLine) (ho : PE X o (tVar j)) (hi : PE X i kCells) (hs : NoSl i) (he : PE X e2 (tP X.K g)) (hs2 : PlainIx e2) : PE X (.Subscript (.Subscript o i pos) e2 pos2) (tX X.K R2i (xCellsIx j g)) :=
  PE.imp (pe_ix ix_list (pe_dget hu ho hi hs) he hs2) fun σ H Q ⟨G, F, ds, d, ds', r, e, k⟩ => by
    unfold xCellsIx at e
    cases ed : drawAt ds j with
    | none => rw [ed] at e; cases e
    | some t =>
      rw [ed, Option.bind_some] at e
      cases eg : g (hideDS ds) with
      | none => rw [eg] at e; cases e
      | some x =>
        rw [eg, Option.bind_some] at e
        match x, eg, e with
        | .int m, eg, e =>
          dsimp only at e
          cases ea : atI t.1 m with
          | none => rw [ea] at e; cases e
          | some z =>
            rw [ea] at e
            cases e
            obtain ⟨c, l, n⟩ := t
            obtain ⟨v, hv, p, pc, pl, rfl, h1, h2, h3, _⟩ := r.own j _ (drawAt_some ed)
            refine ⟨_, hv, p, _, rfl, get_cells h1, G, hideDS ds, _, r.sub, r.view, eg, fun u G1 H1 g1 d1 => ?_⟩
            cases d1
            exact ⟨pc, _, m, _, rfl, rfl, SqL.of (g1.all _ _ h2), at_map ea, k _ G1 H1 F (r.grow g1) g1.step (.int _)⟩
/-- m["at"] = e -/
def gSetAt (j : Nat) (f : XF St2 D) : SF St2 := fun ds => (f ds).bind fun p => (drawAt p.2 j).bind fun t => match p.1 with
  | .int n => some (.nx (p.2.set j (some (.st (.draw t.1 t.2.1 n)))))
  | _ => none
theorem ss_setAt {f : XF St2 D} (hu : X.A.units + 1 < cLine) (ho : PE X o (tVar j)) (hi : PE X i kAt) (hv : PE X e (tX X.K R2i f)) (hs : swapsWith e (some (.Subscript o i pos2)) pos.line X.env = pure false) :
    PS X (.Assign [.Subscript o i pos2] e pos) (tS X.K R2i pn (gSetAt j f)) := psi (ps_dput hu ho hi hv hs) fun Dn σ H ⟨G, F, ds, oo, r, e, k⟩ => by
  unfold gSetAt at e
  cases ef : f ds with
  | none => rw [ef] at e; cases e
  | some p =>
    rw [ef, Option.bind_some] at e
    obtain ⟨d, ds1⟩ := p
    cases ed : drawAt ds1 j with
    | none => dsimp only at e; rw [ed] at e; cases e
    | some t =>
      dsimp only at e
      rw [ed, Option.bind_some] at e
      match d, ef, e with
      | .int n, ef, e =>
        cases e
        obtain ⟨c, l, n0⟩ := t
        refine ⟨G, F, ds, _, ds1, r, ef, fun v G1 H1 F1 r1 s1 d1 => ?_⟩
        cases d1
        obtain ⟨v, hv, p, pc, pl, rfl, h1, h2, h3, n1, n2, n3, hf⟩ := r1.own j _ (drawAt_some ed)
        have hdp : DPut H1 p (.str "at") (.int n) (upd H1 p (.dK (drawKV pc pl n))) := .inl ⟨drawKV pc pl n0, .inr "at", h1, rfl, by show 3 < sizeLine; decide, by rfl⟩
        refine ⟨_, hv, p, _, rfl, hdp, ?_⟩
        obtain ⟨r2, s2⟩ := r1.put (s' := .draw c l n) (o := .dK (drawKV pc pl n)) (drawAt_some ed) hv ((hf p).mpr (.inl rfl)) ⟨p, pc, pl, rfl, upd_same, by rw [upd_ne (Ne.symm n1)]; exact h2, by rw [upd_ne (Ne.symm n2)]; exact h3, n1, n2, n3, hf⟩
        exact k σ G1 _ F1 r2 (s1.trans s2) fun _ _ => rfl
/-- m["left"][i] = e -/
def gSetLeft (j : Nat) (f : XF St2 D) (g : DS2 → Option D) : SF St2 := fun ds => (f ds).bind fun p => (drawAt p.2 j).bind fun t => (g (hideDS p.2)).bind fun x => match p.1, x with
  | .int n, .int q => (ixN t.2.1.length q).map fun k => .nx (p.2.set j (some (.st (.draw t.1 (t.2.1.set k n) t.2.2))))
  | _, _ => none
theorem ss_setLeft {f : XF St2 D} {g : DS2 → Option D} {pos3 : Pos} (hu : X.A.units + 1 < cLine) (ho : PE X o (tVar j)) (hi : PE X i kLeft) (hsl : NoSl i) (hi2 : PE X e2 (tP X.K g)) (hv : PE X e (tX X.K R2i f))
    (ha : ∀ v, assign (.Subscript (.Subscript o i pos3) e2 pos2) X.env v = (do
      let ov ← holding [v] (eval (.Subscript o i pos3) X.env)
      let iv ← holding [v, ov] (eval e2 X.env)
      standAt pos2
      holding [v, ov, iv] (setItem ov iv v)
      release [v, ov, iv] []) := by intro _; rfl)
    (hs : swapsWithSole [.Subscript (.Subscript o i pos3) e2 pos2] e pos.line X.env = pure false := by rfl) (hw : swappedStores [.Subscript (.Subscript o i pos3) e2 pos2] e X.env = pure none := by rfl)
    (h1 : (assignEach [.Subscript (.Subscript o i pos3) e2 pos2] X.env).map (·.2) = [assign (.Subscript (.Subscript o i pos3) e2 pos2) X.env] := by rfl) :
    PS X (.Assign [.Subscript (.Subscript o i pos3) e2 pos2] e pos) (tS X.K R2i pn (gSetLeft j f g)) := psi (ps_asg hv (pg_sub (pe_dget hu ho hi hsl) hi2 set_list ha) hs hw h1) fun Dn σ H ⟨G, F, ds, oo, r, e, k⟩ => by
  unfold gSetLeft at e
  cases ef : f ds with
  | none => rw [ef] at e; cases e
  | some p =>
    rw [ef, Option.bind_some] at e
    obtain ⟨d, ds1⟩ := p
    dsimp only at e
    cases ed : drawAt ds1 j with
    | none => rw [ed] at e; cases e
    | some t =>
      rw [ed, Option.bind_some] at e
      cases eg : g (hideDS ds1) with
      | none => rw [eg] at e; cases e
      | some x =>
        rw [eg, Option.bind_some] at e
        match d, x, ef, eg, e with
        | .int n, .int q, ef, eg, e =>
          dsimp only at e
          cases ek : ixN t.2.1.length q with
          | none => rw [ek] at e; cases e
          | some kk =>
            rw [ek] at e
            cases e
            obtain ⟨c, l, n0⟩ := t
            refine ⟨G, F, ds, _, ds1, r, ef, fun v G1 H1 F1 r1 s1 d1 => ?_⟩
            cases d1
            obtain ⟨v, hv, p, pc, pl, rfl, h1, h2, h3, n1, n2, n3, hf⟩ := r1.own j _ (drawAt_some ed)
            refine ⟨_, hv, p, _, rfl, get_left h1, G1, hideDS ds1, _, r1.sub, r1.view, eg, fun u G2 H2 g2 d2 => ?_⟩
            cases d2
            have r2 := r1.grow g2
            have q1 := g2.all _ _ h1
            have q2 := g2.all _ _ h2
            have q3 := g2.all _ _ h3
            refine ⟨pl, _, q, kk, rfl, rfl, q3, by rw [List.length_map]; exact ek, ?_⟩
            have em : (l.map V.int).set kk (.int n) = (l.set kk n).map V.int := by rw [List.map_set]
            obtain ⟨r3, s3⟩ := r2.put (s' := .draw c (l.set kk n) n0) (o := .lst ((l.map V.int).set kk (.int n))) (drawAt_some ed) hv ((hf pl).mpr (.inr (.inr rfl))) ⟨p, pc, pl, rfl, by rw [upd_ne n2]; exact q1, by rw [upd_ne n3]; exact q2, by rw [em]; exact upd_same, n1, n2, n3, hf⟩
            exact k σ G2 _ F1 r3 ((s1.trans g2.step).trans s3) fun _ _ => rfl
end
end DL
set_option Elab.async false
set_option linter.all false
set_option maxRecDepth 100000
set_option maxHeartbeats 4000000
namespace DL
open PySem PySem.Spec PyProof.Rows L2

section
variable {X : Cx} {pn : List Nat} {o e i e2 k1 k2 k3 z0 : Expr} {es : List Expr} {pos pos2 apos cpos : Pos} {j : Nat}
/-- {"cells": .., "left": [], "at": 0} -/
def oNewDraw (f : XF St2 (MO St2)) : XF St2 (MO St2) := fun ds => (f ds).bind fun p => match p.1 with
  | .lst xs => (intsOf xs).map fun ns => (.st (.draw ns [] 0), p.2)
  | _ => none
theorem Step.wide {G H G' H' : Hp} {P P' Z : Addr → Prop} (s : Step G H P G' H' P') : Step G H (fun a => P a ∨ Z a) G' H' (fun a => P' a ∨ Z a) :=
  ⟨fun a ha o e => s.frame a (fun z => ha (.inl z)) o e, s.keep, s.sub, fun b hb => (s.new0 b hb).elim .inl fun z => z.elim (fun z => .inr (.inl z)) fun z => .inr (.inr (.inl z)), fun b hb => hb.elim (fun z => (s.newf b z).elim (fun z => .inl (.inl z)) .inr) fun z => .inl (.inr z)⟩
theorem Step.add {G H : Hp} {P Z : Addr → Prop} {G' H' : Hp} (s : Step G H P G' H' P) (n : ∀ a, Z a → H a = none) : Step G H P G' H' (fun a => P a ∨ Z a) :=
  ⟨s.frame, s.keep, s.sub, s.new0, fun b hb => hb.elim (fun z => s.newf b z) fun z => .inr (n b z)⟩
theorem Step.write {G H : Hp} {P : Addr → Prop} {q : Addr} {o : HO} (s : Same G H) (hg : G q = none) (hp : P q) : Step G H P G (upd H q o) P :=
  ⟨fun a ha u e => by rw [upd_ne fun y => ha (by rw [y]; exact hp)]; exact e, Same.refl _, fun b u e => by rw [upd_ne (ne_of_none e hg)]; exact s b u e, fun b hb => .inl hb, fun b hb => .inl hb⟩
theorem eo_newDraw {f : XF St2 (MO St2)} (h1 : PE X k1 kCells) (h2 : PE X k2 kLeft) (h3 : PE X k3 kAt) (he : PE X e (tO X.K R2i f)) (hz : PE X z0 (tC (.int 0))) : PE X (.Dict [some k1, some k2, some k3] [e, .List [] pos2, z0] pos) (tO X.K R2i (oNewDraw f)) :=
  PE.imp (pe_disp (pps_cons h1 he (pps_cons h2 (pe_lst pa_nil) (pps_cons h3 hz pps_nil))) rfl rfl (by simp) (by show 3 ≤ 15; decide)) fun σ H Q ⟨G, F, ds, m, ds', r, e, k⟩ p hp => by
    unfold oNewDraw at e
    cases ef : f ds with
    | none => rw [ef] at e; cases e
    | some t =>
      rw [ef, Option.bind_some] at e
      obtain ⟨m1, ds1⟩ := t
      match m1, ef, e with
      | .lst xs, ef, e =>
        dsimp only at e
        cases en : intsOf xs with
        | none => rw [en] at e; cases e
        | some ns =>
          rw [en] at e
          cases e
          have g0 := Gr.own (o := .dK []) r.sub hp
          have r0 := r.grow g0
          refine ⟨G, F, ds, _, _, r0, ef, fun v G1 H1 F1 fr1 r1 s1 o1 d1 n1 => ?_⟩
          obtain ⟨pc, vs, rfl, hc, zc, dc, fc⟩ := o1
          have ev : vs = ns.map V.int := ints_den dc en
          have nFp : ¬ ∃ i, F i p := fun ⟨i, z⟩ => r.trk i p z hp
          have H1p : H1 p = some (.dK []) := s1.frame p nFp _ upd_same
          have G1p : G1 p = none := by
            cases q : G1 p with
            | none => rfl
            | some u =>
              rcases s1.new0 p (by rw [q]; simp) with z | z | z
              · exact absurd (r.sub.free hp) z
              · rw [upd_same] at z; cases z
              · exact absurd z nFp
          refine ⟨(by show 0 ≤ sizeLine; decide), fun pl hl => ?_⟩
          have npl : p ≠ pl := fun z => by rw [← z, H1p] at hl; cases hl
          have ncl : pc ≠ pl := fun z => by rw [← z, hc] at hl; cases hl
          have npc : p ≠ pc := fun z => by rw [← z, H1p] at hc; cases hc
          have H2p : upd H1 pl (.lst []) p = some (.dK []) := by rw [upd_ne npl]; exact H1p
          refine ⟨H2p, [(.inr "cells", .ref pc), (.inr "left", .ref pl), (.inr "at", .int 0)], rfl, by show 3 ≤ 15; decide, ?_⟩
          show Q (.ref p) (upd (upd H1 pl (.lst [])) p (.dK (drawKV pc pl 0)))
          have g2 := Gr.own (o := .lst []) r1.sub hl
          have r2 := r1.grow g2
          have sub3 : Same G1 (upd (upd H1 pl (.lst [])) p (.dK (drawKV pc pl 0))) := fun b u z => by rw [upd_ne (ne_of_none z G1p)]; exact g2.sub b u z
          have nF1p : ¬ ∃ i, F1 i p := fun ⟨i, z⟩ => (s1.newf p (.inl ⟨i, z⟩)).elim nFp fun y => by rw [upd_same] at y; cases y
          have r3 : RS X.K R2i ds' σ G1 (upd (upd H1 pl (.lst [])) p (.dK (drawKV pc pl 0))) F1 := by
            refine ⟨sub3, r2.len, fun i m z => ?_, r2.emp, r2.dj, r2.dis⟩
            obtain ⟨u, y1, y2⟩ := r2.own i m z
            exact ⟨u, y1, y2.mono (Same.refl _) fun a ha => upd_ne fun y => nF1p ⟨i, by rw [← y]; exact ha⟩⟩
          have st0 : Step G H (fun a => ∃ i, F i a) G (upd H p (.dK [])) (fun a => (∃ i, F i a) ∨ a = p) := (g0.step (P := fun a => ∃ i, F i a)).add fun a z => by rw [z]; exact hp
          have st1 := s1.wide (Z := fun a => a = p)
          have st2 : Step G1 H1 (fun a => ((∃ i, F1 i a) ∨ fr1 a) ∨ a = p) G1 (upd H1 pl (.lst [])) (fun a => (((∃ i, F1 i a) ∨ fr1 a) ∨ a = p) ∨ a = pl) := (g2.step (P := fun a => ((∃ i, F1 i a) ∨ fr1 a) ∨ a = p)).add fun a z => by rw [z]; exact hl
          have st3 : Step G1 (upd H1 pl (.lst [])) (fun a => (((∃ i, F1 i a) ∨ fr1 a) ∨ a = p) ∨ a = pl) G1 (upd (upd H1 pl (.lst [])) p (.dK (drawKV pc pl 0))) (fun a => (((∃ i, F1 i a) ∨ fr1 a) ∨ a = p) ∨ a = pl) := Step.write g2.sub G1p (.inl (.inr rfl))
          refine k (.ref p) G1 _ F1 (fun a => a = p ∨ a = pc ∨ a = pl) r3 ((((st0.trans st1).trans st2).trans st3).weaken fun a z => ?_) ⟨p, pc, pl, rfl, upd_same, ?_, ?_, npc, npl, ncl, fun a => Iff.rfl⟩ (fun a ha z => ?_) fun a ha => ?_
          · rcases z with z | z | z | z
            · exact .inl (.inl (.inl z))
            · exact .inl (.inr z)
            · exact .inl (.inl (.inr ((fc a).mpr z)))
            · exact .inr z
          · rw [upd_ne (Ne.symm npc), upd_ne ncl, hc, ev]
          · rw [upd_ne (Ne.symm npl), upd_same]; rfl
          · rcases ha with ha | ha | ha
            · exact nF1p (by rw [← ha]; exact z)
            · exact d1 a ((fc a).mpr ha) z
            · obtain ⟨i, z⟩ := z
              exact r1.trk i a z (by rw [ha]; exact hl)
          · rcases ha with ha | ha | ha
            · rw [ha]; exact G1p
            · exact n1 a ((fc a).mpr ha)
            · rw [ha]; exact r1.sub.free hl
/-- m["left"] = a list of one's own -/
def gSetLeftL (j : Nat) (f : XF St2 (MO St2)) : SF St2 := fun ds => (f ds).bind fun p => match p.1 with
  | .lst xs => (intsOf xs).bind fun ns => (drawAt p.2 j).map fun t => .nx (p.2.set j (some (.st (.draw t.1 ns t.2.2))))
  | _ => none
theorem RS.put2 {S : Type} {K : PySem.W.Frag} {R : StI S} {ds : DS S} {σ : L2.St} {G H : Hp} {F : Nat → Addr → Prop} (r : RS K R ds σ G H F) {i : Nat} {s s' : S} {v : V} {q : Addr} {o : HO} {fr fp : Addr → Prop} (e : ds[i]? = some (some (.st s))) (hv : σ[i]? = some (some v)) (hq : F i q) (rel : R.rel (upd H q o) v s' fp)
    (hfp : ∀ a, fp a → F i a ∨ fr a) (d : ∀ a, fr a → ¬ ∃ j, F j a) (n : ∀ a, fr a → G a = none) :
    RS K R (ds.set i (some (.st s'))) σ G (upd H q o) (setF F i fp) ∧ Step G H (fun a => (∃ j, F j a) ∨ fr a) G (upd H q o) (fun a => ∃ j, setF F i fp j a) := by
  have hi : i < ds.length := (List.getElem?_eq_some_iff.mp e).1
  have hg : G q = none := r.dis i q hq
  have sub : Same G (upd H q o) := fun b u z => by rw [upd_ne (ne_of_none z hg)]; exact r.sub b u z
  refine ⟨⟨sub, by rw [List.length_set]; exact r.len, fun j m z => ?_, fun j z a ha => ?_, fun j l a ha hb => ?_, fun j a ha => ?_⟩, ⟨fun a ha u z => ?_, Same.refl _, sub, fun b hb => .inl hb, fun b hb => ?_⟩⟩
  · by_cases hj : i = j
    · subst hj
      rw [List.getElem?_set_self hi] at z
      cases z
      exact ⟨v, hv, OwnAt.iff (m := .st s') rel fun a => by unfold setF; rw [if_pos rfl]⟩
    · rw [List.getElem?_set_ne hj] at z
      obtain ⟨u, h1, h2⟩ := r.own j m z
      exact ⟨u, h1, (h2.mono (Same.refl _) fun a ha => upd_ne fun y => hj (r.dj i j a (by rw [y]; exact hq) ha)).iff fun a => by unfold setF; rw [if_neg (Ne.symm hj)]⟩
  · unfold setF at ha
    by_cases hj : j = i
    · subst hj
      exact z _ (List.getElem?_set_self hi)
    · rw [if_neg hj] at ha
      refine r.emp j (fun m y => z m ?_) a ha
      rw [List.getElem?_set_ne (Ne.symm hj)]
      exact y
  · unfold setF at ha hb
    by_cases hj : j = i
    · by_cases hl : l = i
      · rw [hj, hl]
      · rw [if_pos hj] at ha
        rw [if_neg hl] at hb
        exact ((hfp a ha).elim (fun z => hl (r.dj l i a hb z)) fun z => d a z ⟨l, hb⟩).elim
    · by_cases hl : l = i
      · rw [if_neg hj] at ha
        rw [if_pos hl] at hb
        exact ((hfp a hb).elim (fun z => hj (r.dj j i a ha z)) fun z => d a z ⟨j, ha⟩).elim
      · rw [if_neg hj] at ha
        rw [if_neg hl] at hb
        exact r.dj j l a ha hb
  · unfold setF at ha
    by_cases hj : j = i
    · rw [if_pos hj] at ha
      exact (hfp a ha).elim (r.dis i a) (n a)
    · rw [if_neg hj] at ha
      exact r.dis j a ha
  · rw [upd_ne fun y => ha (.inl ⟨i, by rw [y]; exact hq⟩)]; exact z
  · obtain ⟨j, hb⟩ := hb
    unfold setF at hb
    by_cases hj : j = i
    · rw [if_pos hj] at hb
      exact (hfp b hb).elim (fun z => .inl (.inl ⟨i, z⟩)) fun z => .inl (.inr z)
    · rw [if_neg hj] at hb
      exact .inl (.inl ⟨j, hb⟩)
theorem ss_setLeftL {f : XF St2 (MO St2)} (hu : X.A.units + 1 < cLine) (ho : PE X o (tVar j)) (hi : PE X i kLeft) (hv : PE X e (tO X.K R2i f)) (hs : swapsWith e (some (.Subscript o i pos2)) pos.line X.env = pure false) :
    PS X (.Assign [.Subscript o i pos2] e pos) (tS X.K R2i pn (gSetLeftL j f)) := psi (ps_dput hu ho hi hv hs) fun Dn σ H ⟨G, F, ds, oo, r, e, k⟩ => by
  unfold gSetLeftL at e
  cases ef : f ds with
  | none => rw [ef] at e; cases e
  | some p =>
    rw [ef, Option.bind_some] at e
    obtain ⟨m, ds1⟩ := p
    match m, ef, e with
    | .lst xs, ef, e =>
      dsimp only at e
      cases en : intsOf xs with
      | none => rw [en] at e; cases e
      | some ns =>
        rw [en, Option.bind_some] at e
        cases ed : drawAt ds1 j with
        | none => rw [ed] at e; cases e
        | some t =>
          rw [ed] at e
          cases e
          obtain ⟨c, l, n0⟩ := t
          refine ⟨G, F, ds, _, ds1, r, ef, fun v G1 H1 F1 fr r1 s1 o1 d1 nn => ?_⟩
          obtain ⟨q, vs, rfl, hq, zc, dc, fq⟩ := o1
          have ev : vs = ns.map V.int := ints_den dc en
          obtain ⟨v, hv, p, pc, pl, rfl, h1, h2, h3, n1, n2, n3, hf⟩ := r1.own j _ (drawAt_some ed)
          have hdp : DPut H1 p (.str "left") (.ref q) (upd H1 p (.dK (drawKV pc q n0))) := .inl ⟨drawKV pc pl n0, .inr "left", h1, rfl, by show 3 < sizeLine; decide, by rfl⟩
          refine ⟨_, hv, p, _, rfl, hdp, ?_⟩
          have npq : p ≠ q := fun z => by rw [z, hq] at h1; cases h1
          have ncq : pc ≠ q := fun z => d1 q ((fq q).mpr rfl) ⟨j, (hf q).mpr (.inr (.inl z.symm))⟩
          obtain ⟨r2, s2⟩ := r1.put2 (s' := .draw c ns n0) (fp := fun a => a = p ∨ a = pc ∨ a = q) (o := .dK (drawKV pc q n0)) (drawAt_some ed) hv ((hf p).mpr (.inl rfl)) ⟨p, pc, q, rfl, upd_same, by rw [upd_ne (Ne.symm n1)]; exact h2, by rw [upd_ne (Ne.symm npq), hq, ev], n1, npq, ncq, fun a => Iff.rfl⟩
            (fun a ha => by
              rcases ha with z | z | z
              · exact .inl ((hf a).mpr (.inl z))
              · exact .inl ((hf a).mpr (.inr (.inl z)))
              · exact .inr ((fq a).mpr z)) d1 nn
          exact k σ G1 _ _ r2 (s1.trans s2) fun _ _ => rfl
/-! ### dicts of ints -/
def putI (kvs : List (Int × Int)) (k v : Int) : List (Int × Int) := if (kvs.any fun p => decide (p.1 = k)) = true then kvs.map (fun p => if p.1 = k then (p.1, v) else p) else kvs ++ [(k, v)]
def getI (kvs : List (Int × Int)) (k : Int) : Option Int := (kvs.find? fun p => decide (p.1 = k)).map (·.2)
theorem dicKV_any (k : Int) : ∀ kvs : List (Int × Int), ((dicKV kvs).any fun p => decide (p.1 = (.inl k : Key))) = kvs.any fun p => decide (p.1 = k)
  | [] => rfl
  | p :: r => by
    show (decide ((.inl p.1 : Key) = .inl k) || (dicKV r).any _) = (decide (p.1 = k) || r.any _)
    rw [dicKV_any k r]
    congr 1
    by_cases h : p.1 = k
    · rw [h]; simp
    · rw [decide_eq_false h, decide_eq_false]
      intro z
      exact h (by injection z)
theorem dicKV_put (kvs : List (Int × Int)) (k v : Int) : putK (dicKV kvs) (.inl k) (.int v) = dicKV (putI kvs k v) := by
  unfold putK putI
  rw [dicKV_any]
  split
  · unfold dicKV
    rw [List.map_map, List.map_map]
    apply List.map_congr_left
    intro p hp
    show (if (.inl p.1 : Key) = .inl k then ((.inl p.1 : Key), V.int v) else (.inl p.1, .int p.2)) = ((.inl (if p.1 = k then (p.1, v) else p).1 : Key), V.int (if p.1 = k then (p.1, v) else p).2)
    by_cases h : p.1 = k
    · rw [if_pos (by rw [h]), if_pos h]
    · rw [if_neg (fun z => h (by injection z)), if_neg h]
  · unfold dicKV
    rw [List.map_append]
    rfl
theorem dicKV_get (k : Int) : ∀ kvs : List (Int × Int), valV (dicKV kvs) (.inl k) = (getI kvs k).map V.int
  | [] => rfl
  | p :: r => by
    by_cases h : p.1 = k
    · rw [show dicKV (p :: r) = ((.inl p.1 : Key), V.int p.2) :: dicKV r from rfl, valV_pos (by show (.inl p.1 : Key) = _; rw [h])]
      unfold getI
      rw [List.find?_cons, decide_eq_true h]
      rfl
    · rw [show dicKV (p :: r) = ((.inl p.1 : Key), V.int p.2) :: dicKV r from rfl, valV_neg (fun z => h (by injection z)), dicKV_get k r]
      unfold getI
      rw [List.find?_cons, decide_eq_false h]
def oNewDic : XF St2 (MO St2) := fun ds => some (.st (.dic []), ds)
theorem eo_newDic : PE X (.Dict [] [] pos) (tO X.K R2i oNewDic) := PE.imp pe_dnewK fun σ H Q ⟨G, F, ds, m, ds', r, e, k⟩ p hp => by
  cases e
  have g0 := Gr.own (o := .dK []) r.sub hp
  refine k (.ref p) G _ F (fun a => a = p) (r.grow g0) ((g0.step (P := fun a => ∃ i, F i a)).add fun a z => by rw [z]; exact hp) ⟨p, rfl, upd_same, fun a => Iff.rfl⟩ (fun a ha ⟨i, z⟩ => r.trk i a z (by rw [ha]; exact hp)) fun a ha => by rw [ha]; exact r.sub.free hp
def gDicPut (j : Nat) (f : XF St2 D) (g : DS2 → Option D) : SF St2 := fun ds => (f ds).bind fun p => (dicAt p.2 j).bind fun kvs => (g (hideDS p.2)).bind fun x => match p.1, x with
  | .int v, .int q => if kvs.length < sizeLine then some (.nx (p.2.set j (some (.st (.dic (putI kvs q v)))))) else none
  | _, _ => none
theorem ss_dicPut {f : XF St2 D} {g : DS2 → Option D} (hu : X.A.units + 1 < cLine) (ho : PE X o (tVar j)) (hi : PE X i (tP X.K g)) (hv : PE X e (tX X.K R2i f)) (hs : swapsWith e (some (.Subscript o i pos2)) pos.line X.env = pure false) :
    PS X (.Assign [.Subscript o i pos2] e pos) (tS X.K R2i pn (gDicPut j f g)) := psi (ps_dput hu ho hi hv hs) fun Dn σ H ⟨G, F, ds, oo, r, e, k⟩ => by
  unfold gDicPut at e
  cases ef : f ds with
  | none => rw [ef] at e; cases e
  | some p =>
    rw [ef, Option.bind_some] at e
    obtain ⟨d, ds1⟩ := p
    dsimp only at e
    cases ed : dicAt ds1 j with
    | none => rw [ed] at e; cases e
    | some kvs =>
      rw [ed, Option.bind_some] at e
      cases eg : g (hideDS ds1) with
      | none => rw [eg] at e; cases e
      | some x =>
        rw [eg, Option.bind_some] at e
        match d, x, ef, eg, e with
        | .int n, .int q, ef, eg, e =>
          dsimp only at e
          split at e
          · rename_i hz
            cases e
            refine ⟨G, F, ds, _, ds1, r, ef, fun v G1 H1 F1 r1 s1 d1 => ?_⟩
            cases d1
            obtain ⟨v, hv, p, rfl, h1, hf⟩ := r1.own j _ (dicAt_some ed)
            refine ⟨_, hv, G1, hideDS ds1, _, r1.sub, r1.view, eg, fun u G2 H2 g2 d2 => ?_⟩
            cases d2
            have r2 := r1.grow g2
            have q1 := g2.all _ _ h1
            have hdp : DPut H2 p (.int q) (.int n) (upd H2 p (.dK (dicKV (putI kvs q n)))) := .inl ⟨dicKV kvs, .inl q, q1, rfl, by unfold dicKV; rw [List.length_map]; exact hz, by rw [dicKV_put]⟩
            refine ⟨p, _, rfl, hdp, ?_⟩
            obtain ⟨r3, s3⟩ := r2.put (s' := .dic (putI kvs q n)) (o := .dK (dicKV (putI kvs q n))) (dicAt_some ed) hv ((hf p).mpr rfl) ⟨p, rfl, upd_same, hf⟩
            exact k σ G2 _ F1 r3 ((s1.trans g2.step).trans s3) fun _ _ => rfl
          · cases e
def xDicIn (j : Nat) (g : DS2 → Option D) : XF St2 Bool := fun ds => (dicAt ds j).bind fun kvs => (g (hideDS ds)).bind fun x => match x with
  | .int q => some ((getI kvs q).isSome, ds)
  | _ => none
def xDicGet (j : Nat) (g : DS2 → Option D) : XF St2 D := fun ds => (dicAt ds j).bind fun kvs => (g (hideDS ds)).bind fun x => match x with
  | .int q => (getI kvs q).map fun v => (.int v, ds)
  | _ => none
theorem get_dic {kvs : List (Int × Int)} {H : Hp} {p : Addr} {q : Int} (h : H p = some (.dK (dicKV kvs))) : DGet H p (.int q) ((getI kvs q).map V.int) := by
  have := DGet.k (k := .inl q) h
  rwa [dicKV_get] at this
theorem xt_dicIn {g : DS2 → Option D} (hu : X.A.units + 1 < cLine) (hi : PE X i (tP X.K g)) (ho : PE X o (tVar j)) (hm : behindInMarks .In o = false := by rfl) : PT X (.Compare i [.In] [o] pos) (tXT X.K R2i (xDicIn j g)) :=
  PT.imp (pt_cmp (pc_din hu hi ho) hm) fun σ H Q ⟨G, F, ds, b, ds', r, e, k⟩ => by
    unfold xDicIn at e
    cases ed : dicAt ds j with
    | none => rw [ed] at e; cases e
    | some kvs =>
      rw [ed, Option.bind_some] at e
      cases eg : g (hideDS ds) with
      | none => rw [eg] at e; cases e
      | some x =>
        rw [eg, Option.bind_some] at e
        match x, eg, e with
        | .int q, eg, e =>
          cases e
          refine ⟨G, hideDS ds, _, r.sub, r.view, eg, fun u G1 H1 g1 d1 => ?_⟩
          cases d1
          obtain ⟨v, hv, p, rfl, h1, hf⟩ := r.own j _ (dicAt_some ed)
          refine ⟨_, hv, p, _, rfl, get_dic (g1.all _ _ h1), _, rfl, ?_⟩
          rw [Option.isSome_map]
          exact k _ _ F (r.grow g1) g1.step
theorem ex_dicGet {g : DS2 → Option D} (hu : X.A.units + 1 < cLine) (ho : PE X o (tVar j)) (hi : PE X i (tP X.K g)) (hs : NoSl i) : PE X (.Subscript o i pos) (tX X.K R2i (xDicGet j g)) :=
  PE.imp (pe_dget hu ho hi hs) fun σ H Q ⟨G, F, ds, b, ds', r, e, k⟩ => by
    unfold xDicGet at e
    cases ed : dicAt ds j with
    | none => rw [ed] at e; cases e
    | some kvs =>
      rw [ed, Option.bind_some] at e
      cases eg : g (hideDS ds) with
      | none => rw [eg] at e; cases e
      | some x =>
        rw [eg, Option.bind_some] at e
        match x, eg, e with
        | .int q, eg, e =>
          dsimp only at e
          cases ev : getI kvs q with
          | none => rw [ev] at e; cases e
          | some y =>
            rw [ev] at e
            cases e
            obtain ⟨v, hv, p, rfl, h1, hf⟩ := r.own j _ (dicAt_some ed)
            refine ⟨_, hv, G, hideDS ds, _, r.sub, r.view, eg, fun u G1 H1 g1 d1 => ?_⟩
            cases d1
            have gd := get_dic (q := q) (g1.all _ _ h1)
            rw [ev] at gd
            exact ⟨p, _, rfl, gd, k _ G1 H1 F (r.grow g1) g1.step (.int _)⟩
end
end DL
set_option Elab.async false
set_option linter.all false
set_option maxRecDepth 100000
set_option maxHeartbeats 4000000
namespace DL
open PySem PySem.Spec PyProof.Rows L2

/-! ### list(d.values()) -/
theorem lenOfValues : typeLookup (.type "dict_values") "__len__" = pure (some (.builtin "dict_values.__len__")) := by
  rw [typeLookup_type, builtinLookup_eq_fast]; kernel_rfl
section
variable {prog : Program} {w : World} {κ : Type} [DecidableEq κ] {kn : KeyKind prog w κ} {A : Around} {E : Value → Shared → Prop} {s : Shared} {vw dd : Addr} {tab : List (κ × Value)} {ep : Nat}
theorem vals_hint (ht : s.TypeIs (.ref vw) "dict_values") {Q : Bool → Shared → Prop} (q : Q false s) : wpAny (model prog w) A (Builtin.List.listLengthHint (.ref vw)) Q E s := by
  unfold Builtin.List.listLengthHint
  refine wpAny_bind (wpAny_specialOf ht lenOfValues ?_)
  generalize hid : ("dict_values.__len__" : String) = nm0
  wp_delta
  rw [show splitId nm0 = some ("dict_values", "__len__") from by rw [← hid]; decide +kernel]
  subst hid
  refine wpAny_bind (wpAny_isInstance (T := "dict_values") (b := true) ht (by rw [isSubtype_type]; kernel_rfl) ?_)
  refine wpAny_ite_split (fun z => absurd z (by decide)) fun _ => ?_
  refine wpAny_ite_split (fun _ => ?_) fun z => absurd (by decide +kernel) z
  exact wpAny_bind (wpAny_typeOf ht (wpAny_pure q))
theorem vals_extend {R : Result → Shared → Prop} (hh : A.handled = none) (hv : s.heap.IsValuesView vw dd) (hm : s.heap.DictAt kn dd tab ep) (Sl : Addr) (n1 : Sl ≠ vw) (n2 : dd ≠ Sl) (res : Value) (c₀ : Nat) (hS : s.heap.get? Sl = some { cls := .type "list", data := .seq #[] c₀ })
    (hR : ∀ h' tk acc c, (∀ b o, b ≠ Sl → s.heap.get? b = some o → h'.get? b = some o) → h'.get? Sl = some { cls := .type "list", dict := none, data := .seq acc c, slots := #[] } → ItemsOf (fun i v => ∃ k, tab[i]? = some (k, v)) acc tab.length → R (.ok (.ret res)) { s with heap := h', toks := tk }) (hn : tab.length ≤ sizeLine) :
    wpAny (model prog w) A.in1 (Builtin.List.listExtendWith (.ref Sl) (.ref vw) res) (fun fin s' => match fin with | .done f => R (.ok f) s' | .again c' => c'.quiet = true ∧ codeAny (model prog w) A c' R s') (fun e s' => R (.error e) s') s := by
  have lS : Sl < s.heap.objs.size := Heap.lt_size hS
  have lD : dd < s.heap.objs.size := hm.lt_size
  have go : ∀ (h : Heap) (c₁ tk : Nat), (∀ b o, b ≠ Sl → (s.heap.push { cls := .type "dict_valueiterator", data := .fields #[.ref dd, .int 0 0, .int tab.length 0, .int ep 0] }).get? b = some o → h.get? b = some o) →
      h.get? Sl = some { cls := .type "list", data := .seq #[] c₁ } → codeAny (model prog w) A (.builtin "list.extend.loop" ⟨[.ref Sl, .ref s.heap.objs.size, res], []⟩) R { s with heap := h, toks := tk } := by
    intro h c₁ tk hk hS₁
    have nI : dd ≠ s.heap.objs.size := Nat.ne_of_lt lD
    have W := (Walks.dictValues (prog := prog) (w := w) (A := A.in1) (knd := kn) hh s.heap.objs.size dd nI tab ep).toS
    refine codeAny_extend_loopS W hn Sl (fun z => ?_) res tab.length 0 { s with heap := h, toks := tk } #[] c₁ (Nat.sub_zero _) (Nat.zero_le _) ?_ hS₁ (ItemsOf.nil _) fun s' acc c hmv hS' hac => ?_
    · rcases List.mem_cons.mp z with z | z
      · exact Nat.lt_irrefl _ (z ▸ lS)
      · exact n2 (List.mem_singleton.mp z).symm
    · exact ⟨⟨_, hk _ _ (Nat.ne_of_gt lS) (Heap.get?_push_size _ rfl), rfl, rfl⟩, hm.at' fun o e => hk dd o n2 (Heap.get?_push_of_some _ e)⟩
    · obtain ⟨hp, gg, dr, tk', oo⟩ := s'
      have e1 : gg = s.gens := hmv.gens
      have e2 : dr = s.drawn := hmv.drawn
      have e3 : oo = s.os := hmv.os
      subst e1 e2 e3
      refine hR hp tk' acc c (fun b o hb e => hmv.heap b o (fun z => ?_) (hk b o hb (Heap.get?_push_of_some _ e))) hS' hac
      rcases List.mem_cons.mp z with z | z
      · exact hb z
      · exact Nat.lt_irrefl _ ((List.mem_singleton.mp z) ▸ Heap.lt_size e)
  unfold Builtin.List.listExtendWith
  refine wpAny_bind (wpAny_typeOf (T := "dict_values") hv.typeIs ?_)
  have c1 : Builtin.List.listSameRef (.ref Sl) (.ref vw) = false := by simp [Builtin.List.listSameRef, n1]
  have c2 : (Value.type "dict_values" == Value.type "list") = false := by decide
  have c3 : (Value.type "dict_values" == Value.type "tuple") = false := by decide
  simp only [c1, c2, c3, Bool.or_false, Bool.false_eq_true, if_false]
  refine wpAny_bind (wpAny_pyIter_values hv hm ?_)
  have a1 := Heap.get?_push_of_some { cls := .type "dict_valueiterator", data := .fields #[.ref dd, .int 0 0, .int tab.length 0, .int ep 0] } hS
  refine wpAny_bind (wpAny_holding (vals_hint (let ⟨o, ho, hc, _⟩ := hv; ⟨o, Heap.get?_push_of_some _ ho, hc⟩) ?_))
  refine wpAny_ite_split (fun _ => ?_) fun _ => wpAny_pure ⟨plainId_quiet PySem.F.plain_extend_loop _, go _ c₀ _ (fun b o _ e => e) a1⟩
  refine wpAny_bind (wpAny_rule (wpAny_bind ?_))
  show wpAny _ _ (updateSeq Sl (·.push .none) >>= fun _ => updateSeq Sl (·.pop)) _ _ _
  refine wpAny_bind (wpAny_updateSeq a1 rfl ?_)
  have a2 := Heap.get?_update_self (Obj.mapSeq (·.push Value.none)) a1 rfl
  refine wpAny_updateSeq (hz := by seq_fits) a2 rfl ?_
  have a3 := Heap.get?_update_self (Obj.mapSeq (·.pop)) a2 rfl
  refine wpAny_pure ⟨plainId_quiet PySem.F.plain_extend_loop _, go _ _ _ (fun b o hb e => ?_) a3⟩
  exact (Heap.get?_update_other _ _ (Ne.symm hb)).trans ((Heap.get?_update_other _ _ (Ne.symm hb)).trans e)
theorem vals_call {Q : Value → Shared → Prop} (hh : A.handled = none) (hv : s.heap.IsValuesView vw dd) (hm : s.heap.DictAt kn dd tab ep) (hn : tab.length ≤ sizeLine)
    (hQ : ∀ h' tk acc c, (∀ b o, s.heap.get? b = some o → h'.get? b = some o) → h'.get? s.heap.objs.size = some { cls := .type "list", dict := none, data := .seq acc c, slots := #[] } → ItemsOf (fun i v => ∃ k, tab[i]? = some (k, v)) acc tab.length → Q (.ref s.heap.objs.size) { s with heap := h', toks := tk }) :
    wpAny (model prog w) A (call (.type "list") [.ref vw]) Q E s := by
  refine callType_codes (Q₁ := fun obj t => obj = .ref s.heap.objs.size ∧ t = { s with heap := s.heap.push { cls := .type "list", data := .seq #[] } }) PySem.F.called_list (PySem.F.typeCall_list_1 _) PySem.F.entry_list_init (code_list_new _ ⟨rfl, rfl⟩) fun obj t ht => ?_
  obtain ⟨rfl, rfl⟩ := ht
  have a0 : (s.heap.push { cls := .type "list", data := .seq #[] }).get? s.heap.objs.size = some { cls := .type "list", data := .seq #[] } := Heap.get?_push_size _ rfl
  have lv : vw < s.heap.objs.size := let ⟨_, ho, _⟩ := hv; Heap.lt_size ho
  have ld : dd < s.heap.objs.size := hm.lt_size
  refine ⟨⟨_, a0, rfl⟩, PySem.F.args_list_init_2 _ _, ?_⟩
  show wpAny _ _ (do let old ← Builtin.List.listItems (.ref s.heap.objs.size); Builtin.List.listUpdate (.ref s.heap.objs.size) (fun _ => #[]); letGo old.toList.reverse; Builtin.List.listExtendWith (.ref s.heap.objs.size) (.ref vw) .none) _ _ _
  refine wpAny_bind ?_
  unfold Builtin.List.listItems
  refine wpAny_bind (wpAny_seqItems a0 rfl (wpAny_pure ?_))
  show wpAny _ _ (updateSeq s.heap.objs.size (fun _ => #[]) >>= fun _ => letGo (#[] : Array Value).toList.reverse >>= fun _ => Builtin.List.listExtendWith (.ref s.heap.objs.size) (.ref vw) .none) _ _ _
  refine wpAny_bind (wpAny_updateSeq a0 rfl ?_)
  have a1 := Heap.get?_update_self (Obj.mapSeq (fun _ => (#[] : Array Value))) a0 rfl
  have old : ∀ b o, s.heap.get? b = some o → ((s.heap.push { cls := .type "list", data := .seq #[] }).update s.heap.objs.size (Obj.mapSeq (fun _ => (#[] : Array Value)))).get? b = some o := fun b o e =>
    (Heap.get?_update_other _ _ (fun z => Nat.lt_irrefl _ (z ▸ Heap.lt_size e))).trans (Heap.get?_push_of_some _ e)
  refine wpAny_bind (wpAny_letGo ?_)
  refine vals_extend (A := A.in1) (s := { s with heap := (s.heap.push { cls := .type "list", data := .seq #[] }).update s.heap.objs.size (Obj.mapSeq (fun _ => (#[] : Array Value))) }) (R := wants (fun r s₂ => r = .none ∧ Q (.ref s.heap.objs.size) s₂) E) (kn := kn) (tab := tab) (ep := ep) hh (let ⟨o, ho, x⟩ := hv; ⟨o, old vw o ho, x⟩) (hm.at' fun o e => old dd o e) _ (Nat.ne_of_gt lv) (Nat.ne_of_lt ld) .none _ a1 (fun h' tk acc c hk hS' hac => ?_) hn
  exact ⟨rfl, hQ h' tk acc c (fun b o e => hk b o (Nat.ne_of_lt (Heap.lt_size e)) (old b o e)) hS' hac⟩
end
theorem vals_ix : ∀ {xs : List V} {us : List Value}, xs.length = us.length → (∀ (i : Nat) x v, xs[i]? = some x → us[i]? = some v → RelV x v) → Vals xs us
  | [], [], _, _ => .nil
  | x :: xs, u :: us, hl, h => .cons (h 0 x u rfl rfl) (vals_ix (by simpa using hl) fun i y v e1 e2 => h (i + 1) y v (by simpa using e1) (by simpa using e2))
  | [], _ :: _, hl, _ => by simp at hl
  | _ :: _, [], hl, _ => by simp at hl
def tListVals (te : TE) : TE := fun σ H Q => te σ H fun x H1 => ∃ d kvs, x = .ref d ∧ H1 d = some (.dK kvs) ∧ ∀ l, H1 l = none → Q (.ref l) (upd H1 l (.lst (kvs.map (·.2))))
section
variable {X : Cx} {e : Expr} {te : TE} {p apos cpos pos : Pos}
theorem pe_listVals (hc : X.calm = true) (he : PE X e te) (hg : Gl X "list") (hm : X.mg "list" = none) (hv : bootBuiltins "list" = some (.type "list")) (hbase : attributeBase e "values" X.env (eval e X.env) = eval e X.env := by rfl) (hline : (apos.endLine == cpos.line) = true := by rfl)
    (hs : starEach [.Call (.Attribute e "values" apos) [] [] cpos] X.env = (false, eval (.Call (.Attribute e "values" apos) [] [] cpos) X.env) :: starEach [] X.env := by rfl) :
    PE X (.Call (.Name "list" p) [.Call (.Attribute e "values" apos) [] [] cpos] [] pos) (tListVals te) := by
  refine ⟨fun pins s σ H Q I hq => wpAny_Call_Name_kw (ld_blt I hg hm hv (PyProof.Rows.callWith_type1 ?_ hs rfl))⟩
  rw [hs]
  show wpAny _ _ (spliced ((false, eval (.Call (.Attribute e "values" apos) [] [] cpos) X.env) :: backTo pos (starEach [] X.env))) _ _ s
  refine Calls.spliced_cons (wpAny_Call_method (T := "dict") (id := "dict.values") hbase rfl hline F.plainAttrs_dict F.slot_dict_values F.type_dict_values (thn (he.run pins s σ H _ I hq) fun u s1 ⟨x, H1, I1, rx, d, kvs, ex, hd, q⟩ => ?_))
  subst ex
  obtain rfl : u = Value.ref d := rx
  obtain ⟨hz, hs0, vs, kv, hdo⟩ := I1.hok d _ hd
  obtain ⟨ep, hat⟩ := hdo.dictAt
  have lk : kvs.length = vs.length := Paired.length kv
  have I2 : Inv X pins σ H1 { s1 with heap := s1.heap.push { cls := .type "dict_values", data := .fields #[.ref d] } } := I1.kept (t' := s1.toks) fun b ob q => Heap.get?_push_of_some _ q
  refine ⟨hdo.typeIs, hdo.mapOf.noDict, ?_⟩
  show wpAny _ _ (callWith cpos (.builtin "dict.values") [.ref d] [] []) _ X.xe s1
  refine method_meetsIn F.slot_dict_values F.entry_dict_values rfl (PySem.evalArgs_none ⟨rfl, hdo.typeIs, F.args_dict_values_1 _, _, meets_dict_values (mixKind X.prog X.w) d hs0, ⟨vs, hdo⟩, ?_⟩)
  refine Calls.spliced_nil (vals_call (kn := mixKind X.prog X.w) (tab := vs) (ep := ep) (I1.ok.hd hc) ⟨_, Heap.get?_push_size _ rfl, rfl, rfl⟩ (hat.push _) (by omega) fun h' tk acc c hk hS hac => ?_)
  obtain ⟨hsz, hat2⟩ := hac
  have rv : Vals (kvs.map (·.2)) acc.toList := by
    refine vals_ix (by rw [List.length_map, lk, ← hsz, Array.length_toList]) fun i x v e1 e2 => ?_
    obtain ⟨k, hk2⟩ := hat2 i v (by rw [← Array.getElem?_toList]; exact e2)
    obtain ⟨y, h1, h2⟩ := KV.at' kv hk2
    rw [List.getElem?_map, h1] at e1
    cases e1
    exact h2
  exact ⟨.ref _, _, I2.laid (o := .lst (kvs.map (·.2))) (fun b o e => hk b o e) (Nat.le_refl _) ⟨by rw [List.length_map]; exact hz, acc.toList, c, rv, by rw [Array.toArray_toList]; exact hS⟩, rfl, q _ (I2.hok.fresh (Nat.le_refl _))⟩
/-- list(d.values()) of a dict of ints -/
def oDicVals (j : Nat) : XF St2 (MO St2) := fun ds => (dicAt ds j).bind fun kvs => if kvs.length ≤ sizeLine then some (.lst (kvs.map fun p => .int p.2), ds) else none
theorem den_dicv {K : PySem.W.Frag} {G : Hp} : ∀ kvs : List (Int × Int), DenAll K G ((dicKV kvs).map (·.2)) (kvs.map fun p => PyData.int p.2)
  | [] => .nil
  | p :: r => .cons (.int p.2) (den_dicv r)
theorem eo_dicVals {j : Nat} (hc : X.calm = true) (he : PE X e (tVar j)) (hg : Gl X "list") (hm : X.mg "list" = none) (hv : bootBuiltins "list" = some (.type "list")) (hbase : attributeBase e "values" X.env (eval e X.env) = eval e X.env := by rfl) (hline : (apos.endLine == cpos.line) = true := by rfl)
    (hs : starEach [.Call (.Attribute e "values" apos) [] [] cpos] X.env = (false, eval (.Call (.Attribute e "values" apos) [] [] cpos) X.env) :: starEach [] X.env := by rfl) :
    PE X (.Call (.Name "list" p) [.Call (.Attribute e "values" apos) [] [] cpos] [] pos) (tO X.K R2i (oDicVals j)) := PE.imp (pe_listVals hc he hg hm hv hbase hline hs) fun σ H Q ⟨G, F, ds, m, ds', r, e, k⟩ => by
  unfold oDicVals at e
  cases ed : dicAt ds j with
  | none => rw [ed] at e; cases e
  | some kvs =>
    rw [ed, Option.bind_some] at e
    split at e
    · rename_i hz
      cases e
      obtain ⟨v, hv, p, rfl, h1, hf⟩ := r.own j _ (dicAt_some ed)
      refine ⟨_, hv, p, _, rfl, h1, fun q hq => ?_⟩
      have g0 := Gr.own (o := .lst ((dicKV kvs).map (·.2))) r.sub hq
      refine k (.ref q) G _ F (fun a => a = q) (r.grow g0) ((g0.step (P := fun a => ∃ i, F i a)).add fun a z => by rw [z]; exact hq) ⟨q, _, rfl, upd_same, ?_, den_dicv kvs, fun a => Iff.rfl⟩ (fun a ha ⟨i, z⟩ => r.trk i a z (by rw [ha]; exact hq)) fun a ha => by rw [ha]; exact r.sub.free hq
      unfold dicKV
      rw [List.length_map, List.length_map]
      exact hz
    · cases e
end
end DL
set_option Elab.async false
set_option linter.all false
set_option maxRecDepth 100000
set_option maxHeartbeats 4000000
namespace DL
open PySem PySem.Spec PyProof.Rows L2

/-! ### slices and sums of anything, as data -/
section
variable {S : Type} {X : Cx} {R : StI S} {e : Expr} {pos p2 : Pos} {lo hi : Option Expr}
def slA : D → Option Int → Option Int → Option D
  | .list xs, lo, hi => some (.list (cutD xs lo hi))
  | .tuple xs, lo, hi => some (.tuple (cutD xs lo hi))
  | .str x, lo, hi => if PyData.strOk (cutS x lo hi) = true then some (.str (cutS x lo hi)) else none
  | _, _, _ => none
theorem slA_ok {K : PySem.W.Frag} {v : V} {x d : D} {l h : Option Int} {G H : Hp} {Q : VK} (s : Same G H) (dv : Den K G v x) (e : slA x l h = some d) (k : ∀ v G' H', Gr G H G' H' → Den K G' v d → Q v H') : rSlL K v l h H Q ∨ (rSlA K v l h H Q ∨ rSlS v l h H Q) := by
  cases x with
  | list ys =>
    cases e
    cases dv with
    | lst q z r =>
      refine .inl ⟨_, _, rfl, SqL.of (s _ _ q), fun p hp => ?_⟩
      have hg := s.free hp
      exact k _ (upd G p _) _ (.upd s hp) (.lst upd_same (Nat.le_trans (cutV_le _ _ _) z) ((den_cut r l h).mono fun b u e => by rw [upd_ne (ne_of_none e hg)]; exact e))
  | tuple ys => exact .inr (slT_ok s dv e k)
  | str y => exact .inr (slT_ok s dv e k)
  | _ => cases e
theorem sl_any : SlR X (fun x lo hi H Q => rSlL X.K x lo hi H Q ∨ (rSlA X.K x lo hi H Q ∨ rSlS x lo hi H Q)) := SlR.or sl_list sl_ts2
def gSlA (ga : DS S → Option D) (gl gh : DS S → Option (Option Int)) : DS S → Option D := fun ds => (ga ds).bind fun x => (gl ds).bind fun l => (gh ds).bind fun h => slA x l h
theorem ep_slA {ga : DS S → Option D} {gl gh : DS S → Option (Option Int)} (he : PE X e (tP X.K ga)) (hl : PO X lo (tPO X.K gl)) (hu : PO X hi (tPO X.K gh)) : PE X (.Subscript e (.Slice lo hi none p2) pos) (tP X.K (gSlA ga gl gh)) := PE.imp (pe_slice sl_any he hl hu) fun σ H Q ⟨G, ds, d, s, w, e, k⟩ => by
  unfold gSlA at e
  cases ea : ga ds with
  | none => rw [ea] at e; cases e
  | some x =>
    cases el : gl ds with
    | none => simp [ea, el] at e
    | some l =>
      cases eh : gh ds with
      | none => simp [ea, el, eh] at e
      | some h =>
        simp only [ea, el, eh, Option.bind_some] at e
        refine ⟨G, ds, x, s, w, ea, fun v G1 H1 g1 d1 => ?_⟩
        refine ⟨G1, ds, l, g1.sub, w.mono g1.keep, el, fun G2 H2 g2 => ?_⟩
        refine ⟨G2, ds, h, g2.sub, w.mono (g1.trans g2).keep, eh, fun G3 H3 g3 => ?_⟩
        exact slA_ok g3.sub (d1.mono (g2.trans g3).keep) e fun v G4 H4 g4 d4 => k v G4 H4 (((g1.trans g2).trans g3).trans g4) d4
theorem ex_slA {fa : XF S D} {fl fh : XF S (Option Int)} (he : PE X e (tX X.K R fa)) (hl : PO X lo (tXO X.K R fl)) (hu : PO X hi (tXO X.K R fh)) : PE X (.Subscript e (.Slice lo hi none p2) pos) (tX X.K R (xSl3 fa fl fh slA)) := PE.imp (pe_slice sl_any he hl hu) fun σ H Q ⟨G, F, ds, m, ds', r, e, k⟩ => by
  obtain ⟨x, ds1, ea, e⟩ := xb_some e
  obtain ⟨l, ds2, el, e⟩ := xb_some e
  obtain ⟨h, ds3, eh, e⟩ := xb_some e
  obtain ⟨eg, e9⟩ := xlift_some e
  subst e9
  refine ⟨G, F, ds, _, ds1, r, ea, fun v G1 H1 F1 r1 s1 d1 => ?_⟩
  refine ⟨G1, F1, ds1, l, ds2, r1, el, fun G2 H2 F2 r2 s2 => ?_⟩
  refine ⟨G2, F2, ds2, h, _, r2, eh, fun G3 H3 F3 r3 s3 => ?_⟩
  exact slA_ok r3.sub (d1.mono (s2.trans s3).keep) eg fun v G4 H4 g4 d4 => k v G4 H4 F3 (r3.grow g4) (((s1.trans s2).trans s3).trans g4.step) d4
def addA : D → D → Option D
  | .list xs, y => (addL (.list xs) y).map .list
  | x, y => addD x y
theorem o_addA : OpR X (binaryOp .Add) (fun x y H Q => rCat x y H Q ∨ rAddD X.K x y H Q) := OpR.or op_cat o_add
theorem d_addA {K : PySem.W.Frag} : R2D K (fun x y H Q => rCat x y H Q ∨ rAddD K x y H Q) addA := by
  intro x y dx dy d G H Q s d1 d2 e k
  cases dx with
  | list xs =>
    cases ea : addL (.list xs) dy with
    | none => simp [addA, ea] at e
    | some zs =>
      simp only [addA, ea, Option.map_some] at e
      cases e
      refine .inl (d_addL x y (.list xs) dy zs G H Q s d1 d2 ea fun p vs G' H' g h1 h2 h3 z dz => ?_)
      exact k (.ref p) (upd G' p (.lst vs)) H' (g.freeze h1 h2 h3) (.lst upd_same z (dz.mono fun b u e => by rw [upd_ne (ne_of_none e h1)]; exact e))
  | none => exact .inr (d_add x y _ dy d G H Q s d1 d2 e k)
  | bool _ => exact .inr (d_add x y _ dy d G H Q s d1 d2 e k)
  | int _ => exact .inr (d_add x y _ dy d G H Q s d1 d2 e k)
  | str _ => exact .inr (d_add x y _ dy d G H Q s d1 d2 e k)
  | tuple _ => exact .inr (d_add x y _ dy d G H Q s d1 d2 e k)
  | dict _ => exact .inr (d_add x y _ dy d G H Q s d1 d2 e k)
end
theorem notin_own {t : D → Option (List (Nat × D))} {own pn : List Nat} (h : ∀ d as, t d = some as → ∀ p ∈ as, p.1 ∈ own) (n : ∀ i ∈ own, i ∉ pn) : ∀ d as, t d = some as → ∀ p ∈ as, p.1 ∉ pn := fun d as e p hp => n _ (h d as e p hp)
theorem room_u {k n : Nat} {A : Around} (r : Room k A) (h : n ≤ 200) : A.units + n < cLine := by
  have := r.un
  omega
/-! ### a def that may be called -/
structure Cl (P : Program) (w : World) (K : PySem.W.Frag) (mg : Str → Option Value) (base : Heap) (k : Nat) (x : Str) (sp : Sp) : Prop where
  ex : ∃ (f : Addr) (fd : FuncData) (ps : List Str), FnG P w K mg base CX0 k f fd ps sp ∧ Binds K fd ps [] ∧ PySem.W.keepIn K (.ref f) = true ∧ mg x = some (.ref f)
section
variable {S : Type} {X : Cx} {R : StI S} {j k n : Nat} {x : Str} {p pos : Pos} {e : Expr} {es : List Expr}
theorem cp_call {F : List D → Option (MO S)} {gs : DS S → Option (List D)} (c : Cl X.prog X.w X.K X.mg X.base j x (spP X.K R n F)) (hk : j ≤ k) (hr : Room k X.A) (hgd : X.A.guards = some []) (hg : Gl X x) (ha : PA X (e :: es) (tPA X.K gs))
    (hdb : (x == ("__debug__" : Str)) = false := by decide) (he : starEach (e :: es) X.env = (false, eval e X.env) :: starEach es X.env := by rfl) (hpl : (backTo pos (starEach es X.env)).any (·.1) = false := by rfl) :
    PE X (.Call (.Name x p) (e :: es) [] pos) (tP X.K (gCallP n F gs)) := by
  obtain ⟨f, fd, ps, Fn, hb, hkp, hm⟩ := c.ex
  exact ep_call (Fn.up hk) hr hgd hg hm hkp hb ha hdb he hpl
theorem co_call {F : List D → Option (MO S)} {fs : XF S (List D)} (c : Cl X.prog X.w X.K X.mg X.base j x (spP X.K R n F)) (hk : j ≤ k) (hr : Room k X.A) (hgd : X.A.guards = some []) (hg : Gl X x) (ha : PA X (e :: es) (tXA X.K R fs))
    (hdb : (x == ("__debug__" : Str)) = false := by decide) (he : starEach (e :: es) X.env = (false, eval e X.env) :: starEach es X.env := by rfl) (hpl : (backTo pos (starEach es X.env)).any (·.1) = false := by rfl) :
    PE X (.Call (.Name x p) (e :: es) [] pos) (tO X.K R (oCallP n F fs)) := by
  obtain ⟨f, fd, ps, Fn, hb, hkp, hm⟩ := c.ex
  exact eo_call (Fn.up hk) hr hgd hg hm hkp hb ha hdb he hpl
theorem co_callS {i : Nat} {F : S → List D → Option (MO S × S)} {fs : XF S (List D)} (c : Cl X.prog X.w X.K X.mg X.base j x (spS X.K R n F)) (hk : j ≤ k) (hr : Room k X.A) (hgd : X.A.guards = some []) (hg : Gl X x) (hi : PE X e (tVar i)) (ha : PA X es (tXA X.K R fs))
    (hdb : (x == ("__debug__" : Str)) = false := by decide) (he : starEach (e :: es) X.env = (false, eval e X.env) :: starEach es X.env := by rfl) (hpl : (backTo pos (starEach es X.env)).any (·.1) = false := by rfl) :
    PE X (.Call (.Name x p) (e :: es) [] pos) (tO X.K R (oCallS n i F fs)) := by
  obtain ⟨f, fd, ps, Fn, hb, hkp, hm⟩ := c.ex
  exact eo_callS (Fn.up hk) hr hgd hg hm hkp hb hi ha hdb he hpl
theorem co_callC {i : Nat} {F : List Int → List D → Option (MO S)} {fs : XF S (List D)} (c : Cl X.prog X.w X.K X.mg X.base j x (spC X.K R n F)) (hk : j ≤ k) (hr : Room k X.A) (hgd : X.A.guards = some []) (hg : Gl X x) (hi : PE X e (tVar i)) (ha : PA X es (tXA X.K R fs))
    (hdb : (x == ("__debug__" : Str)) = false := by decide) (he : starEach (e :: es) X.env = (false, eval e X.env) :: starEach es X.env := by rfl) (hpl : (backTo pos (starEach es X.env)).any (·.1) = false := by rfl) :
    PE X (.Call (.Name x p) (e :: es) [] pos) (tO X.K R (oCallC n i F fs)) := by
  obtain ⟨f, fd, ps, Fn, hb, hkp, hm⟩ := c.ex
  exact eo_callC (Fn.up hk) hr hgd hg hm hkp hb hi ha hdb he hpl
end
end DL
set_option Elab.async false
set_option linter.all false
set_option maxRecDepth 100000
set_option maxHeartbeats 4000000
namespace DL
open PySem PySem.Spec PyProof.Rows L2
/-- a comprehension's scope -/
def mkS (names : List (Str × NameKind)) : Scope := { kind := .function, names := names, isGenerator := false, isCoroutine := false }
section
variable {S : Type} {K : PySem.W.Frag} {R : StI S}
theorem conv_OX {f : XF S (MO S)} : ∀ σ H (Q : VK), tO K R (oX (xO f)) σ H Q → tO K R f σ H Q := fun _ _ _ h => x_O (o_X h)
theorem conv_B {g : DS S → Option (List D)} : ∀ σ H (Q : VK), tO K R (oB g) σ H Q → tF K g σ H Q := fun _ _ _ h => o_B h
theorem conv_P {g : DS S → Option (List D)} : ∀ σ H (Q : VK), tO K R (oP g) σ H Q → tF K g σ H Q := fun _ _ _ h => o_P h
theorem p_f {g : DS S → Option (List D)} {σ : L2.St} {H : Hp} {Q : VK} (h : tP K (gL g) σ H Q) : tF K g σ H Q := by
  obtain ⟨G, ds, d, s, w, e, k⟩ := h
  unfold gL at e
  cases eg : g ds with
  | none => rw [eg] at e; cases e
  | some xs =>
    rw [eg] at e
    cases e
    refine ⟨G, ds, xs, s, w, eg, fun p vs G' H' g h1 h2 h3 z d => ?_⟩
    refine k (.ref p) (upd G' p (.lst vs)) H' (g.freeze h1 h2 h3) (.lst upd_same z (d.mono fun b u e => ?_))
    rw [upd_ne (ne_of_none e h1)]; exact e
theorem conv_BX {X : Cx} {R : StI S} {g : DS S → Option (List D)} : ∀ σ H (Q : VK), tO X.K R (oX (xO (oB g))) σ H Q → tF X.K g σ H Q := fun _ _ _ h => o_B (x_O (o_X h))
theorem conv_PX {X : Cx} {R : StI S} {g : DS S → Option (List D)} : ∀ σ H (Q : VK), tO X.K R (oX (xP (gL g))) σ H Q → tF X.K g σ H Q := fun _ _ _ h => p_f (x_pure (o_X h))
theorem xts_one {X : Cx} {c : Expr} {h : XF S Bool} (hc : PT X c (tXT X.K R h)) : PTs X [c] (tXT X.K R h) := pts_one hc
end
/-- a list taken apart -/
def asgL (is : List Nat) : D → Option (List (Nat × D))
  | .list ds => if ds.length = is.length then some (is.zip ds) else none
  | _ => none
theorem tgd_lst {K : PySem.W.Frag} {is : List Nat} : TGD K (L2.gLst K is.length (gNames is)) (asgL is) := fun x d as σ G H Q s hd e k => by
  cases hd with
  | lst q z r =>
    simp only [asgL] at e
    split at e
    · cases e
      rename_i hz
      exact ⟨_, _, rfl, SqL.of (s _ _ q), by rw [r.length]; exact hz, names_go r hz k⟩
    · cases e
  | _ => cases e
theorem own_lst {is own : List Nat} (h : ∀ i ∈ is, i ∈ own) : ∀ d as, asgL is d = some as → ∀ p ∈ as, p.1 ∈ own := fun d as e p hp => by
  cases d with
  | list ds =>
    simp only [asgL] at e
    split at e
    · cases e
      exact h _ (List.of_mem_zip hp).1
    · cases e
  | _ => cases e
section
variable {S : Type} {X : Cx} {a b c : Expr} {ga gb gc : DS S → Option D} {pos : Pos}
theorem p_chain {K : PySem.W.Frag} {r r' : R2} {g g' : D → D → Option D} (hr : R2D K r g) (hr' : R2D K r' g') {σ : L2.St} {H : Hp} {Q : VK} (h : tP K (gChain g g' ga gb gc) σ H Q) : tChain r r' (tP K ga) (tP K gb) (tP K gc) σ H Q := by
  obtain ⟨G, ds, d, s, w, e, k⟩ := h
  unfold gChain at e
  cases ea : ga ds with
  | none => rw [ea] at e; cases e
  | some x =>
    cases eb : gb ds with
    | none => simp [ea, eb] at e
    | some y =>
      cases ez : g x y with
      | none => simp [ea, eb, ez] at e
      | some z =>
        simp only [ea, eb, ez, Option.bind_some] at e
        refine ⟨G, ds, x, s, w, ea, fun v G1 H1 g1 d1 => ?_⟩
        refine ⟨G1, ds, y, g1.sub, w.mono g1.keep, eb, fun u G2 H2 g2 d2 => ?_⟩
        refine hr v u x y z G2 H2 _ g2.sub (d1.mono g2.keep) d2 ez fun q G3 H3 g3 d3 => ?_
        cases z with
        | bool t =>
          cases d3
          refine ⟨t, rfl, ?_⟩
          cases t with
          | true =>
            cases ec : gc ds with
            | none => simp [ec] at e
            | some o =>
              simp only [ec, Option.bind_some] at e
              refine iteT ⟨G3, ds, o, g3.sub, w.mono ((g1.trans g2).trans g3).keep, ec, fun p G4 H4 g4 d4 => ?_⟩
              exact hr' u p y o d G4 H4 Q g4.sub (d2.mono (g3.trans g4).keep) d4 e fun r G5 H5 g5 d5 => k r G5 H5 ((((g1.trans g2).trans g3).trans g4).trans g5) d5
          | false =>
            have e' : d = .bool false := by simpa using e.symm
            subst e'
            exact iteF (k _ G3 H3 ((g1.trans g2).trans g3) (.bl false))
        | _ => cases e
theorem tp_chain {op op' : CmpOp} {r r' : R2} {g g' : D → D → Option D} (ho : OpR X (compareOp op) r) (hr : R2D X.K r g) (ho' : OpR X (compareOp op') r') (hr' : R2D X.K r' g') (ha : PE X a (tP X.K ga)) (hb : PE X b (tP X.K gb)) (hc : PE X c (tP X.K gc))
    (hm : lastMarks [op, op'] [b, c] = false := by with_unfolding_all rfl) : PT X (.Compare a [op, op'] [b, c] pos) (tPT X.K (gB (gChain g g' ga gb gc))) := PT.imp (pt_chain ho ho' ha hb hc hm) fun σ H Q ⟨G, ds, t, s, w, e, k⟩ => by
  unfold gB at e
  split at e
  · cases e
    rename_i t0 eg
    refine p_chain hr hr' ⟨G, ds, _, s, w, eg, fun v G' H' gr d => ?_⟩
    cases d
    exact ⟨_, rfl, k G' H' gr⟩
  · cases e
end
end DL
set_option Elab.async false
set_option linter.all false
set_option maxRecDepth 100000
set_option maxHeartbeats 4000000
namespace DL
open PySem PySem.Spec PyProof.Rows L2

/-! ### xs.extend(a tuple) -/
theorem ext_tup (l : Addr) (its : Array Value) (n : Nat) (b : Addr) (dd : Option Addr) (sl : Array (Option Value)) (more : Array Value) (n2 : Nat) (z0 : ¬ (!its.isEmpty && Builtin.List.listTooLong (its.size + more.size)) = true) (z1 : its.size ≤ sizeLine) (z2 : its.size + more.size ≤ sizeLine + 1) :
    Meets (Builtin.«list.extend» ⟨[.ref l, .ref b], []⟩) (fun _ R s => s.heap.get? l = some { cls := .type "list", dict := none, data := .seq its n, slots := #[] } ∧ s.heap.get? b = some { cls := .type "tuple", dict := dd, data := .seq more n2, slots := sl } ∧
      R (.ok (.ret Value.none)) { s with heap := s.heap.update l (Obj.mapSeq fun x => x ++ more), toks := s.toks }) :=
  .of_wp fun prog w A R s h => by
    obtain ⟨hp, g, d, tk, os⟩ := s
    obtain ⟨hl, hb, h⟩ := h
    have f1 := AutoSeq1.idx_int; have f2 := sub_tuple_tuple; have f3 := sub_list_list; have f4 := sub_tuple_list; have f5 := sub_list_tuple
    have hz' : (its ++ more).size ≤ sizeLine + 1 := by rw [Array.size_append]; exact z2
    wp_walk using (wpAny_updateSeq hl rfl (hz := z1) (_hz' := hz')), wpAny_loadPart' hl, wpAny_loadPart' hb
    exact ⟨_, rfl, h⟩
def rExtT (K : PySem.W.Frag) : V → List V → Hp → VK → Prop := fun x vs H Q => ∃ l b xs zs, x = .ref l ∧ vs = [.ref b] ∧ H l = some (.lst xs) ∧ SqT K H b zs ∧ xs.length + zs.length ≤ sizeLine ∧ Q .non (upd H l (.lst (xs ++ zs)))
theorem mt_extT {X : Cx} : MtM X "list.extend" (rExtT X.K) := by
  intro pins s σ H x vs v us Q I rx rv h
  obtain ⟨l, b, xs, zs, rfl, rfl, hH, hB, hz, q⟩ := h
  cases rx
  obtain ⟨u, rfl, ru⟩ := rv.one
  cases ru
  obtain ⟨z, its, n, r, hl, e⟩ := I.lstM hH
  obtain ⟨its2, r2, tp, z2⟩ := I.tuple hB
  obtain ⟨⟨cls, dd, data, sl⟩, ho, hc, n2, hd⟩ := id tp
  dsimp only at hc hd
  subst hc hd
  have l2 := r2.length
  have hsz : its.toArray.size + its2.toArray.size ≤ sizeLine := by rw [List.size_toArray, List.size_toArray]; omega
  have hlong : ¬ (!its.toArray.isEmpty && Builtin.List.listTooLong (its.toArray.size + its2.toArray.size)) = true := by
    rw [notLongL hsz, Bool.and_false]; exact Bool.false_ne_true
  refine call_meets F.slot_list_extend ⟨_, e, rfl⟩ F.entry_list_extend (F.args_list_extend_2 _ _) (ext_tup l its.toArray n b dd sl its2.toArray n2 hlong (by rw [List.size_toArray]; omega) (by omega)) ⟨e, ho, ?_⟩
  exact ⟨.non, _, I.lset (its' := its ++ its2) hH e (by simp) (r.append r2) (by rw [List.length_append]; omega), rfl, q⟩
def extTD (xs as : List D) : Option (D × List D) := match as with
  | [.tuple ys] => if xs.length + ys.length ≤ sizeLine then some (.none, xs ++ ys) else none
  | _ => none
theorem d_extT {K : PySem.W.Frag} : MtD K (rExtT K) extTD := by
  intro p vs xs as ws d ys G H Q s hp hg z dx dw e k
  match as, e with
  | [.tuple zs], e =>
    simp only [extTD] at e
    split at e
    · rename_i hz
      cases e
      match ws, dw with
      | _, .cons (.tup q z2 r) .nil =>
        exact ⟨p, _, vs, _, rfl, rfl, hp, sqt_mono s q, by rw [dx.length, r.length]; exact hz, k _ (vs ++ _) (by rw [List.length_append, dx.length, r.length]; exact hz) (dx.append r) .non⟩
    · cases e
section
variable {S : Type} {X : Cx} {R : StI S} {o e : Expr} {es : List Expr} {apos cpos : Pos}
theorem ex_extT {j : Nat} {f : XF S (List D)} (ho : PE X o (tVar j)) (ha : PA X (e :: es) (tXA X.K R f)) (hbase : attributeBase o "extend" X.env (eval o X.env) = eval o X.env := by rfl)
    (hfew : ((backTo cpos (starEach (e :: es) X.env)).all (fun x => !x.1) && (backToKw cpos (keywordEach [] X.env)).all (fun x => x.1.isSome)
      && decide ((e :: es).length + ([] : List Keyword).length + (if ([] : List Keyword).isEmpty then 0 else 1) < 30)) = true := by rfl)
    (hline : (apos.endLine == cpos.line) = true := by rfl) (hs : starEach (e :: es) X.env = (false, eval e X.env) :: starEach es X.env := by rfl) (hplain : (backTo cpos (starEach es X.env)).any (·.1) = false := by rfl) :
    PE X (.Call (.Attribute o "extend" apos) (e :: es) [] cpos) (tX X.K R (xMt j extTD f)) := PE.imp (pe_bm PySem.F.plainAttrs_list PySem.F.slot_list_extend PySem.F.type_list_extend mt_extT ho ha hbase hfew hline hs hplain) fun _ _ _ h => x_mt d_extT ty_own h
end
end DL
set_option Elab.async false
set_option linter.all false
set_option maxRecDepth 100000
set_option maxHeartbeats 4000000
namespace DL
open PySem PySem.Spec PyProof.Rows L2

/-! ### what is not read: raise -/
section
variable {S : Type} {X : Cx} {R : StI S} {pn : List Nat} {st : Stmt} {body : List Stmt} {h0 : ExceptHandler} {hs : List ExceptHandler} {pos : Pos}
def gUndef : SF S := fun _ => none
theorem ss_undef : PS X st (tS X.K R pn (gUndef (S := S))) := ⟨fun _ _ _ _ _ _ ⟨_, _, _, _, _, e, _⟩ => by cases e⟩
/-- try, where the body is not left by an exception -/
theorem ss_try {g : SF S} (hb : PSs X.nox body (tS X.K R pn g)) : PS X (.Try body (h0 :: hs) [] [] pos) (tS X.K R pn g) := ps_try_thru0 hb
/-- a module's constant -/
theorem ep_glob {x : Str} {v : V} {d : D} {u : Value} (hg : Gl X x) (hm : X.mg x = some u) (r : RelV v u) (dd : ∀ G, Den X.K G v d) (hd : (x == ("__debug__" : Str)) = false := by decide) : PE X (.Name x pos) (tP X.K (gC (S := S) d)) := ep_c (pe_glob hg hm r hd) dd
theorem ep_globI {x : Str} {i : Int} (hg : Gl X x) (hm : ∃ t, X.mg x = some (.int i t)) (hd : (x == ("__debug__" : Str)) = false := by decide) : PE X (.Name x pos) (tP X.K (gC (S := S) (.int i))) := by
  obtain ⟨t, hm⟩ := hm
  exact ep_glob hg hm (v := .int i) ⟨t, rfl⟩ (fun _ => .int i) hd
theorem ep_globS {x y : Str} (hg : Gl X x) (hm : ∃ t, X.mg x = some (.str y t)) (hd : (x == ("__debug__" : Str)) = false := by decide) (h : y.length ≤ sizeLine := by decide +kernel) (o : PyData.strOk y = true := by decide +kernel) : PE X (.Name x pos) (tP X.K (gC (S := S) (.str y))) := by
  obtain ⟨t, hm⟩ := hm
  exact ep_glob hg hm (v := .str y) ⟨t, rfl⟩ (fun _ => .str y h o) hd
end

/-! ### < of ints, of texts, of tuples -/
section
variable {X : Cx} {K : PySem.W.Frag}
def rLtA (K : PySem.W.Frag) : R2 := fun x y H Q => ∃ d e, Dp K H x d ∧ Dp K H y e ∧ PySem.W.alike d e = true ∧ d ≠ .none ∧ min d.depth e.depth ≤ 64 ∧ Q (.bl (PySem.W.dataLt d e)) H
theorem op_ltA (hu : X.A.units + 65 < cLine) : OpR X (compareOp .Lt) (rLtA X.K) := by
  intro pins s σ H x y v u Q I rx ry h
  obtain ⟨d, e, hd, he, al, ne, z, q⟩ := h
  obtain ⟨as, r1⟩ := Dp.reads I d x v hd rx
  obtain ⟨bs, r2⟩ := Dp.reads I e y u he ry
  exact PySem.W.rcLt_alike d e X.A s v u as bs r1 r2 al ne (by omega) X.prog X.w X.xe (EP X pins σ Q) ⟨.bl _, H, I, rfl, q⟩
theorem o_ltA (hu : X.A.units + 65 < cLine) : OpR X (compareOp .Lt) (fun x y H Q => rCmpD (fun i j => decide (i < j)) strLt x y H Q ∨ rLtA X.K x y H Q) := OpR.or o_lt (op_ltA hu)
theorem d_ltA : R2D K (fun x y H Q => rCmpD (fun i j => decide (i < j)) strLt x y H Q ∨ rLtA K x y H Q) ltTD := by
  intro x y dx dy d G H Q s d1 d2 e k
  have go : ltD dx dy = some d → rCmpD (fun i j => decide (i < j)) strLt x y H Q ∨ rLtA K x y H Q := fun e => .inl (d_lt x y dx dy d G H Q s d1 d2 e k)
  match dx, dy, d1, d2, e, go with
  | .tuple xs, .tuple ys, d1, d2, e, _ =>
    simp only [ltTD] at e
    split at e
    · rename_i h
      cases e
      exact .inr ⟨_, _, (d1.mono s).dp, (d2.mono s).dp, h.1, (fun z => by cases z), h.2, k _ G H (.refl s) (.bl _)⟩
    · cases e
  | .tuple xs, .none, _, _, e, go => exact go e
  | .tuple xs, .bool _, _, _, e, go => exact go e
  | .tuple xs, .int _, _, _, e, go => exact go e
  | .tuple xs, .str _, _, _, e, go => exact go e
  | .tuple xs, .list _, _, _, e, go => exact go e
  | .tuple xs, .dict _, _, _, e, go => exact go e
  | .none, _, _, _, e, go => exact go e
  | .bool _, _, _, _, e, go => exact go e
  | .int _, _, _, _, e, go => exact go e
  | .str _, _, _, _, e, go => exact go e
  | .list _, _, _, _, e, go => exact go e
  | .dict _, _, _, _, e, go => exact go e
end

/-! ### xs.extend(a list or a tuple) -/
section
variable {S : Type} {X : Cx} {K : PySem.W.Frag} {R : StI S} {o e : Expr} {es : List Expr} {apos cpos : Pos}
def extBD (xs as : List D) : Option (D × List D) := match as with
  | [.tuple ys] => if xs.length + ys.length ≤ sizeLine then some (.none, xs ++ ys) else none
  | as => extD xs as
def rExtB (K : PySem.W.Frag) : V → List V → Hp → VK → Prop := fun x vs H Q => rExtend x vs H Q ∨ rExtT K x vs H Q
theorem mt_extB : MtM X "list.extend" (rExtB X.K) := by
  intro pins s σ H x vs v us Q I rx rv h
  rcases h with h | h
  · exact mt_extend pins s σ H x vs v us Q I rx rv h
  · exact mt_extT pins s σ H x vs v us Q I rx rv h
theorem d_extB : MtD K (rExtB K) extBD := by
  intro p vs xs as ws d ys G H Q s hp hg z dx dw e k
  have go : extD xs as = some (d, ys) → rExtB K (.ref p) ws H Q := fun e => .inl (d_ext p vs xs as ws d ys G H Q s hp hg z dx dw e k)
  unfold extBD at e
  split at e
  · exact .inr (d_extT p vs xs _ ws d ys G H Q s hp hg z dx dw (by unfold extTD; exact e) k)
  · exact go e
theorem ex_extB {j : Nat} {f : XF S (List D)} (ho : PE X o (tVar j)) (ha : PA X (e :: es) (tXA X.K R f)) (hbase : attributeBase o "extend" X.env (eval o X.env) = eval o X.env := by rfl)
    (hfew : ((backTo cpos (starEach (e :: es) X.env)).all (fun x => !x.1) && (backToKw cpos (keywordEach [] X.env)).all (fun x => x.1.isSome)
      && decide ((e :: es).length + ([] : List Keyword).length + (if ([] : List Keyword).isEmpty then 0 else 1) < 30)) = true := by rfl)
    (hline : (apos.endLine == cpos.line) = true := by rfl) (hs : starEach (e :: es) X.env = (false, eval e X.env) :: starEach es X.env := by rfl) (hplain : (backTo cpos (starEach es X.env)).any (·.1) = false := by rfl) :
    PE X (.Call (.Attribute o "extend" apos) (e :: es) [] cpos) (tX X.K R (xMt j extBD f)) := PE.imp (pe_bm PySem.F.plainAttrs_list PySem.F.slot_list_extend PySem.F.type_list_extend mt_extB ho ha hbase hfew hline hs hplain) fun _ _ _ h => x_mt d_extB ty_own h
/-! xs.remove(k), ints -/
def remD (xs as : List D) : Option (D × List D) := match as with
  | [.int k] => (intsOf xs).bind fun ns => (ns.findIdx? (· == k)).map fun j => (.none, xs.eraseIdx j)
  | _ => none
theorem d_rem : MtD K rRemI remD := by
  intro p vs xs as ws d ys G H Q s hp hg z dx dw e k
  match as, e with
  | [.int q], e =>
    match ws, dw with
    | _, .cons (.int _) .nil =>
      simp only [remD] at e
      cases en : intsOf xs with
      | none => rw [en] at e; cases e
      | some ns =>
        rw [en, Option.bind_some] at e
        cases ej : ns.findIdx? (· == q) with
        | none => rw [ej] at e; cases e
        | some j =>
          rw [ej] at e
          cases e
          have hv := ints_den dx en
          subst hv
          obtain ⟨hj, pj, nj⟩ := List.findIdx?_eq_some_iff_getElem.mp ej
          have e1 : ns[j]? = some q := by rw [List.getElem?_eq_getElem hj]; exact congrArg some (eq_of_beq pj)
          refine ⟨p, ns, q, j, rfl, rfl, hp, e1, fun m hm z => ?_, ?_⟩
          · obtain ⟨hm', em⟩ := List.getElem?_eq_some_iff.mp z
            exact nj m hm (by rw [em]; exact beq_self_eq_true q)
          · rw [← erase_mapI]
            exact k _ _ (by rw [List.length_eraseIdx]; split <;> omega) (dx.erase j) .non
theorem ex_rem {j : Nat} {f : XF S (List D)} (ho : PE X o (tVar j)) (ha : PA X (e :: es) (tXA X.K R f)) (hbase : attributeBase o "remove" X.env (eval o X.env) = eval o X.env := by rfl)
    (hfew : ((backTo cpos (starEach (e :: es) X.env)).all (fun x => !x.1) && (backToKw cpos (keywordEach [] X.env)).all (fun x => x.1.isSome)
      && decide ((e :: es).length + ([] : List Keyword).length + (if ([] : List Keyword).isEmpty then 0 else 1) < 30)) = true := by rfl)
    (hline : (apos.endLine == cpos.line) = true := by rfl) (hs : starEach (e :: es) X.env = (false, eval e X.env) :: starEach es X.env := by rfl) (hplain : (backTo cpos (starEach es X.env)).any (·.1) = false := by rfl) :
    PE X (.Call (.Attribute o "remove" apos) (e :: es) [] cpos) (tX X.K R (xMt j remD f)) := PE.imp (pe_bm PySem.F.plainAttrs_list PySem.F.slot_list_remove PySem.F.type_list_remove mt_remove ho ha hbase hfew hline hs hplain) fun _ _ _ h => x_mt d_rem ty_own h
end
end DL
set_option Elab.async false
set_option linter.all false
set_option maxRecDepth 100000
set_option maxHeartbeats 4000000
namespace DL
open PySem PySem.Spec PyProof.Rows L2

/-! ### sets of ints and texts whose members may be walked -/
def vKey : Value → Option Key
  | .int i _ => some (.inl i)
  | .str x _ => some (.inr x)
  | _ => none
theorem vKey_of {k : Key} {v : Value} (h : keyIs k v = true) : vKey v = some k := by
  rcases keyIs_shape h with ⟨i, t, rfl, rfl⟩ | ⟨x, t, rfl, rfl⟩ <;> rfl
theorem key_scans {k : Key} {v : Value} (h : keyIs k v = true) : v.scannable = true := by
  rcases keyIs_shape h with ⟨i, t, rfl, rfl⟩ | ⟨x, t, rfl, rfl⟩ <;> rfl
def hasK (ks : List Key) (k : Key) : Bool := ks.any fun j => decide (j = k)
theorem hasK_iff {ks : List Key} {k : Key} : hasK ks k = true ↔ k ∈ ks := by
  unfold hasK
  rw [List.any_eq_true]
  exact ⟨fun ⟨j, h, e⟩ => by rw [← of_decide_eq_true e]; exact h, fun h => ⟨k, h, decide_eq_true rfl⟩⟩
def addK (ks : List Key) (k : Key) : List Key := if hasK ks k = true then ks else ks ++ [k]
def distK (ks : List Key) : List Key := ks.foldl addK []
theorem distK_take {ks : List Key} {i : Nat} {k : Key} (h : ks[i]? = some k) : distK (ks.take (i + 1)) = addK (distK (ks.take i)) k := by
  unfold distK
  rw [List.take_add_one, h]
  simp [List.foldl_append]
theorem addK_nodup {ks : List Key} {k : Key} (h : ks.Nodup) : (addK ks k).Nodup := by
  unfold addK
  split
  · exact h
  · rename_i z
    rw [List.nodup_append]
    exact ⟨h, by simp, fun a ha b hb => by simp at hb; rw [hb]; exact fun y => z (hasK_iff.mpr (y ▸ ha))⟩
theorem addK_length (ks : List Key) (k : Key) : (addK ks k).length ≤ ks.length + 1 := by
  unfold addK
  split <;> simp
theorem distK_len : ∀ (n : Nat) (ks : List Key), ks.length = n → (distK ks).length ≤ n := by
  have go : ∀ (ks acc : List Key), (ks.foldl addK acc).length ≤ acc.length + ks.length := by
    intro ks
    induction ks with
    | nil => intro acc; simp
    | cons k r ih =>
      intro acc
      have h1 := ih (addK acc k)
      have h2 := addK_length acc k
      simp only [List.foldl_cons, List.length_cons]
      omega
  intro n ks h
  have := go ks []
  unfold distK
  simp at this
  omega
/-- the set at a; ks: its members in some order -/
def SetM (P : Program) (w : World) (h : Heap) (a : Addr) (ks : List Key) : Prop :=
  ∃ o es ep t, h.get? a = some o ∧ o.ExactSet ∧ o.data = .set es ep t ∧ ElemsOf (mixKind P w) es.toList ∧ (es.toList.map fun e => vKey e.2).Perm (ks.map some) ∧ ks.Nodup ∧ es.size < scanBound ∧ t.fits es.size = true ∧ Ris t.place.toList ∧ (w.params.followText "set-order" = true ∨ t.led = true)
section
variable {P : Program} {w : World} {A : Around} {E : Value → Shared → Prop} {s : Shared} {a : Addr} {ks : List Key}
theorem SetM.keep {h h' : Heap} (R : SetM P w h a ks) (k : ∀ o, h.get? a = some o → h'.get? a = some o) : SetM P w h' a ks := by
  obtain ⟨o, es, ep, t, ho, r⟩ := R
  exact ⟨o, es, ep, t, k o ho, r⟩
theorem mem_at {l : List (Int × Value)} (el : ElemsOf (mixKind P w) l) (k : Key) : some k ∈ l.map (fun e => vKey e.2) ↔ ∃ e ∈ l, (mixKind P w).is k e.2 = true := by
  rw [List.mem_map]
  refine ⟨fun ⟨e, he, q⟩ => ⟨e, he, ?_⟩, fun ⟨e, he, q⟩ => ⟨e, he, vKey_of q⟩⟩
  obtain ⟨⟨k', q', _⟩, _⟩ := el e he
  have := vKey_of q'
  rw [q] at this
  cases this
  exact q'
theorem size_keys {es : Array (Int × Value)} (pm : (es.toList.map fun e => vKey e.2).Perm (ks.map some)) : es.size = ks.length := by
  have := pm.length_eq
  simpa using this
theorem setM_lay {g : Bool → Sem Unit} (hg : ∀ (b : Bool) (s₁ : Shared) (Z : Unit → Shared → Prop), Z () s₁ → wpAny (model P w) A (g b) Z E s₁) {o : Obj} {es : Array (Int × Value)} {ep : Nat} {t : SetTable} (ho : s.heap.get? a = some o) (hx : o.ExactSet) (hd : o.data = .set es ep t) {fs : Array (Int × Value)} {t2 : SetTable}
    (el : ElemsOf (mixKind P w) fs.toList) (pm : (fs.toList.map fun e => vKey e.2).Perm (ks.map some)) (nd : ks.Nodup) (hb : fs.size < scanBound) (hf : t2.fits fs.size = true) (hr : Ris t2.place.toList) (hl : w.params.followText "set-order" = true ∨ t2.led = true) {wd : Bool} {Z : Option Bool → Shared → Prop}
    (hZ : ∀ h', Heap.SameBut a s.heap h' → SetM P w h' a ks → Z (some true) { s with heap := h' }) :
    wpAny (model P w) A (do { storeSet a fs t2; if (!wd && t2.tooFull) = true then do { g (relayAll t2 fs (SetTable.grown fs.size)).2.2; storeSet a (relayAll t2 fs (SetTable.grown fs.size)).1 (relayAll t2 fs (SetTable.grown fs.size)).2.1; pure (some true) } else pure (some true) }) Z E s := by
  have first := store_at (es' := fs) (t' := t2) ho hd
  have same := Heap.SameBut.update s.heap a (Obj.putSet fs t2)
  refine wpAny_bind (wpAny_storeSet_of ho hd ?_ (fits_of_scanBound hb))
  split
  · have q1 := relayAll_perm t2 fs (SetTable.grown fs.size); have q2 := relayAll_fits t2 fs (SetTable.grown fs.size); have q3 := relayAll_ris t2 fs (SetTable.grown fs.size); have q4 := relayAll_led t2 fs (SetTable.grown fs.size)
    generalize relayAll t2 fs (SetTable.grown fs.size) = Y at q1 q2 q3 q4 ⊢
    obtain ⟨gs, t3, gv⟩ := Y
    dsimp only at q1 q2 q3 q4 ⊢
    have sz : gs.size = fs.size := by have := q1.length_eq; simpa using this
    refine wpAny_bind (hg _ _ _ (wpAny_bind (wpAny_storeSet_of first rfl ?_ (fits_of_scanBound (by rw [sz]; exact hb)))))
    refine wpAny_pure (hZ _ (same.trans (Heap.SameBut.update _ a _)) ⟨_, gs, _, t3, store_at (es' := gs) (t' := t3) first rfl, hx, rfl, fun e he => el e (q1.mem_iff.mp he), (q1.map _).trans pm, nd, by rw [sz]; exact hb, q2, q3, hl.imp id fun z => by rw [q4]; exact z⟩)
  · exact wpAny_pure (hZ _ same ⟨_, fs, _, t2, first, hx, rfl, el, pm, nd, hb, hf, hr, hl⟩)
theorem setM_add {k : Key} {v : Value} (hv : keyIs k v = true) {Q : Bool → Shared → Prop} (R : SetM P w s.heap a ks) (room : ks.length + 1 < scanBound) (hQ : ∀ b h', Heap.SameBut a s.heap h' → SetM P w h' a (addK ks k) → Q b { s with heap := h' }) :
    wpAny (model P w) A (setAddHashed a v ((mixKind P w).hash k)) Q E s := by
  obtain ⟨o, es, ep, t, ho, hx, hd, el, pm, nd, hb, hf, hr, hl⟩ := R
  have sc := key_scans hv
  have hs : (mixKind P w).is k v = true := hv
  have inK : k ∈ ks ↔ ∃ e ∈ es.toList, (mixKind P w).is k e.2 = true := by
    rw [← mem_at el k, pm.mem_iff, List.mem_map]
    exact ⟨fun z => ⟨k, z, rfl⟩, fun ⟨k', z, e⟩ => by cases e; exact z⟩
  unfold setAddHashed setAddHashedIn
  refine wpAny_holding (wpAny_bind (wpAny_setState_of ho hd hf ?_))
  dsimp only
  rw [byScan_of sc hb el]
  simp only [↓reduceIte]
  unfold setAddByScan
  refine wpAny_bind (wpAny_bind (wpAny_rule (wpAny_bind (wpAny_setScan_of hs ho hd hf el ?_))))
  cases ef : List.findIdx? (fun e => (mixKind P w).is k e.2) es.toList with
  | some j =>
    dsimp only
    obtain ⟨hj, pj, _⟩ := List.findIdx?_eq_some_iff_getElem.mp ef
    have there : addK ks k = ks := if_pos (hasK_iff.mpr (inK.mpr ⟨_, List.getElem_mem hj, pj⟩))
    exact wpAny_pure (wpAny_pure (hQ _ s.heap (Heap.SameBut.refl a s.heap) (by rw [there]; exact ⟨o, es, ep, t, ho, hx, hd, el, pm, nd, hb, hf, hr, hl⟩)))
  | none =>
    dsimp only
    have out : k ∉ ks := fun z => by
      obtain ⟨e, he, q⟩ := inK.mp z
      have := List.findIdx?_eq_none_iff.mp ef e he
      rw [q] at this
      cases this
    have eK : addK ks k = ks ++ [k] := if_neg fun z => out (hasK_iff.mp z)
    have q1 := layNew_perm t es ((mixKind P w).hash k) v; have q2 := layNew_fits t es ((mixKind P w).hash k) v; have q3 := layNew_ris t es ((mixKind P w).hash k) v hr; have q4 := layNew_led t es ((mixKind P w).hash k) v
    generalize layNew t es ((mixKind P w).hash k) v = Y at q1 q2 q3 q4 ⊢
    obtain ⟨fs, t1, wd, gv⟩ := Y
    dsimp only at q1 q2 q3 q4 ⊢
    rw [Array.toList_push] at q1
    have el1 : ElemsOf (mixKind P w) fs.toList := fun e he => by
      rcases List.mem_append.mp (q1.mem_iff.mp he) with z | z
      · exact el e z
      · rw [List.mem_singleton.mp z]; exact ⟨⟨k, hs, rfl⟩, sc⟩
    have pm1 : (fs.toList.map fun e => vKey e.2).Perm ((addK ks k).map some) := by
      refine (q1.map _).trans ?_
      rw [List.map_append, eK, List.map_append]
      refine pm.append ?_
      show [vKey v].Perm [some k]
      rw [vKey_of hv]
    have hb1 : fs.size < scanBound := by
      rw [size_keys pm1, eK, List.length_append]
      exact room
    have gw : ∀ (b : Bool) {s₁ : Shared} {Z : Unit → Shared → Prop}, Z () s₁ → wpAny (model P w) A (match b with | true => rule "set.scan.the-table-gave-way" | false => pure ()) Z E s₁ := fun b _ _ q => by
      cases b
      · exact wpAny_pure q
      · exact wpAny_rule q
    have led1 : w.params.followText "set-order" = true ∨ t1.led = true := hl.imp id fun z => by rw [q4]; exact z
    have nd1 := addK_nodup (k := k) nd
    refine wpAny_bind (gw _ ?_)
    split
    · refine wpAny_bind ?_
      rw [hashByValue_scannable 8 sc]
      refine wpAny_pure (setM_lay (ks := addK ks k) (fun b s₁ Z q => gw b q) ho hx hd el1 pm1 nd1 hb1 ?_ ?_ ?_ fun h' sb r => by dsimp only; exact wpAny_pure (hQ _ h' sb r))
      · first | (split <;> first | exact q2 | exact SetTable.fits_plain_off q2) | exact q2
      · first | (split <;> exact q3) | exact q3
      · first | (split <;> exact led1) | exact led1
    · refine wpAny_bind (wpAny_pure ?_)
      simp only [↓reduceIte]
      exact setM_lay (ks := addK ks k) (fun b s₁ Z q => gw b q) ho hx hd el1 pm1 nd1 hb1 q2 q3 led1 fun h' sb r => by dsimp only; exact wpAny_pure (hQ _ h' sb r)
end
end DL
set_option Elab.async false
set_option linter.all false
set_option maxRecDepth 100000
set_option maxHeartbeats 4000000
namespace DL
open PySem PySem.Spec PyProof.Rows L2
theorem paired_at {α β : Type} {F : α → β → Prop} : ∀ {xs : List α} {ys : List β}, Paired F xs ys → ∀ {i : Nat} {b : β}, ys[i]? = some b → ∃ a, xs[i]? = some a ∧ F a b
  | _, _, .nil, _, _, e => by simp at e
  | _, _, .cons h _, 0, _, e => by simp at e; subst e; exact ⟨_, rfl, h⟩
  | _, _, .cons _ r, i + 1, _, e => by
    obtain ⟨a, h1, h2⟩ := paired_at r (i := i) (by simpa using e)
    exact ⟨a, by simpa using h1, h2⟩
section
variable {P : Program} {w : World} {A : Around} {E : Value → Shared → Prop} {s : Shared} {a : Addr}
abbrev newSet (w : World) : Obj := { cls := .type "set", dict := none, data := .set #[] 0 (.fresh 0 0 (!w.params.followText "set-order")) }
theorem setM_new {h : Heap} (ho : h.get? a = some (newSet w)) : SetM P w h a (distK []) :=
  ⟨_, #[], 0, _, ho, ⟨rfl, rfl, rfl⟩, rfl, (fun e he => by simp at he), .nil, .nil, (by decide), (by rfl), .nil, by
    show _ ∨ (!w.params.followText "set-order") = true
    cases w.params.followText "set-order"
    · exact .inr rfl
    · exact .inl rfl⟩
theorem setM_loop {I : Addr} {fp wr : List Addr} {T : Array GenState → Array GenState → Prop} {n : Nat} {Pv : Nat → Value → Prop} {St : Nat → Shared → Prop} {R : Result → Shared → Prop} (W : WalksS P w A.in1 I fp wr T n Pv St) (z : Addr) (hz : z ∉ fp) (ks : List Key) (hn : n = ks.length) (hb : ks.length + 1 < scanBound)
    (hv : ∀ i v, Pv i v → ∃ k, ks[i]? = some k ∧ keyIs k v = true) : ∀ (m i : Nat) (s : Shared), n - i = m → i ≤ n → St i s → SetM P w s.heap z (distK (ks.take i)) →
      (∀ s', Moved (z :: wr) T s s' → SetM P w s'.heap z (distK ks) → R (.ok (.ret .none)) s') → codeAny (model P w) A (.builtin "set.update.loop" ⟨[.ref z, .ref I], []⟩) R s := by
  have nzw : z ∉ wr := fun h => hz (W.sub _ h)
  have up : ∀ b ∈ wr, b ∈ z :: wr := fun b h => List.mem_cons_of_mem _ h
  intro m
  induction m with
  | zero =>
    intro i s hm hi hst hS fin
    obtain rfl : i = n := by omega
    refine codeAny_builtin F.entry_set_update_loop ?_
    rw [Around.under_plainId F.plain_set_update_loop _]
    show wpAny _ A.in1 (pyNext (.ref I) >>= _) _ _ s
    refine wpAny_bind (W.done s _ _ hst fun s' mv => ?_)
    rw [List.take_of_length_le (by omega)] at hS
    exact wpAny_pure (fin s' (mv.mono up) (hS.keep fun o e => mv.heap z o nzw e))
  | succ m ih =>
    intro i s hm hi hst hS fin
    refine codeAny_builtin F.entry_set_update_loop ?_
    rw [Around.under_plainId F.plain_set_update_loop _]
    show wpAny _ A.in1 (pyNext (.ref I) >>= _) _ _ s
    refine wpAny_bind (W.item i s _ _ (by omega) hst fun v s' pv hst' mv => ?_)
    obtain ⟨k, ek, kv⟩ := hv i v pv
    have hS1 := hS.keep (h' := s'.heap) fun o e => mv.heap z o nzw e
    show wpAny _ A.in1 (holding [v] (setAdd z v) >>= _) _ _ s'
    refine wpAny_bind (wpAny_holding ?_)
    unfold setAdd
    refine wpAny_holding (wpAny_bind ((mixKind P w).pyHash (k := k) kv ?_))
    have room : (distK (ks.take i)).length + 1 < scanBound := by
      have := distK_len _ (ks.take i) rfl
      rw [List.length_take] at this
      omega
    refine setM_add (s := { s' with toks := s'.toks + 1 }) kv hS1 room fun b h' sb hS2 => ?_
    rw [← distK_take ek] at hS2
    refine wpAny_pure ⟨plainId_quiet F.plain_set_update_loop _, ih (i + 1) _ (by omega) (by omega) (W.frame _ s' _ _ hst' (Nat.le_succ _) fun c hc o e => ?_) hS2 fun s2 mv2 hS3 => fin s2 (Moved.trans W.gtrans ((mv.mono up).then_heap (Nat.le_succ _) fun c o hc e => ?_) mv2) hS3⟩
    · rw [sb.2 c fun y => hz (by rw [← y]; exact hc)]; exact e
    · rw [sb.2 c fun y => hc (by rw [y]; exact List.mem_cons_self)]; exact e
set_option maxHeartbeats 8000000 in
/-- set(xs), xs a list of ints and texts -/
theorem setM_ofList {l : Addr} {items : Array Value} (ks : List Key) {Q : Value → Shared → Prop} (hh : A.handled = none) (hl : s.heap.IsList l items) (hi : Paired (fun k v => keyIs k v = true) ks items.toList) (hb : ks.length + 1 < scanBound)
    (h : ∀ (h' : Heap) (tk : Nat), SetM P w h' s.heap.objs.size (distK ks) → (∀ b o, s.heap.get? b = some o → h'.get? b = some o) → Q (.ref s.heap.objs.size) { s with heap := h', toks := tk }) : wpAny (model P w) A (call (.type "set") [.ref l]) Q E s := by
  have sz : items.size = ks.length := by have := hi.length; simpa using this.symm
  obtain ⟨c, tl, hmro⟩ := F.called_set.mro
  have a1 := F.called_set.made; have a2 := F.called_set.sub; have a3 := F.called_set.notType; have a4 := F.called_set.canCreate; have a5 := F.typeCall_set_1 (.ref l); have a6 := F.called_set.init.lookup; have a7 := F.called_set.init.bind (.ref s.heap.objs.size)
  refine wpAny_call (codeAny_of_tree ?_)
  show wpAny _ _ (callAny (.type "set") _) _ _ _
  refine wpAny_pure ⟨Code.quiet_builtin _ (by decide +kernel), codeAny_builtin F.entry_type_call ?_⟩
  rw [Around.under_plain (weight_type_call_type "set" [.ref l] []) rfl]
  repeat (any_goals (first | assumption | wp_step))
  refine codeAny_mono (code_set_led1 (.ref l) (E := E) (Q₁ := fun x t => x = .ref s.heap.objs.size ∧ t = { s with heap := s.heap.push (newSet w) }) ⟨rfl, rfl⟩) fun r t hr => ?_
  match r, hr with
  | .error e, hr => exact hr
  | .ok .next, hr => exact hr.elim
  | .ok .brk, hr => exact hr.elim
  | .ok .cont, hr => exact hr.elim
  | .ok (.ret x), ⟨e1, e2⟩ =>
    subst e1 e2
    have b0 : (s.heap.push (newSet w)).get? s.heap.objs.size = some (newSet w) := Heap.get?_push_size _ rfl
    have b1 : Shared.TypeIs { s with heap := s.heap.push (newSet w) } (.ref s.heap.objs.size) "set" := ⟨_, b0, rfl⟩
    repeat (any_goals (first | assumption | wp_step))
    refine codeAny_mono (codeAny_call_builtin (R := wants (fun r t => r = .none ∧ ∃ h' tk, t = { s with heap := h', toks := tk } ∧ SetM P w h' s.heap.objs.size (distK ks) ∧ ∀ b o, s.heap.get? b = some o → h'.get? b = some o) E) F.called_set.init.plain F.entry_set_init (check_set_init_1 b1 ?_)) fun r t hr => ?_
    · obtain ⟨⟨oc, od, odt, osl⟩, ho, hc, nl, hd⟩ := hl
      simp only at hc hd
      subst hc hd
      have lt : l < s.heap.objs.size := Heap.lt_size ho
      have c1 : (s.heap.push (newSet w)).get? l = some { cls := .type "list", dict := od, data := .seq items nl, slots := osl } := Heap.get?_push_of_some _ ho
      have c2 := F.sub_list_set; have c3 := F.sub_list_frozenset; have c4 : (Value.type "list" == Value.type "dict") = false := by decide
      have c5 : (s.heap.push (newSet w)).IsList l items := ⟨_, c1, rfl, nl, rfl⟩
      have c6 : A.in1.in1.in1.handled = none := by simp [hh]
      have c7 : (s.heap.push (newSet w)).objs.size = s.heap.objs.size + 1 := Heap.size_push ..
      unfold Builtin.«set.__init__» noKeywords Builtin.Frozenset.updateFrom
      generalize hI : pyIter = PI
      wp_walk
      subst hI
      refine wpAny_pyIter_list c5 (wpAny_bind (wpAny_runValue ?_))
      refine setM_loop ((Walks.list c6 _ l (by rw [c7]; exact Nat.ne_of_lt (Nat.lt_succ_of_lt lt)) items).toS) s.heap.objs.size (by rw [c7]; simp only [List.mem_cons, List.not_mem_nil, or_false, not_or]; exact ⟨Nat.ne_of_lt (Nat.lt_succ_self _), Nat.ne_of_gt lt⟩) ks sz hb (fun i v e => ?_) (items.size - 0) 0 _ (by omega) (Nat.zero_le _) ⟨⟨_, Heap.get?_push_size _ rfl, rfl, rfl⟩, c5.push _⟩ ?_ ?_
      · obtain ⟨k, h1, h2⟩ := paired_at hi (by rw [Array.getElem?_toList]; exact e)
        exact ⟨k, h1, h2⟩
      · exact setM_new (Heap.get?_push_of_some _ b0)
      · intro s' mv hS
        obtain ⟨h', g2, d', tk', os'⟩ := s'
        obtain rfl : g2 = s.gens := mv.gens
        obtain rfl : d' = s.drawn := mv.drawn
        obtain rfl : os' = s.os := mv.os
        refine wpAny_pure (wpAny_pure ⟨rfl, h', tk', rfl, hS, fun b o e => ?_⟩)
        have lb : b < s.heap.objs.size := Heap.lt_size e
        refine mv.heap b o ?_ (Heap.get?_push_of_some _ (Heap.get?_push_of_some _ e))
        rw [c7]
        simp only [List.mem_cons, List.not_mem_nil, or_false, not_or]
        exact ⟨Nat.ne_of_lt lb, Nat.ne_of_lt (Nat.lt_succ_of_lt lb)⟩
    · match r, hr with
      | .error e, hr => exact hr
      | .ok .next, hr => exact hr.elim
      | .ok .brk, hr => exact hr.elim
      | .ok .cont, hr => exact hr.elim
      | .ok (.ret x), ⟨e1, h', tk, e2, hS, hk⟩ =>
        subst e1 e2
        repeat (any_goals (first | assumption | wp_step))
        exact h _ _ hS hk
set_option maxHeartbeats 8000000 in
/-- set(xs), xs a tuple of ints and texts -/
theorem setM_ofTup {l : Addr} {items : Array Value} (ks : List Key) {Q : Value → Shared → Prop} (hh : A.handled = none) (hl : s.heap.IsTuple l items) (hi : Paired (fun k v => keyIs k v = true) ks items.toList) (hb : ks.length + 1 < scanBound)
    (h : ∀ (h' : Heap) (tk : Nat), SetM P w h' s.heap.objs.size (distK ks) → (∀ b o, s.heap.get? b = some o → h'.get? b = some o) → Q (.ref s.heap.objs.size) { s with heap := h', toks := tk }) : wpAny (model P w) A (call (.type "set") [.ref l]) Q E s := by
  have sz : items.size = ks.length := by have := hi.length; simpa using this.symm
  obtain ⟨c, tl, hmro⟩ := F.called_set.mro
  have a1 := F.called_set.made; have a2 := F.called_set.sub; have a3 := F.called_set.notType; have a4 := F.called_set.canCreate; have a5 := F.typeCall_set_1 (.ref l); have a6 := F.called_set.init.lookup; have a7 := F.called_set.init.bind (.ref s.heap.objs.size)
  refine wpAny_call (codeAny_of_tree ?_)
  show wpAny _ _ (callAny (.type "set") _) _ _ _
  refine wpAny_pure ⟨Code.quiet_builtin _ (by decide +kernel), codeAny_builtin F.entry_type_call ?_⟩
  rw [Around.under_plain (weight_type_call_type "set" [.ref l] []) rfl]
  repeat (any_goals (first | assumption | wp_step))
  refine codeAny_mono (code_set_led1 (.ref l) (E := E) (Q₁ := fun x t => x = .ref s.heap.objs.size ∧ t = { s with heap := s.heap.push (newSet w) }) ⟨rfl, rfl⟩) fun r t hr => ?_
  match r, hr with
  | .error e, hr => exact hr
  | .ok .next, hr => exact hr.elim
  | .ok .brk, hr => exact hr.elim
  | .ok .cont, hr => exact hr.elim
  | .ok (.ret x), ⟨e1, e2⟩ =>
    subst e1 e2
    have b0 : (s.heap.push (newSet w)).get? s.heap.objs.size = some (newSet w) := Heap.get?_push_size _ rfl
    have b1 : Shared.TypeIs { s with heap := s.heap.push (newSet w) } (.ref s.heap.objs.size) "set" := ⟨_, b0, rfl⟩
    repeat (any_goals (first | assumption | wp_step))
    refine codeAny_mono (codeAny_call_builtin (R := wants (fun r t => r = .none ∧ ∃ h' tk, t = { s with heap := h', toks := tk } ∧ SetM P w h' s.heap.objs.size (distK ks) ∧ ∀ b o, s.heap.get? b = some o → h'.get? b = some o) E) F.called_set.init.plain F.entry_set_init (check_set_init_1 b1 ?_)) fun r t hr => ?_
    · obtain ⟨⟨oc, od, odt, osl⟩, ho, hc, nl, hd⟩ := hl
      simp only at hc hd
      subst hc hd
      have lt : l < s.heap.objs.size := Heap.lt_size ho
      have c1 : (s.heap.push (newSet w)).get? l = some { cls := .type "tuple", dict := od, data := .seq items nl, slots := osl } := Heap.get?_push_of_some _ ho
      have c2 := F.sub_tuple_set; have c3 := F.sub_tuple_frozenset; have c4 : (Value.type "tuple" == Value.type "dict") = false := by decide
      have c5 : (s.heap.push (newSet w)).IsTuple l items := ⟨_, c1, rfl, nl, rfl⟩
      have c6 : A.in1.in1.in1.handled = none := by simp [hh]
      have c7 : (s.heap.push (newSet w)).objs.size = s.heap.objs.size + 1 := Heap.size_push ..
      unfold Builtin.«set.__init__» noKeywords Builtin.Frozenset.updateFrom
      generalize hI : pyIter = PI
      wp_walk
      subst hI
      refine wpAny_pyIter_tuple c5 (wpAny_bind (wpAny_runValue ?_))
      refine setM_loop ((Walks.tuple c6 _ l (by rw [c7]; exact Nat.ne_of_lt (Nat.lt_succ_of_lt lt)) items).toS) s.heap.objs.size (by rw [c7]; simp only [List.mem_cons, List.not_mem_nil, or_false, not_or]; exact ⟨Nat.ne_of_lt (Nat.lt_succ_self _), Nat.ne_of_gt lt⟩) ks sz hb (fun i v e => ?_) (items.size - 0) 0 _ (by omega) (Nat.zero_le _) ⟨⟨_, Heap.get?_push_size _ rfl, rfl, rfl⟩, c5.push _⟩ ?_ ?_
      · obtain ⟨k, h1, h2⟩ := paired_at hi (by rw [Array.getElem?_toList]; exact e)
        exact ⟨k, h1, h2⟩
      · exact setM_new (Heap.get?_push_of_some _ b0)
      · intro s' mv hS
        obtain ⟨h', g2, d', tk', os'⟩ := s'
        obtain rfl : g2 = s.gens := mv.gens
        obtain rfl : d' = s.drawn := mv.drawn
        obtain rfl : os' = s.os := mv.os
        refine wpAny_pure (wpAny_pure ⟨rfl, h', tk', rfl, hS, fun b o e => ?_⟩)
        have lb : b < s.heap.objs.size := Heap.lt_size e
        refine mv.heap b o ?_ (Heap.get?_push_of_some _ (Heap.get?_push_of_some _ e))
        rw [c7]
        simp only [List.mem_cons, List.not_mem_nil, or_false, not_or]
        exact ⟨Nat.ne_of_lt lb, Nat.ne_of_lt (Nat.lt_succ_of_lt lb)⟩
    · match r, hr with
      | .error e, hr => exact hr
      | .ok .next, hr => exact hr.elim
      | .ok .brk, hr => exact hr.elim
      | .ok .cont, hr => exact hr.elim
      | .ok (.ret x), ⟨e1, h', tk, e2, hS, hk⟩ =>
        subst e1 e2
        repeat (any_goals (first | assumption | wp_step))
        exact h _ _ hS hk
end
end DL
set_option Elab.async false
set_option linter.all false
set_option maxRecDepth 100000
set_option maxHeartbeats 4000000
namespace DL
open PySem PySem.Spec PyProof.Rows L2
/-! ### keys as data -/
def keyOf1 : D → Option Key
  | .int i => some (.inl i)
  | .str x => some (.inr x)
  | _ => none
def keysD : List D → Option (List Key)
  | [] => some []
  | d :: r => (keyOf1 d).bind fun k => (keysD r).map (k :: ·)
theorem keyOf1_some {d : D} {k : Key} (h : keyOf1 d = some k) : d = kD k := by
  cases d <;> first | (cases h; rfl) | cases h
theorem keysD_some : ∀ {ds : List D} {ks : List Key}, keysD ds = some ks → ds = ks.map kD
  | [], _, e => by cases e; rfl
  | d :: r, ks, e => by
    unfold keysD at e
    cases e1 : keyOf1 d with
    | none => rw [e1] at e; cases e
    | some k =>
      rw [e1, Option.bind_some] at e
      cases e2 : keysD r with
      | none => rw [e2] at e; cases e
      | some q =>
        rw [e2] at e
        cases e
        rw [keyOf1_some e1, keysD_some e2]
        rfl
section
variable {K : PySem.W.Frag} {G : Hp}
theorem den_key {v : V} {k : Key} (h : Den K G v (kD k)) : v = kV k := by
  cases k <;> (cases h; rfl)
theorem den_keys : ∀ {vs : List V} {ks : List Key}, DenAll K G vs (ks.map kD) → vs = ks.map kV
  | _, [], h => by cases h; rfl
  | _, k :: ks, h => by
    cases h with
    | cons h r => rw [den_key h, den_keys r]; rfl
theorem keys_paired : ∀ {ks : List Key} {us : List Value}, Vals (ks.map kV) us → Paired (fun k v => keyIs k v = true) ks us
  | [], _, h => by cases h; exact .nil
  | k :: ks, _, h => by
    cases h with
    | cons r t =>
      refine .cons ?_ (keys_paired t)
      cases k with
      | inl i => obtain ⟨u, rfl⟩ := r; exact keyIs_int i u
      | inr x => obtain ⟨u, rfl⟩ := r; exact keyIs_str x u
theorem relV_key {k : Key} {v : Value} (h : keyIs k v = true) : RelV (kV k) v := by
  rcases keyIs_shape h with ⟨i, t, rfl, rfl⟩ | ⟨x, t, rfl, rfl⟩
  · exact ⟨t, rfl⟩
  · exact ⟨t, rfl⟩
theorem reads_key {h : Heap} {k : Key} {v : Value} (e : keyIs k v = true) : Reads h v (kD k) [] := by
  rcases keyIs_shape e with ⟨i, t, rfl, rfl⟩ | ⟨x, t, rfl, rfl⟩
  · exact Reads.int i t
  · exact Reads.str x t
end
/-! the order of alike keys is one of a kind -/
theorem key_anti {a b : Key} (al : PySem.W.alike (kD a) (kD b) = true) (h1 : PySem.W.dataLe false (fun d : D => d) (kD a) (kD b) = true) (h2 : PySem.W.dataLe false (fun d : D => d) (kD b) (kD a) = true) : a = b := by
  have e1 : PySem.W.dataLt (kD b) (kD a) = false := by simpa [PySem.W.dataLe_eq] using h1
  have e2 : PySem.W.dataLt (kD a) (kD b) = false := by simpa [PySem.W.dataLe_eq] using h2
  match a, b, al, e1, e2 with
  | .inl i, .inl j, _, e1, e2 =>
    have q1 : ¬ j < i := by simpa [kD, PySem.W.dataLt_int] using e1
    have q2 : ¬ i < j := by simpa [kD, PySem.W.dataLt_int] using e2
    rw [show i = j from by omega]
  | .inr x, .inr y, _, e1, e2 =>
    have q1 : ¬ y.cps.toList < x.cps.toList := by simpa [kD, PySem.W.dataLt_str] using e1
    have q2 : ¬ x.cps.toList < y.cps.toList := by simpa [kD, PySem.W.dataLt_str] using e2
    have q3 : x.cps.toList = y.cps.toList := List.le_antisymm (List.not_lt.mp q1) (List.not_lt.mp q2)
    rw [PySem.W.str_of_cps q3]
  | .inl _, .inr _, al, _, _ => cases al
  | .inr _, .inl _, al, _, _ => cases al
theorem sortD_perm {xs ys : List Key} (h : xs.Perm ys) (al : ∀ a ∈ xs, ∀ b ∈ xs, PySem.W.alike (kD a) (kD b) = true) : sortD (xs.map kD) = sortD (ys.map kD) := by
  have tot := PySem.W.sortLe_total (PyProof.Rows.listOrd itemOrd) false fun d : D => PySem.W.keyToks d
  have p1 : (sortD (xs.map kD)).Pairwise (fun a b => PySem.W.dataLe false (fun d : D => d) a b = true) := PySem.W.sort_pairwise tot _
  have p2 : (sortD (ys.map kD)).Pairwise (fun a b => PySem.W.dataLe false (fun d : D => d) a b = true) := PySem.W.sort_pairwise tot _
  have m1 : (sortD (xs.map kD)).Perm (xs.map kD) := List.mergeSort_perm _ _
  have m2 : (sortD (ys.map kD)).Perm (ys.map kD) := List.mergeSort_perm _ _
  have m : (sortD (xs.map kD)).Perm (sortD (ys.map kD)) := (m1.trans (h.map kD)).trans m2.symm
  refine List.Perm.eq_of_pairwise (fun a b ha hb h1 h2 => ?_) p1 p2 m
  obtain ⟨k, hk, rfl⟩ := List.mem_map.mp (m1.mem_iff.mp ha)
  obtain ⟨q, hq, rfl⟩ := List.mem_map.mp (m2.mem_iff.mp hb)
  rw [key_anti (al k hk q (h.mem_iff.mpr hq)) h1 h2]

/-! ### len(set(xs)), sorted(set(xs)) -/
def tLenS (K : PySem.W.Frag) (ta : TE) : TE := fun σ H Q => ta σ H fun x H1 => ∃ (l : Addr) (ks : List Key), x = .ref l ∧ (SqL K H1 l (ks.map kV) ∨ SqT K H1 l (ks.map kV)) ∧ ks.length ≤ 1000 ∧ Q (.int ((distK ks).length : Nat)) H1
def tSortS (K : PySem.W.Frag) (ta : TE) : TE := fun σ H Q => ta σ H fun x H1 => ∃ (l : Addr) (ks : List Key), x = .ref l ∧ (SqL K H1 l (ks.map kV) ∨ SqT K H1 l (ks.map kV)) ∧ ks.length ≤ 1000 ∧ (∀ a ∈ distK ks, ∀ b ∈ distK ks, PySem.W.alike (kD a) (kD b) = true) ∧
  ∀ (qs : List Key) (p : Addr), qs.Perm (distK ks) → qs.map kD = sortD ((distK ks).map kD) → H1 p = none → Q (.ref p) (upd H1 p (.lst (qs.map kV)))
section
variable {X : Cx} {a : Expr} {ta : TE} {p p2 q pos : Pos}
theorem set_call {pins : List (Addr × Obj)} {σ : L2.St} {H : Hp} {s : Shared} {l : Addr} {ks : List Key} (hc : X.calm = true) (I : Inv X pins σ H s) (hq : SqL X.K H l (ks.map kV) ∨ SqT X.K H l (ks.map kV)) (hl : ks.length ≤ 1000) {A : Around} (hh : A.handled = none) {Q : Value → Shared → Prop} {E : Value → Shared → Prop}
    (h : ∀ (h' : Heap) (tk : Nat), SetM X.prog X.w h' s.heap.objs.size (distK ks) → (∀ b o, s.heap.get? b = some o → h'.get? b = some o) → Q (.ref s.heap.objs.size) { s with heap := h', toks := tk }) : wpAny (model X.prog X.w) A (call (.type "set") [.ref l]) Q E s := by
  have hb : ks.length + 1 < scanBound := by unfold scanBound; omega
  rcases hq with hq | hq
  · obtain ⟨its, r, pl, hz⟩ := I.list hq
    exact setM_ofList ks hh pl.isList (by simpa using keys_paired r) hb h
  · obtain ⟨its, r, pl, hz⟩ := I.tuple hq
    exact setM_ofTup ks hh pl (by simpa using keys_paired r) hb h
theorem pe_lenS (hg : Gl X "len") (hm : X.mg "len" = none) (hg2 : Gl X "set") (hm2 : X.mg "set" = none) (ha : PE X a ta) (hc : X.calm = true := by rfl)
    (na : starEach [a] X.env = (false, eval a X.env) :: starEach [] X.env := by rfl) : PE X (.Call (.Name "len" p) [.Call (.Name "set" p2) [a] [] q] [] pos) (tLenS X.K ta) := by
  refine ⟨fun pins s σ H Q I h => Call_ (ld_blt I hg hm boot_len (PyProof.Rows.callWith_builtin1 (PyProof.Rows.args_cons (Call_ (ld_blt I hg2 hm2 boot_set ?_)) rfl) rfl rfl))⟩
  refine PyProof.Rows.callWith_type1 (PyProof.Rows.args_cons (thn (ha.run pins s σ H _ I h) fun v s1 ⟨x, H1, I1, r1, q1⟩ => PyProof.Rows.args_nil ?_) na) na rfl
  obtain ⟨l, ks, rfl, hq, hl, q1⟩ := q1
  cases r1
  refine set_call hc I1 hq hl (I1.ok.hd hc) fun h' tk hS hk => PyProof.Rows.args_nil ?_
  obtain ⟨o, es, ep, t, ho, hx, hd, el, pm, nd, hb, hf, hr, hle⟩ := hS
  have sz := size_keys pm
  have d1 := distK_len _ ks rfl
  have I2 : Inv X pins σ H1 { s1 with heap := h', toks := tk } := I1.kept hk
  exact call_len_set ho hx hd hf (by rw [sz]; omega) ⟨.int ((distK ks).length : Nat), H1, I2.tok _, ⟨_, by rw [sz]⟩, q1⟩
theorem out_keys {out : List Value} {l : List (Option Key)} {ks : List Key} (pm : l.Perm (ks.map some)) (hp : (out.map vKey).Perm l) (good : ∀ v ∈ out, ∃ k, keyIs k v = true) : ∃ qs : List Key, qs.Perm ks ∧ PySem.W.EachIs (fun v k => keyIs k v = true) out qs := by
  have go : ∀ out : List Value, (∀ v ∈ out, ∃ k, keyIs k v = true) → ∃ qs : List Key, out.map vKey = qs.map some ∧ PySem.W.EachIs (fun v k => keyIs k v = true) out qs := by
    intro out
    induction out with
    | nil => exact fun _ => ⟨[], rfl, .nil⟩
    | cons v r ih =>
      intro h
      obtain ⟨k, hk⟩ := h v List.mem_cons_self
      obtain ⟨qs, h1, h2⟩ := ih fun u hu => h u (List.mem_cons_of_mem _ hu)
      exact ⟨k :: qs, by rw [List.map_cons, List.map_cons, vKey_of hk, h1], .cons hk h2⟩
  obtain ⟨qs, h1, h2⟩ := go out good
  refine ⟨qs, ?_, h2⟩
  have e : (qs.map some).Perm (ks.map some) := by rw [← h1]; exact hp.trans pm
  have := e.filterMap id
  simpa [List.filterMap_map] using this
theorem pe_sortS (hg : Gl X "sorted") (hm : X.mg "sorted" = none) (hg2 : Gl X "set") (hm2 : X.mg "set" = none) (hu : X.A.units + 100 < cLine) (ha : PE X a ta) (hc : X.calm = true := by rfl)
    (na : starEach [a] X.env = (false, eval a X.env) :: starEach [] X.env := by rfl) : PE X (.Call (.Name "sorted" p) [.Call (.Name "set" p2) [a] [] q] [] pos) (tSortS X.K ta) := by
  refine ⟨fun pins s σ H Q I h => Call_ (ld_blt I hg hm boot_sorted (PyProof.Rows.callWith_builtin1 (PyProof.Rows.args_cons (Call_ (ld_blt I hg2 hm2 boot_set ?_)) rfl) rfl rfl))⟩
  refine PyProof.Rows.callWith_type1 (PyProof.Rows.args_cons (thn (ha.run pins s σ H _ I h) fun v s1 ⟨x, H1, I1, r1, q1⟩ => PyProof.Rows.args_nil ?_) na) na rfl
  obtain ⟨l, ks, rfl, hq, hl, al, q1⟩ := q1
  cases r1
  refine set_call hc I1 hq hl (I1.ok.hd hc) fun h' tk hS hk => PyProof.Rows.args_nil ?_
  obtain ⟨o, es, ep, t, ho, hx, hd, el, pm, nd, hb, hf, hr, hle⟩ := hS
  have sz := size_keys pm
  have d1 := distK_len _ ks rfl
  refine Calls.call_function_entry kind_sorted plain_sorted entry_sorted (args_sorted1 _) ?_
  unfold Builtin.«sorted»
  refine wpAny_bind (m := checkCount "sorted" 1 1 _) (wpAny_pure ?_)
  refine wpAny_bind (collect_set (s := { s1 with heap := h', toks := tk }) (A := X.A.in1) (I1.ok.hd hc) ⟨o, ho, hx.1, hd⟩ hf hb hr hle fun s2 vs k2 hz g2 o2 pv => ?_)
  have hvl : vs.length = es.size := by rw [pv.length_eq, List.length_map, Array.length_toList]
  obtain ⟨qs, pq, each⟩ := out_keys (out := vs) pm (by have := pv.map vKey; rw [List.map_map] at this; exact this) fun v hv => by
    obtain ⟨e, he, rfl⟩ := List.mem_map.mp (pv.mem_iff.mp hv)
    obtain ⟨⟨k, z, _⟩, _⟩ := el e he
    exact ⟨k, z⟩
  have small : vs.length ≤ 1000 := by omega
  refine wpAny_bind (wpAny_newList ?_ (by rw [sizeLine_eq]; omega))
  have hoL : (s2.heap.push (seqObj "list" vs.toArray 0)).get? s2.heap.objs.size = some (seqObj "list" vs.toArray 0) := Heap.get?_push_size _ rfl
  have alq : PySem.W.AllAlike (qs.map kD) := fun d hd e he => by
    obtain ⟨k, hk, rfl⟩ := List.mem_map.mp hd
    obtain ⟨j, hj, rfl⟩ := List.mem_map.mp he
    exact al k (pq.mem_iff.mp hk) j (pq.mem_iff.mp hj)
  have soq : PySem.W.Sortable (qs.map kD) := .inr fun d hd => by
    obtain ⟨k, hk, rfl⟩ := List.mem_map.mp hd
    cases k <;> exact ⟨(fun z => nomatch z), fun _ z => nomatch z⟩
  have dep : ∀ k : Key, (kD k).depth = 0 := fun k => by cases k <;> rfl
  have eql : qs.length = vs.length := each.length.symm
  refine wpAny_bind (wpAny_holding (PySem.W.list_sort_data (s := { s2 with heap := s2.heap.push (seqObj "list" vs.toArray 0) }) (A := X.A.in1) (enc := kD) (bs := qs) hoL each (each.mono fun v k z => ⟨[], reads_key z, by simp⟩) alq soq (by rw [eql, sizeLine_eq]; omega) (fun k hk => by rw [dep k]; show X.A.units + 1 + 1 + 0 < cLine; omega) fun out ol eo => ?_))
  have hlen : ((qs.mergeSort (PySem.W.dataLe false kD)).map kV).length ≤ sizeLine := by rw [List.length_map, (List.mergeSort_perm _ _).length_eq, eql, sizeLine_eq]; omega
  obtain ⟨ep2, he⟩ := sortedHeap_at (vs := vs) (out := List.toArray out) hoL
  have keep : ∀ b u, s1.heap.get? b = some u → (sortedHeap (s2.heap.push (seqObj "list" vs.toArray 0)) s2.heap.objs.size vs (List.toArray out)).get? b = some u := fun b u e => by
    have e3 := k2 b u (hk b u e)
    have lt := Heap.lt_size e3
    rw [sortedHeap_old (Nat.ne_of_lt lt) (by rw [size_push']; exact Nat.lt_succ_of_lt lt)]
    exact Heap.get?_push_of_some _ e3
  have hz1 : s1.heap.objs.size ≤ s2.heap.objs.size :=
     Nat.le_of_lt (Heap.lt_size (k2 _ _ ho))
  have hn : H1 s2.heap.objs.size = none := I1.hok.fresh hz1
  have rv : Vals ((qs.mergeSort (PySem.W.dataLe false kD)).map kV) out := by
    have go : ∀ {us : List Value} {rs : List Key}, PySem.W.EachIs (fun v k => keyIs k v = true) us rs → Vals (rs.map kV) us := fun e => by
      induction e with
      | nil => exact .nil
      | cons z _ ih => exact .cons (relV_key z) ih
    exact go eo
  have J : Inv X pins σ (upd H1 s2.heap.objs.size (.lst ((qs.mergeSort (PySem.W.dataLe false kD)).map kV))) { s1 with heap := sortedHeap (s2.heap.push (seqObj "list" vs.toArray 0)) s2.heap.objs.size vs (List.toArray out), gens := s2.gens, drawn := s2.drawn, toks := s2.toks } :=
    I1.call (ch := []) (Un.laid keep hz1 hn) (I1.hok.laid keep hz1 ⟨hlen, out, ep2, rv, he⟩) (by rw [g2]; exact I1.bare) (fun _ z => nomatch z)
  have es2 : ({ s2 with heap := sortedHeap (s2.heap.push (seqObj "list" vs.toArray 0)) s2.heap.objs.size vs (List.toArray out) } : Shared) = { s1 with heap := sortedHeap (s2.heap.push (seqObj "list" vs.toArray 0)) s2.heap.objs.size vs (List.toArray out), gens := s2.gens, drawn := s2.drawn, toks := s2.toks } := by
    cases s2
    cases s1
    cases o2
    rfl
  refine wpAny_pure ⟨_, rfl, ?_⟩
  show EP X pins σ Q _ { s2 with heap := sortedHeap (s2.heap.push (seqObj "list" vs.toArray 0)) s2.heap.objs.size vs (List.toArray out) }
  rw [es2]
  refine ⟨.ref s2.heap.objs.size, _, J, rfl, q1 _ _ ((List.mergeSort_perm _ _).trans pq) ?_ hn⟩
  have e1 : (qs.mergeSort (PySem.W.dataLe false kD)).map kD = sortD (qs.map kD) := PySem.W.sort_maps kD fun a _ b _ => rfl
  rw [e1]
  exact sortD_perm pq fun a ha b hb => al a (pq.mem_iff.mp ha) b (pq.mem_iff.mp hb)
end

theorem mem_distK {ks : List Key} {k : Key} : k ∈ distK ks ↔ k ∈ ks := by
  have go : ∀ (ks acc : List Key), k ∈ ks.foldl addK acc ↔ k ∈ acc ∨ k ∈ ks := by
    intro ks
    induction ks with
    | nil => intro acc; simp
    | cons j r ih =>
      intro acc
      rw [List.foldl_cons, ih]
      unfold addK
      split
      · rename_i h
        have h := hasK_iff.mp h
        rw [List.mem_cons]
        refine ⟨fun z => z.elim .inl fun z => .inr (.inr z), fun z => z.elim .inl fun z => z.elim (fun e => .inl (e ▸ h)) .inr⟩
      · simp only [List.mem_append, List.mem_cons, List.not_mem_nil, or_false, or_assoc]
  have := go ks []
  unfold distK
  rw [this]
  simp
section
variable {S : Type} {X : Cx} {a : Expr} {ga : DS S → Option D} {p p2 q pos : Pos}
def onKeys {α : Type} (x : D) (f : List Key → Option α) : Option α := match x with
  | .list ds => (keysD ds).bind f
  | .tuple ds => (keysD ds).bind f
  | _ => none
def lenSetD (x : D) : Option D := onKeys x fun ks => if ks.length ≤ 1000 then some (.int ((distK ks).length : Nat)) else none
def alikeK (ks : List Key) : Bool := ks.all fun a => ks.all fun b => PySem.W.alike (kD a) (kD b)
def sortSetD (x : D) : Option (List D) := onKeys x fun ks => if ks.length ≤ 1000 ∧ alikeK (distK ks) = true then some (sortD ((distK ks).map kD)) else none
theorem set_arg {K : PySem.W.Frag} {G H : Hp} {v : V} {x : D} {α : Type} {f : List Key → Option α} {y : α} (s : Same G H) (dv : Den K G v x) (e : onKeys x f = some y) :
    ∃ l ks, v = .ref l ∧ (SqL K H l (ks.map kV) ∨ SqT K H l (ks.map kV)) ∧ (∀ k ∈ ks, Den K G (kV k) (kD k)) ∧ f ks = some y := by
  have each : ∀ {ks : List Key}, DenAll K G (ks.map kV) (ks.map kD) → ∀ k ∈ ks, Den K G (kV k) (kD k) := by
    intro ks
    induction ks with
    | nil => intro _ k hk; cases hk
    | cons j r ih =>
      intro h k hk
      cases h with
      | cons h1 h2 =>
        rcases List.mem_cons.mp hk with z | z
        · rw [z]; exact h1
        · exact ih h2 k z
  cases dv with
  | @lst a vs ds q z r =>
    unfold onKeys at e
    dsimp only at e
    cases ek : keysD ds with
    | none => rw [ek] at e; cases e
    | some ks =>
      rw [ek, Option.bind_some] at e
      have e1 := keysD_some ek
      subst e1
      have e2 := den_keys r
      subst e2
      exact ⟨a, ks, rfl, .inl (SqL.of (s _ _ q)), each r, e⟩
  | @tup a vs ds q z r =>
    unfold onKeys at e
    dsimp only at e
    cases ek : keysD ds with
    | none => rw [ek] at e; cases e
    | some ks =>
      rw [ek, Option.bind_some] at e
      have e1 := keysD_some ek
      subst e1
      have e2 := den_keys r
      subst e2
      exact ⟨a, ks, rfl, .inr (sqt_mono s q), each r, e⟩
  | _ => cases e
def gLenSet (ga : DS S → Option D) : DS S → Option D := fun ds => (ga ds).bind lenSetD
def gSortSet (ga : DS S → Option D) : DS S → Option (List D) := fun ds => (ga ds).bind sortSetD
theorem ep_lenSet (hg : Gl X "len") (hm : X.mg "len" = none) (hg2 : Gl X "set") (hm2 : X.mg "set" = none) (ha : PE X a (tP X.K ga)) (hc : X.calm = true := by rfl)
    (na : starEach [a] X.env = (false, eval a X.env) :: starEach [] X.env := by rfl) : PE X (.Call (.Name "len" p) [.Call (.Name "set" p2) [a] [] q] [] pos) (tP X.K (gLenSet ga)) := PE.imp (pe_lenS hg hm hg2 hm2 ha hc na) fun σ H Q ⟨G, ds, d, s, w, e, k⟩ => by
  unfold gLenSet at e
  cases ea : ga ds with
  | none => rw [ea] at e; cases e
  | some x =>
    rw [ea, Option.bind_some] at e
    refine ⟨G, ds, x, s, w, ea, fun v G1 H1 g1 d1 => ?_⟩
    obtain ⟨l, ks, rfl, hq, _, ef⟩ := set_arg g1.sub d1 e
    by_cases hz : ks.length ≤ 1000
    · rw [if_pos hz] at ef
      cases ef
      exact ⟨l, ks, rfl, hq, hz, k _ G1 H1 g1 (.int _)⟩
    · rw [if_neg hz] at ef; cases ef
theorem ef_sortSet (hg : Gl X "sorted") (hm : X.mg "sorted" = none) (hg2 : Gl X "set") (hm2 : X.mg "set" = none) (hu : X.A.units + 100 < cLine) (ha : PE X a (tP X.K ga)) (hc : X.calm = true := by rfl)
    (na : starEach [a] X.env = (false, eval a X.env) :: starEach [] X.env := by rfl) : PE X (.Call (.Name "sorted" p) [.Call (.Name "set" p2) [a] [] q] [] pos) (tF X.K (gSortSet ga)) := PE.imp (pe_sortS hg hm hg2 hm2 hu ha hc na) fun σ H Q ⟨G, ds, d, s, w, e, k⟩ => by
  unfold gSortSet at e
  cases ea : ga ds with
  | none => rw [ea] at e; cases e
  | some x =>
    rw [ea, Option.bind_some] at e
    refine ⟨G, ds, x, s, w, ea, fun v G1 H1 g1 d1 => ?_⟩
    obtain ⟨l, ks, rfl, hq, each, ef⟩ := set_arg g1.sub d1 e
    by_cases hz : ks.length ≤ 1000 ∧ alikeK (distK ks) = true
    · rw [if_pos hz] at ef
      cases ef
      refine ⟨l, ks, rfl, hq, hz.1, fun a ha b hb => List.all_eq_true.mp (List.all_eq_true.mp hz.2 a ha) b hb, fun qs p hp he hn => ?_⟩
      rw [← he] at k
      have dens : ∀ {rs : List Key}, (∀ k ∈ rs, Den X.K G1 (kV k) (kD k)) → DenAll X.K G1 (rs.map kV) (rs.map kD) := by
        intro rs
        induction rs with
        | nil => exact fun _ => .nil
        | cons j r ih => exact fun h => .cons (h j List.mem_cons_self) (ih fun k hk => h k (List.mem_cons_of_mem _ hk))
      have d1l := distK_len _ ks rfl
      exact k p _ G1 _ (g1.trans (.own g1.sub hn)) (g1.sub.free hn) (g1.all.free hn) upd_same (by rw [List.length_map, hp.length_eq, sizeLine_eq]; omega) (dens fun k hk => each k (mem_distK.mp (hp.mem_iff.mp hk)))
    · rw [if_neg hz] at ef; cases ef
end
end DL
set_option Elab.async false
set_option linter.all false
set_option maxRecDepth 100000
set_option maxHeartbeats 4000000
namespace DL
open PySem PySem.Spec PyProof.Rows L2
/-! ### list(range(n)), list(range(m, n)) -/
section
variable {S : Type} {X : Cx} {a b : Expr} {ga gb : DS S → Option D} {p p2 q pos : Pos}
theorem den_rg {K : PySem.W.Frag} {G : Hp} (lo hi : Int) : DenAll K G (rgV lo hi) (rngD lo (hi - lo).toNat) := by
  unfold rgV rngD
  have go : ∀ l : List Nat, DenAll K G (l.map fun (i : Nat) => V.int (lo + (i : Nat))) (l.map fun (i : Nat) => PyData.int (lo + (i : Nat))) := by
    intro l
    induction l with
    | nil => exact .nil
    | cons i r ih => exact .cons (.int _) ih
  exact go _
def gListR1 (ga : DS S → Option D) : DS S → Option (List D) := fun ds => (ga ds).bind fun x => match x with
  | .int j => if 0 ≤ j ∧ j ≤ 1000 then some (rngD 0 j.toNat) else none
  | _ => none
theorem ef_listR1 (hg : Gl X "list") (hm : X.mg "list" = none) (hg2 : Gl X "range") (hm2 : X.mg "range" = none) (ha : PE X a (tP X.K ga)) (hc : X.calm = true := by rfl) (na : starEach [a] X.env = (false, eval a X.env) :: starEach [] X.env := by rfl)
    (nb : starEach [.Call (.Name "range" p2) [a] [] q] X.env = (false, eval (.Call (.Name "range" p2) [a] [] q) X.env) :: starEach [] X.env := by rfl) :
    PE X (.Call (.Name "list" p) [.Call (.Name "range" p2) [a] [] q] [] pos) (tF X.K (gListR1 ga)) := PE.imp (pe_listRg hc hg hm (prg_1 hg2 hm2 ha na) nb) fun σ H Q ⟨G, ds, d, s, w, e, k⟩ => by
  unfold gListR1 at e
  cases ea : ga ds with
  | none => rw [ea] at e; cases e
  | some x =>
    rw [ea, Option.bind_some] at e
    refine ⟨G, ds, x, s, w, ea, fun v G1 H1 g1 d1 => ?_⟩
    match x, d1, e with
    | .int j, .int _, e =>
      dsimp only at e
      split at e
      · rename_i hz
        cases e
        refine ⟨j, rfl, .of_le (by omega) (by omega) (by omega) (by omega), fun p hp => ?_⟩
        have e0 : rngD 0 j.toNat = rngD 0 (j - 0).toNat := by rw [Int.sub_zero]
        rw [e0] at k
        exact k p _ G1 _ (g1.trans (.own g1.sub hp)) (g1.sub.free hp) (g1.all.free hp) upd_same (by rw [rgV_length, sizeLine_eq]; omega) (den_rg 0 j)
      · cases e
end
end DL
set_option Elab.async false
set_option linter.all false
set_option maxRecDepth 100000
set_option maxHeartbeats 4000000
namespace DL
open PySem PySem.Spec PyProof.Rows L2
/-! ### sorted(xs, key=f), f a def of the text -/
section
variable {S : Type} {X : Cx} {R : StI S}
theorem room2 {k : Nat} {A : Around} (r : Room (k + 1) A) : Room k A.in1.in1 := ⟨r.hd, by have := r.dp; show A.depth + 3 * k + 5 < _; omega, by have := r.un; show A.units + 1 + 1 + 16 * k + 200 < _; omega⟩
/-- a call of f two levels down -/
theorem runG2 {pins : List (Addr × Obj)} {σ : L2.St} {H : Hp} {s : Shared} {Q : VK} {us : List Value} {vs : List V} {k : Nat} {f : Addr} {fd : FuncData} {ps : List Str} {sp : Sp} {E' : Value → Shared → Prop} (F : FnG X.prog X.w X.K X.mg X.base CX0 k f fd ps sp) (hr : Room (k + 1) X.A) (hgd : X.A.guards = some []) (hb : Binds X.K fd ps [])
    (I : Inv X pins σ H s) (r : Vals vs us) (h : sp vs H Q E0) : wpAny (model X.prog X.w) X.A.in1.in1 (call (.ref f) us) (EP X pins σ Q) E' s := by
  have hz : (us ++ ([] : List Value)).length = ps.length := by
    rw [List.append_nil, ← r.length]
    exact F.len _ _ _ _ h
  have hbind := hb s us I.kIn hz
  rw [List.append_nil] at hbind
  have e0 : Env0 X.prog X.w X.K X.mg X.base X.A.in1.in1 X.stack s H := ⟨I.ok.frames, I.ok.mod, I.bs, Nat.le_trans I.ok.bsz I.sz, I.stack, I.stkFree, I.hok, I.bare⟩
  have go := F.run X.A.in1.in1 X.stack s H ⟨us, []⟩ us vs Q E0 (room2 hr) hgd e0 hbind r h
  refine wpAny_call (codeAny_mono go fun res s2 hq => ?_)
  match res, hq with
  | .error er, hq => exact hq.elim
  | .ok (.ret u), hq => exact I.after hq
  | .ok .next, hq => exact hq.elim
  | .ok .brk, hq => exact hq.elim
  | .ok .cont, hq => exact hq.elim
theorem pinned_in {pins : List (Addr × Obj)} {σ : L2.St} {H : Hp} {s : Shared} {l : List (Addr × Obj)} (I : Inv X pins σ H s) (h : ∀ p ∈ l, s.heap.get? p.1 = some p.2 ∧ FpOk X pins H p.1 ∧ ∀ v, p.2.data ≠ .cell v) : Inv X (pins ++ l) σ H s := I.pins_of fun p hp => by
  rcases List.mem_append.mp hp with z | z
  · exact I.pin p (List.mem_append_right _ z)
  · obtain ⟨h1, h2, h3⟩ := h p z
    exact ⟨h1, h2.1, h2.2.1, h2.2.2.1, h3⟩
/-- an untracked record of ours has changed -/
theorem turn_at {pins : List (Addr × Obj)} {σ : L2.St} {H : Hp} {s : Shared} {b : Addr} {h' : Heap} {t' : Nat} (I : Inv X pins σ H s) (fp : FpOk X pins H b) (k : ∀ c o, c ≠ b → s.heap.get? c = some o → h'.get? c = some o) : Inv X pins σ H { s with heap := h', toks := t' } := I.turned k fp.1 fp.2.1 fp.2.2.2.1 fp.2.2.2.2.1 fp.2.2.2.2.2
/-- an untracked list of ours is tracked from now on -/
theorem track_at {pins : List (Addr × Obj)} {σ : L2.St} {H : Hp} {s : Shared} {b : Addr} {o : HO} (I : Inv X pins σ H s) (fp : FpOk X pins H b) (new : ObjOk X.prog X.w (upd H b o) s.heap b o) : Inv X pins σ (upd H b o) s := by
  have ne : ∀ c u, H c = some u → c ≠ b := fun c u e z => by rw [z, fp.1] at e; cases e
  have un : L2.Un (frs X.stack) [b] H (upd H b o) s.heap s.heap := ⟨fun _ _ e _ _ _ => e, fun _ q e _ _ _ => ⟨q.slots, e⟩, fun c _ _ n hc => by rw [upd_ne fun z => hc (by rw [z]; exact List.mem_singleton.mpr rfl)]; exact n, fun _ q e _ => ⟨q, e⟩, fun c _ e => by rw [upd_ne (ne c _ e)]; exact e, fun c _ _ e => by rw [upd_ne (ne c _ e)]; exact e, fun c ps e => ⟨#[], by rw [upd_ne (ne c _ e), Array.append_empty]; exact e⟩⟩
  refine I.call' rfl un (fun c u e => ?_) I.bare fun c hc => ?_
  · by_cases hc : c = b
    · subst hc
      rw [upd_same] at e
      cases e
      exact new
    · rw [upd_ne hc] at e
      exact (I.hok c u e).stay (fun _ _ _ z => z) (fun d z => by rw [upd_ne (ne d _ z)]; exact z) fun d _ z => by rw [upd_ne (ne d _ z)]; exact z
  · rw [List.mem_singleton.mp hc]
    exact ⟨fp.2.2.2.1, fp.2.1, fp.2.2.2.2.1, fp.2.2.2.2.2⟩
/-- the heap without the object at b -/
def without (h : Heap) (b : Addr) : Heap := h.update b fun o => { o with data := .freed }
theorem without_at {h : Heap} {b : Addr} {o : Obj} (e : h.get? b = some o) : (without h b).get? b = none := by
  obtain ⟨objs, l⟩ := h
  unfold without
  simp only [Heap.update, Heap.get?, Array.getElem?_modify] at e ⊢
  cases q : objs[b]? with
  | none => simp
  | some u => simp
theorem without_ne {h : Heap} {b c : Addr} (n : c ≠ b) : (without h b).get? c = h.get? c := Heap.get?_update_ne _ _ _ _ n

/-! ### the rule -/
abbrev Trip := V × D × D
def trips (vs : List V) (ds ks : List D) : List Trip := vs.zip (ds.zip ks)
def keyLe (a b : Trip) : Bool := PySem.W.dataLe false (fun t : Trip => t.2.2) a b
def rSortK (K : PySem.W.Frag) (R : StI S) (F : List D → Option (MO S)) (f : Addr) : List V → List V → Hp → VK → Prop := fun xs zs H Q => ∃ (l : Addr) (vs : List V) (G : Hp) (ds ks : List D), xs = [.ref l] ∧ zs = [.ref f] ∧ SqL K H l vs ∧ Same G H ∧ DenAll K G vs ds ∧ ds.length ≤ 1000 ∧
  Paired (fun d k => F [d] = some (.d k)) ds ks ∧ PySem.W.AllAlike ks ∧ PySem.W.Sortable ks ∧ (∀ k ∈ ks, k.depth ≤ 64) ∧
  ∀ G' H' p, Gr G H G' H' → H' p = none → Q (.ref p) (upd H' p (.lst (((trips vs ds ks).mergeSort (PySem.W.dataLe false fun t => t.2.2)).map (·.1))))
theorem each_snoc2 {α β : Type} {T : α → β → Prop} : ∀ {xs : List α} {ys : List β} {x : α} {y : β}, PySem.W.EachIs T xs ys → T x y → PySem.W.EachIs T (xs ++ [x]) (ys ++ [y])
  | _, _, _, _, .nil, h => .cons h .nil
  | _, _, _, _, .cons a r, h => .cons a (each_snoc2 r h)
theorem trips_each {vs : List V} {ds ks : List D} {us : List Value} (rv : Vals vs us) (h1 : vs.length = ds.length) (h2 : ds.length = ks.length) : PySem.W.EachIs (fun u (t : Trip) => RelV t.1 u) us (trips vs ds ks) := by
  induction rv generalizing ds ks with
  | nil => cases ds with
    | nil => exact .nil
    | cons _ _ => cases h1
  | cons r _ ih =>
    cases ds with
    | nil => cases h1
    | cons d ds =>
      cases ks with
      | nil => cases h2
      | cons k ks => exact .cons r (ih (by simpa using h1) (by simpa using h2))
theorem trips_keys : ∀ {vs : List V} {ds ks : List D}, vs.length = ds.length → ds.length = ks.length → (trips vs ds ks).map (fun t => t.2.2) = ks
  | [], [], [], _, _ => rfl
  | v :: vs, d :: ds, k :: ks, h1, h2 => congrArg (k :: ·) (trips_keys (by simpa using h1) (by simpa using h2))
  | [], _ :: _, _, h1, _ => by cases h1
  | _ :: _, [], _, h1, _ => by cases h1
  | _, [], _ :: _, _, h2 => by cases h2
  | _, _ :: _, [], _, h2 => by cases h2
theorem vals_trips {l : List Trip} {us : List Value} (h : PySem.W.EachIs (fun u (t : Trip) => RelV t.1 u) us l) : Vals (l.map (·.1)) us := by
  induction h with
  | nil => exact .nil
  | cons r _ ih => exact .cons r ih

theorem reads_each {pins : List (Addr × Obj)} {σ : L2.St} {G H : Hp} {s : Shared} (I : Inv X pins σ H s) (sm : Same G H) : ∀ {ws : List V} {us : List Value} {es : List D}, Vals ws us → DenAll X.K G ws es → PySem.W.EachIs (fun u d => ∃ as, Reads s.heap u d as) us es
  | _, _, _, .nil, .nil => .nil
  | _, _, _, .cons r0 r, .cons d0 d => .cons (Dp.reads I _ _ _ (d0.mono sm).dp r0) (reads_each I sm r d)
theorem cr_sortK {F : List D → Option (MO S)} {j : Nat} {f : Addr} {fd : FuncData} {ps : List Str} (hc : X.calm = true) (Fn : FnG X.prog X.w X.K X.mg X.base CX0 j f fd ps (spP X.K R 1 F)) (hr : Room (j + 1) X.A) (hgd : X.A.guards = some []) (hb : Binds X.K fd ps []) (hu : X.A.units + 100 < cLine) : CallRK X (.builtin "sorted") [Str.ofString "key"] (rSortK X.K R F f) := by
  intro pins s σ H xs zs us ws Q I rx rz hyp
  obtain ⟨l, vs, G, ds, ks, rfl, rfl, hq, sm, dn, hz, kf, al, so, dp, q⟩ := hyp
  obtain rfl := Vals.ref1 rx
  obtain rfl := Vals.ref1 rz
  obtain ⟨its, rv, pl, _⟩ := I.list hq
  have len1 : vs.length = ds.length := dn.length
  have len2 : its.length = vs.length := rv.length.symm
  have len3 : ds.length = ks.length := kf.length
  have tks := trips_keys len1 len3
  refine PySem.W.sorted_of_sort (vs := its) pl.isList (by rw [len2, len1, sizeLine_eq]; omega) (ksk_s1 _ _) (fun _ => ksk_l1 _ _) fun E' => ?_
  rw [show ([Str.ofString "key"].zip [Value.ref f] : List (Str × Value)) = [(Str.ofString "key", .ref f)] from rfl, ksk_t1]
  -- the new list a, the list of keys z
  let a : Addr := s.heap.objs.size + 1
  have fa : FpOk X pins H a := I.fpOk (Nat.le_succ _) (I.hok.fresh (Nat.le_succ _))
  have I0 : Inv X pins σ H { s with heap := PySem.W.copyHeap s.heap its } := I.kept (t' := s.toks) fun _ _ => PySem.W.copyHeap_old
  have ha0 := PySem.W.copyHeap_at s.heap its
  have hz0 : its.length ≤ sizeLine := by rw [len2, len1, sizeLine_eq]; omega
  obtain ⟨e1, ha1⟩ : ∃ e1, ((PySem.W.copyHeap s.heap its).update a (Obj.mapSeq fun _ => (#[] : Array Value))).get? a = some (seqObj "list" #[] e1) := ⟨_, get?_update_seq ha0 fun _ => #[]⟩
  have I1 : Inv X pins σ H { s with heap := (PySem.W.copyHeap s.heap its).update a (Obj.mapSeq fun _ => (#[] : Array Value)) } := turn_at (s := { s with heap := PySem.W.copyHeap s.heap its }) (t' := s.toks) I0 fa fun c o n e => (Heap.get?_update_ne _ _ _ _ n).trans e
  unfold ksk_tree
  refine wpAny_bind (listItems_at ha0 rfl ?_)
  refine wpAny_bind (listUpdate_at ha0 rfl ?_ (by rw [List.size_toArray]; exact hz0) (Nat.zero_le _))
  refine wpAny_bind (seqEpoch_at ha1 rfl ?_)
  refine wpAny_bind (wpAny_newTuple ?_ (by show its.length ≤ _; exact hz0))
  refine wpAny_bind (wpAny_newList ?_ (Nat.zero_le _))
  refine wpAny_holding ?_
  let h1 := (PySem.W.copyHeap s.heap its).update a (Obj.mapSeq fun _ => (#[] : Array Value))
  let z : Addr := (h1.push (seqObj "tuple" its.toArray 0)).objs.size
  have up2 : ∀ b o, h1.get? b = some o → ((h1.push (seqObj "tuple" its.toArray 0)).push (seqObj "list" #[] 0)).get? b = some o := fun b o e => Heap.get?_push_of_some _ (Heap.get?_push_of_some _ e)
  have I2 : Inv X pins σ H { s with heap := (h1.push (seqObj "tuple" its.toArray 0)).push (seqObj "list" #[] 0) } := I1.kept (t' := s.toks) up2
  have hz2 : ((h1.push (seqObj "tuple" its.toArray 0)).push (seqObj "list" #[] 0)).get? z = some (seqObj "list" #[] 0) := Heap.get?_push_size _ rfl
  have I15 : Inv X pins σ H { s with heap := h1.push (seqObj "tuple" its.toArray 0) } := I1.kept (t' := s.toks) fun b o e => Heap.get?_push_of_some _ e
  have fz : FpOk X pins H z := I15.fpOk (Nat.le_refl _) (I15.hok.fresh (Nat.le_refl _))
  have nza : z ≠ a := by
    have := Heap.lt_size ha1
    have e : z = h1.objs.size + 1 := size_push' _ _
    rw [e]
    exact Nat.ne_of_gt (Nat.lt_succ_of_lt this)
  show wpAny _ X.A.in1.in1 (ksk_rest a (.ref f) false its.toArray e1 (.ref z)) _ _ _
  unfold ksk_rest
  refine wpAny_bind (wpAny_rule ?_)
  first
    | rw [List.forIn_toArray]
    | (rw [← Array.forIn_toList]; simp only [List.toList_toArray])
  refine wpAny_bind (ksk_fold (fun i s' => ∃ Hc Gc kvs kA e, Inv X pins σ Hc s' ∧ Gr G H Gc Hc ∧ s'.heap.get? z = some (seqObj "list" kA e) ∧ s'.heap.get? a = some (seqObj "list" #[] e1) ∧ Hc z = none ∧ Hc a = none ∧ Vals kvs kA.toList ∧ DenAll X.K Gc kvs (ks.take i)) its 0 _
    ⟨H, G, [], #[], 0, I2, .refl sm, hz2, up2 _ _ ha1, fz.1, fa.1, .nil, by rw [List.take_zero]; exact .nil⟩ ?step ?done)
  case step =>
    rintro i x s' hx ⟨Hc, Gc, kvs, kA, e, Ic, gc, oz, oa, nz, na, rk, dk⟩
    simp only [Nat.zero_add] at dk ⊢
    have hi : i < its.length := (List.getElem?_eq_some_iff.mp hx).1
    obtain ⟨v, ev, ru⟩ : ∃ v, vs[i]? = some v ∧ RelV v x := by
      obtain ⟨v, h1, h2⟩ := paired_at rv hx
      exact ⟨v, h1, h2⟩
    obtain ⟨d, ed, dv⟩ := dn.getV ev
    obtain ⟨k, ek⟩ : ∃ k, ks[i]? = some k := ⟨_, List.getElem?_eq_getElem (by omega)⟩
    obtain ⟨d', ed', ef⟩ := paired_at kf ek
    rw [ed] at ed'
    cases ed'
    have Ip := pinned_in (l := [(z, seqObj "list" kA e), (a, seqObj "list" #[] e1)]) Ic fun p hp => by
      rcases List.mem_cons.mp hp with rfl | hp
      · exact ⟨oz, ⟨nz, fz.2⟩, fun v q => nomatch q⟩
      · rw [List.mem_singleton.mp hp]
        exact ⟨oa, ⟨na, fa.2⟩, fun v q => nomatch q⟩
    refine wpAny_bind (wpAny_attempt (wpAny_mono (runG2 (E' := fun _ _ => False) (Q := fun u H' => ∃ G', Gr Gc Hc G' H' ∧ Den X.K G' u k) Fn hr hgd hb Ip (vs := [v]) (.cons ru .nil) ⟨rfl, Gc, [d], .d k, gc.sub, .cons (dv.mono gc.keep) .nil, ef, fun u G' H' fr st o _ => ⟨G', step_gr st, o.1⟩⟩) (fun u s2 hu => ?_) fun _ _ hF => hF.elim))
    obtain ⟨w, H2, J, rw', G2, g2, dw⟩ := hu
    try dsimp only
    have pz := J.pin (z, seqObj "list" kA e) (List.mem_append_right _ (List.mem_append_right _ (by simp)))
    have pa := J.pin (a, seqObj "list" #[] e1) (List.mem_append_right _ (List.mem_append_right _ (by simp)))
    have J1 : Inv X pins σ H2 s2 := J.unpinned
    have szA : kA.size ≤ 1000 := by
      have t1 : kvs.length = kA.size := by simpa using Paired.length rk
      have t2 := dk.length
      rw [List.length_take] at t2
      omega
    obtain ⟨c2, hc2⟩ : ∃ c2, (s2.heap.update z (Obj.mapSeq (·.push u))).get? z = some (seqObj "list" (kA.push u) c2) := ⟨_, get?_update_seq pz.1 (·.push u)⟩
    refine wpAny_bind (listUpdate_at pz.1 rfl ?_ (by rw [sizeLine_eq]; omega) (by show (kA.push u).size ≤ _; rw [Array.size_push, sizeLine_eq]; omega))
    have J2 : Inv X pins σ H2 { s2 with heap := s2.heap.update z (Obj.mapSeq (·.push u)) } := turn_at (t' := s2.toks) J1 ⟨pz.2.1, fz.2⟩ fun c o n e => (Heap.get?_update_ne _ _ _ _ n).trans e
    refine wpAny_pure ⟨rfl, H2, G2, kvs ++ [w], kA.push u, c2, J2, gc.trans g2, hc2, (Heap.get?_update_ne _ _ _ _ (Ne.symm nza)).trans pa.1, pz.2.1, pa.2.1, ?_, ?_⟩
    · rw [show (kA.push u).toList = kA.toList ++ [u] from by simp]
      exact rk.append (.cons rw' .nil)
    · rw [List.take_add_one, ek]
      exact (dk.mono g2.keep).append (.cons dw .nil)
  case done =>
    rintro s' ⟨Hc, Gc, kvs, kA, e, Ic, gc, oz, oa, nz, na, rk, dk⟩
    rw [List.take_of_length_le (by omega)] at dk
    try dsimp only
    refine wpAny_bind (listItems_at oz rfl ?_)
    have szA : kA.size = its.length := by
      have t1 : kvs.length = kA.size := by simpa using Paired.length rk
      have t2 := dk.length
      omega
    have each : PySem.W.EachIs (fun u d => ∃ as, Reads s'.heap u d as) kA.toList ks := reads_each Ic gc.sub rk dk
    have kp : PySem.W.KeepsBut a (without s'.heap z) s'.heap := fun b o _ e => by
      have nb : b ≠ z := fun y => by rw [y, without_at oz] at e; cases e
      rw [without_ne nb] at e
      exact e
    refine PySem.W.keyH_end (κ := PySem.W.dataKind s'.heap ks) (h₁ := without s'.heap z) (vs := its) kp (without_at oz) oz oa nza (PySem.W.SortsAt.data (s := s') each al so fun d hd => by have := dp d hd; show X.A.units + 1 + 1 + d.depth < cLine; omega) szA hz0 fun h3 tk3 c3 k3 oa3 => ⟨rfl, ?_⟩
    -- the end
    have out : PySem.W.KeyedOut false ((trips vs ds ks).map fun t => t.2.2) its (PySem.W.sortVals (PySem.W.dataKind s'.heap ks) false kA.toList its) := by
      rw [tks]
      exact ⟨s'.heap, kA.toList, al, rfl, each⟩
    have eo := PySem.W.keyedOut_each (fun t : Trip => t.2.2) out (trips_each rv len1 len3)
    have J3 : Inv X pins σ Hc { s' with heap := h3, toks := tk3 } := by
      have up : ∀ b o, b ≠ a → b ≠ z → s'.heap.get? b = some o → h3.get? b = some o := fun b o n1 n2 e => k3 b o n1 (by rw [without_ne n2]; exact e)
      have nc : ∀ c, c ∈ [z, a] → c = z ∨ c = a := fun c hc => (List.mem_cons.mp hc).elim .inl fun y => .inr (List.mem_singleton.mp y)
      have fzz : ∀ c, c ∈ [z, a] → FpOk X pins Hc c := fun c hc => (nc c hc).elim (fun y => by rw [y]; exact ⟨nz, fz.2⟩) fun y => by rw [y]; exact ⟨na, fa.2⟩
      have nin : ∀ b : Addr, b ∉ [z, a] → b ≠ a ∧ b ≠ z := fun b hb => ⟨fun y => hb (by simp [y]), fun y => hb (by simp [y])⟩
      have un : L2.Un (frs X.stack) [z, a] Hc Hc s'.heap h3 := ⟨fun b o e _ _ hb => up b o (nin b hb).1 (nin b hb).2 e, fun b o e _ _ hb => ⟨o.slots, up b o (nin b hb).1 (nin b hb).2 e⟩, fun _ _ _ n _ => n, fun b o e hb => ⟨o, up b o (nin b hb).1 (nin b hb).2 e⟩, fun _ _ e => e, fun _ _ _ e => e, fun b ps e => ⟨#[], by rw [Array.append_empty]; exact e⟩⟩
      have ng : ∀ b u, Hc b = some u → b ≠ a ∧ b ≠ z := fun b u e => ⟨fun y => (by rw [y, na] at e; cases e), fun y => (by rw [y, nz] at e; cases e)⟩
      refine Ic.call (ch := [z, a]) (g' := s'.gens) (d' := s'.drawn) (t' := tk3) un (fun b u e => ?_) Ic.bare fun c hc => ?_
      · exact (Ic.hok b u e).stay (fun c o hc eo => by
          rcases hc with rfl | hc
          · exact up _ o (ng _ u e).1 (ng _ u e).2 eo
          · exact up c o (ng c _ hc).1 (ng c _ hc).2 eo) (fun _ y => y) fun _ _ y => y
      · exact ⟨(fzz c hc).2.2.2.1, (fzz c hc).2.1, (fzz c hc).2.2.2.2.1, (fzz c hc).2.2.2.2.2⟩
    have rv2 := vals_trips eo
    have hlen : (((trips vs ds ks).mergeSort (PySem.W.dataLe false fun t => t.2.2)).map (·.1)).length ≤ sizeLine := by
      rw [rv2.length, PySem.W.sortVals_length false (by rw [Array.length_toList]; exact szA)]
      exact hz0
    have J4 := track_at (o := .lst (((trips vs ds ks).mergeSort (PySem.W.dataLe false fun t => t.2.2)).map (·.1))) J3 ⟨na, fa.2⟩ ⟨hlen, _, c3, rv2, oa3⟩
    exact ⟨.ref a, _, J4, rfl, q Gc Hc a gc na⟩
end
end DL
set_option Elab.async false
set_option linter.all false
set_option maxRecDepth 100000
set_option maxHeartbeats 4000000
namespace DL
open PySem PySem.Spec PyProof.Rows L2
section
variable {S : Type} {X : Cx} {R : StI S}
def keysBy (F : List D → Option (MO S)) : List D → Option (List D)
  | [] => some []
  | d :: r => match F [d] with
    | some (.d k) => (keysBy F r).map (k :: ·)
    | _ => none
theorem keysBy_some {F : List D → Option (MO S)} : ∀ {ds ks : List D}, keysBy F ds = some ks → Paired (fun d k => F [d] = some (.d k)) ds ks
  | [], _, e => by cases e; exact .nil
  | d :: r, ks, e => by
    unfold keysBy at e
    split at e
    · rename_i k ef
      cases e2 : keysBy F r with
      | none => rw [e2] at e; cases e
      | some q =>
        rw [e2] at e
        cases e
        exact .cons ef (keysBy_some e2)
    · cases e
def sortBy (ds ks : List D) : List D := ((ds.zip ks).mergeSort (PySem.W.dataLe false fun t : D × D => t.2)).map (·.1)
def gSortKey (F : List D → Option (MO S)) (ga : DS S → Option D) : DS S → Option (List D) := fun ds => (ga ds).bind fun x => match x with
  | .list xs => if xs.length ≤ 1000 then (keysBy F xs).bind fun ks => if allAlikeB ks = true ∧ sortableB ks = true ∧ PyData.depthAll ks ≤ 64 then some (sortBy xs ks) else none else none
  | _ => none
theorem denAll_trips {K : PySem.W.Frag} {G : Hp} {l : List Trip} (h : ∀ t ∈ l, Den K G t.1 t.2.1) : DenAll K G (l.map (·.1)) (l.map (·.2.1)) := by
  induction l with
  | nil => exact .nil
  | cons t r ih => exact .cons (h t List.mem_cons_self) (ih fun x hx => h x (List.mem_cons_of_mem _ hx))
theorem den_trips {K : PySem.W.Frag} {G : Hp} : ∀ {vs : List V} {ds ks : List D}, DenAll K G vs ds → ∀ t ∈ trips vs ds ks, Den K G t.1 t.2.1
  | _, _, _, .nil, t, h => by cases h
  | _, _, [], .cons _ _, t, h => by cases h
  | _, _, k :: ks, .cons a r, t, h => by
    rcases List.mem_cons.mp h with e | e
    · rw [e]; exact a
    · exact den_trips r t e
theorem trips_snd : ∀ {vs : List V} {ds ks : List D}, vs.length = ds.length → ds.length = ks.length → (trips vs ds ks).map (·.2) = ds.zip ks
  | [], [], [], _, _ => rfl
  | v :: vs, d :: ds, k :: ks, h1, h2 => congrArg ((d, k) :: ·) (trips_snd (by simpa using h1) (by simpa using h2))
  | [], _ :: _, _, h1, _ => by cases h1
  | _ :: _, [], _, h1, _ => by cases h1
  | _, [], _ :: _, _, h2 => by cases h2
  | _, _ :: _, [], _, h2 => by cases h2
theorem ef_sortKey {F : List D → Option (MO S)} {j k : Nat} {e : Expr} {ga : DS S → Option D} {x : Str} {p pos kp kpos : Pos} (c : Cl X.prog X.w X.K X.mg X.base j x (spP X.K R 1 F)) (hk : j + 1 ≤ k) (hr : Room k X.A) (hgd : X.A.guards = some []) (hg : Gl X "sorted") (hm : X.mg "sorted" = none) (hgx : Gl X x) (ha : PE X e (tP X.K ga)) (hc : X.calm = true := by rfl) (hdb : (x == ("__debug__" : Str)) = false := by decide)
    (he : backTo pos (starEach [e] X.env) = (false, eval e X.env) :: backTo pos (starEach [] X.env) := by rfl) (hs : starEach [e] X.env = (false, eval e X.env) :: starEach [] X.env := by rfl) (hpl : (backTo pos (starEach [e] X.env)).any (·.1) = false := by rfl)
    (hall : (backToKw pos (keywordEach [⟨some "key", .Name x kp, kpos⟩] X.env)).all (·.1.isSome) = true := by rfl) (hnone : (backToKw pos (keywordEach [⟨some "key", .Name x kp, kpos⟩] X.env)).any (·.1.isNone) = false := by rfl) (hks : (backToKw pos (keywordEach [⟨some "key", .Name x kp, kpos⟩] X.env)).filterMap (·.1) = [Str.ofString "key"] := by rfl) :
    PE X (.Call (.Name "sorted" p) [e] [⟨some "key", .Name x kp, kpos⟩] pos) (tF X.K (gSortKey F ga)) := by
  obtain ⟨f, fd, ps, Fn, hb, hkp, hmx⟩ := c.ex
  have hu : X.A.units + 100 < cLine := by have := hr.un; omega
  refine PE.imp (pe_callBK (cr_sortK (R := R) hc Fn (hr.mono hk) hgd hb hu) hg hm boot_sorted (pa_cons ha pa_nil hs) (pk_cons (pe_glob (v := .ref f) hgx hmx rfl hdb) pk_nil) (by decide) (by decide) he hpl hall hnone hks) fun σ H Q ⟨G, ds, d, s, w, e, k⟩ => ?_
  unfold gSortKey at e
  cases ea : ga ds with
  | none => rw [ea] at e; cases e
  | some y =>
    rw [ea, Option.bind_some] at e
    refine ⟨G, ds, y, s, w, ea, fun v G1 H1 g1 d1 => ?_⟩
    show rSortK X.K R F f [v] [.ref f] H1 Q
    match y, d1, e with
    | .list xs, .lst (vs := vs) q z r, e =>
      dsimp only at e
      split at e
      · rename_i hz
        cases ek : keysBy F xs with
        | none => rw [ek] at e; cases e
        | some ks =>
          rw [ek, Option.bind_some] at e
          split at e
          · rename_i hal
            cases e
            have hp := keysBy_some ek
            have l1 := r.length
            have l2 : xs.length = ks.length := hp.length
            refine ⟨_, vs, G1, xs, ks, rfl, rfl, SqL.of (g1.sub _ _ q), g1.sub, r, hz, hp, allAlike_of hal.1, sortable_of hal.2.1, depth_all hal.2.2, fun G2 H2 p g2 hn => ?_⟩
            have hm2 : ((trips vs xs ks).mergeSort (PySem.W.dataLe false fun t => t.2.2)).map (·.2.1) = sortBy xs ks := by
              unfold sortBy
              have h0 := PySem.W.sort_maps (r := PySem.W.dataLe false fun t : Trip => t.2.2) (s := PySem.W.dataLe false fun t : D × D => t.2) (fun t : Trip => t.2) (l := trips vs xs ks) fun a _ b _ => rfl
              rw [trips_snd l1 l2] at h0
              rw [← h0, List.map_map]
              rfl
            have dd : DenAll X.K G2 (((trips vs xs ks).mergeSort (PySem.W.dataLe false fun t => t.2.2)).map (·.1)) (((trips vs xs ks).mergeSort (PySem.W.dataLe false fun t => t.2.2)).map (·.2.1)) := denAll_trips fun t ht => (den_trips r t ((List.mergeSort_perm _ _).mem_iff.mp ht)).mono g2.keep
            rw [hm2] at dd
            refine k p _ G2 _ ((g1.trans g2).trans (.own g2.sub hn)) (g2.sub.free hn) ((g1.trans g2).all.free hn) upd_same ?_ dd
            rw [List.length_map, (List.mergeSort_perm _ _).length_eq]
            unfold trips
            rw [List.length_zip]
            exact Nat.le_trans (Nat.min_le_left _ _) z
          · cases e
      · cases e
    | .none, _, e => cases e
    | .bool _, _, e => cases e
    | .int _, _, e => cases e
    | .str _, _, e => cases e
    | .tuple _, _, e => cases e
end
end DL
set_option Elab.async false
set_option linter.all false
set_option maxRecDepth 100000
set_option maxHeartbeats 4000000
namespace DL
open PySem PySem.Spec PyProof.Rows L2
/-! ### list(D), D a dict of the module with texts as keys -/
def keyStr (e : DictEntry) : Str := match e.key with
  | .str x _ => x
  | _ => ""
structure TopKeys (K : PySem.W.Frag) (w : World) (mg : Str → Option Value) (x : Str) (ks : List Str) : Prop where
  ex : ∃ d es n, mg x = some (.ref d) ∧ KDict K w d es n ∧ es.toList.map keyStr = ks ∧ ks.Nodup
def rListTop (K : PySem.W.Frag) (w : World) : List V → Hp → VK → Prop := fun xs H Q => ∃ (d : Addr) (es : Array DictEntry) (n : Nat), xs = [.ref d] ∧ KDict K w d es n ∧ (es.toList.map keyStr).Nodup ∧ es.size ≤ 1000 ∧ ∀ p, H p = none → Q (.ref p) (upd H p (.lst ((es.toList.map keyStr).map .str)))
theorem pairs_lit {P : Program} {w : World} : ∀ {l : List DictEntry}, PySem.W.KeysLit w.params l → PySem.Pairs (PySem.strKind P w) l (l.map fun e => (keyStr e, e.val))
  | [], _ => .nil
  | e :: r, ⟨⟨x, t, e1, _⟩, h⟩ => .cons (by
      show (PySem.strKind P w).is (keyStr e) e.key = true
      unfold keyStr
      rw [e1]
      exact PySem.strKind_is P w x t) rfl (pairs_lit h)
theorem call_listTop {X : Cx} (hc : X.calm = true) : CallR X (.type "list") (rListTop X.K X.w) := by
  intro pins s σ H xs us Q I r h
  obtain ⟨d, es, n, rfl, D, nd, hz, q⟩ := h
  obtain rfl := Vals.ref1 r
  have at0 : s.heap.DictAt (PySem.strKind X.prog X.w) d (es.toList.map fun e => (keyStr e, e.val)) n := by
    refine ⟨_, es, I.kIn _ _ D.at_, ⟨rfl, rfl, rfl⟩, rfl, fun e he => ?_, ?_, ?_⟩
    · obtain ⟨x, t, e1, e2⟩ := D.lit.all e (Array.mem_toList_iff.mpr he)
      exact ⟨x, by rw [e1]; exact PySem.strKind_is X.prog X.w x t, e2⟩
    · exact pairs_lit D.lit
    · rw [List.map_map]
      exact nd
  refine PySem.W.kdl_call (PySem.W.kdl_dict (knd := PySem.strKind X.prog X.w) D.low) (I.ok.hd hc) at0 (by rw [List.length_map, Array.length_toList, sizeLine_eq]; omega) fun h' tk acc c hk hS hac => ?_
  have rv : Vals ((es.toList.map keyStr).map V.str) acc.toList := by
    refine vals_ix (by have := hac.1; simp at this ⊢; omega) fun i x v e1 e2 => ?_
    obtain ⟨k, y, hky, hi⟩ := hac.2 i v (by rw [← Array.getElem?_toList]; exact e2)
    rw [List.getElem?_map] at hky e1
    rw [List.getElem?_map] at e1
    cases ee : es.toList[i]? with
    | none => rw [ee] at e1; cases e1
    | some e =>
      rw [ee] at e1 hky
      cases e1
      cases hky
      obtain ⟨t, ht⟩ := Value.isStrOf_shape (x := keyStr e) (v := v) hi
      exact ⟨t, ht⟩
  exact ⟨.ref _, _, I.laid (t' := tk) (o := .lst ((es.toList.map keyStr).map V.str)) hk (Nat.le_refl _) ⟨by rw [List.length_map, List.length_map, Array.length_toList, sizeLine_eq]; omega, acc.toList, c, rv, by rw [Array.toArray_toList]; exact hS⟩, rfl, q _ (I.hok.fresh (Nat.le_refl _))⟩
section
variable {S : Type} {X : Cx} {p q pos : Pos} {x : Str}
def gKs (ks : List Str) : DS S → Option (List D) := fun _ => some (ks.map .str)
theorem ef_listTop {ks : List Str} (T : TopKeys X.K X.w X.mg x ks) (hg : Gl X "list") (hm : X.mg "list" = none) (hgx : Gl X x) (ok : ∀ k ∈ ks, k.length ≤ sizeLine ∧ PyData.strOk k = true) (hz : ks.length ≤ 1000) (hc : X.calm = true := by rfl) (hdb : (x == ("__debug__" : Str)) = false := by decide)
    (he : starEach [Expr.Name x q] X.env = (false, eval (.Name x q) X.env) :: starEach [] X.env := by rfl) (hpl : (backTo pos (starEach [] X.env)).any (·.1) = false := by rfl) :
    PE X (.Call (.Name "list" p) [.Name x q] [] pos) (tF X.K (gKs (S := S) ks)) := by
  obtain ⟨d, es, n, hd, D, rfl, nd⟩ := T.ex
  refine PE.imp (pe_callTy (call_listTop hc) hg hm (by decide +kernel) (pa_cons (pe_glob (v := .ref d) hgx hd rfl hdb) pa_nil he) (by decide) (by decide) he hpl) fun σ H Q ⟨G, ds, xs, s, w, e, k⟩ => ?_
  cases e
  have den : ∀ {l : List Str}, (∀ k ∈ l, k.length ≤ sizeLine ∧ PyData.strOk k = true) → DenAll X.K G (l.map V.str) (l.map PyData.str) := by
    intro l
    induction l with
    | nil => exact fun _ => .nil
    | cons y r ih => exact fun h => .cons (.str y (h y List.mem_cons_self).1 (h y List.mem_cons_self).2) (ih fun z hz => h z (List.mem_cons_of_mem _ hz))
  refine ⟨d, es, n, rfl, D, nd, by rw [List.length_map, Array.length_toList] at hz; exact hz, fun p hp => ?_⟩
  exact k p _ G _ (.own s hp) (s.free hp) hp upd_same (by rw [List.length_map, sizeLine_eq]; omega) (den ok)
end
end DL
set_option Elab.async false
set_option linter.all false
set_option maxRecDepth 100000
set_option maxHeartbeats 8000000
namespace LAW
open PySem PySem.Spec PyProof.Rows L2 DL
def top (i : Nat) : Stmt := PySem.Challenge.pw_pitchward_k54_grounds_of_days.main.body.getD i (.Pass ⟨0, 0, 0, 0⟩)
/-! both_let -/
abbrev st_both_let : Stmt := top 3
abbrev N_both_let : List Str := ["one", "other", "sort"]
theorem sc_both_let : FnScope N_both_let ["one", "other"] (defScope st_both_let) := ⟨rfl, rfl, rfl, by decide +kernel, rfl, by decide +kernel, by decide +kernel⟩
def g_both_let : SF St2 :=
  (gRet (oP (gLc (gSrc (gOp ixD (gVar 0) (gC (.int 3)))) [2] (asgN 2) (gB (gOp inD (gVar 2) (gOp ixD (gVar 1) (gC (.int 3))))) (gVar 2))))
def F_both_let : List D → Option (MO St2) := runP 3 g_both_let
theorem ok_both_let {P : Program} {w : World} {K : PySem.W.Frag} {mg : Str → Option Value} {base : Heap} {f : Addr} {fd : FuncData} (Fn : Fun K "both_let" "both_let" st_both_let f fd) :
    FnG P w K mg base CX0 1 f fd ["one", "other"] (spP K R2i 2 F_both_let) := fn_P (k := 0) (N := N_both_let) (g := g_both_let) Fn sc_both_let fun cdv A outer s H E hr hgd => by
  have nd : N_both_let.Nodup := sc_both_let.nd
  unfold g_both_let
  exact (ss_one (ss_ret (eo_P (ef_lc (own := [("sort", 2)]) tgd_name (own_name (by decide)) rfl nd (pi_any (ep_ix ix_seq d_ix (ep_var (pv 0)) ep_int (fun _ _ => rfl))) (blkOk_by (N := N_both_let) (sc := defScope st_both_let) (by decide +kernel)) (fun _ _ _ _ _ => (pg_name (i := 2) nd rfl (Or.inl rfl))) (fun _ _ _ _ _ => (pts_one (tp_cmp (o_in (room_u hr (by decide))) d_in (ep_var (pv 2)) (ep_ix ix_seq d_ix (ep_var (pv 1)) ep_int (fun _ _ => rfl)) rfl))) (fun _ _ _ _ _ => (ep_var (pv 2)))))))
/-! put_together -/
abbrev st_put_together : Stmt := top 4
abbrev N_put_together : List Str := ["ground", "parts", "one", "other", "marks", "part"]
theorem sc_put_together : FnScope N_put_together ["ground", "parts"] (defScope st_put_together) := ⟨rfl, rfl, rfl, by decide +kernel, rfl, by decide +kernel, by decide +kernel⟩
def g_put_together : SF St2 :=
  (gSeq (gIfS (xtP (gB (gOp eqD (gCall (gCons (gVar 1) gNil) lenD) (gC (.int 1)))))
  (gRet (oX (xP (gOp ixD (gOp ixD (gVar 0) (gC (.int 0))) (gOp ixD (gVar 1) (gC (.int 0)))))))
  gNext)
  (gSeq (gAsgT (asgL [2, 3]) (xP (gL (gLc (gSrc (gVar 1)) [5] (asgN 5) gYes (gOp ixD (gOp ixD (gVar 0) (gC (.int 0))) (gVar 5))))))
  (gSeq (gAsg 4 (oX (xP (gSlA (gL (gSortSet (gOp addA (gOp ixD (gVar 2) (gC (.int 2))) (gOp ixD (gVar 3) (gC (.int 2)))))) gNoPart (gPart (gC (.int 3)))))))
  (gRet (oX (xP (gTup (gCons (gOp ixD (gVar 2) (gC (.int 0))) (gCons (gCall (gCons (gC (.int 4)) (gCons (gOp addA (gOp ixD (gVar 2) (gC (.int 1))) (gOp ixD (gVar 3) (gC (.int 1)))) gNil)) min2) (gCons (gCall (gCons (gVar 4) gNil) tupleD) (gCons (gCall (gCons (gCallP 2 F_both_let (gCons (gVar 2) (gCons (gVar 3) gNil))) gNil) tupleD) gNil)))))))))))
def F_put_together : List D → Option (MO St2) := runP 6 g_put_together
theorem ok_put_together {P : Program} {w : World} {K : PySem.W.Frag} {mg : Str → Option Value} {base : Heap} {f : Addr} {fd : FuncData} (Fn : Fun K "put_together" "put_together" st_put_together f fd) (c_both_let : Cl P w K mg base 1 "both_let" (spP K R2i 2 F_both_let)) (m_len : mg "len" = none) (m_min : mg "min" = none) (m_set : mg "set" = none) (m_sorted : mg "sorted" = none) (m_tuple : mg "tuple" = none) (g_MOST_MARKS : ∃ t, mg "MOST_MARKS" = some (.int 3 t)) (g_MOST_SIZE : ∃ t, mg "MOST_SIZE" = some (.int 4 t)) :
    FnG P w K mg base CX0 2 f fd ["ground", "parts"] (spP K R2i 2 F_put_together) := fn_P (k := 1) (N := N_put_together) (g := g_put_together) Fn sc_put_together fun cdv A outer s H E hr hgd => by
  have nd : N_put_together.Nodup := sc_put_together.nd
  unfold g_put_together
  exact (ss_seq (ss_if (xt_P (tp_cmp (o_eq (room_u hr (by decide))) d_eq (ep_cb call_len d_len (by rfl) m_len (by decide +kernel) (ap_cons (ep_var (pv 1)) ap_nil)) ep_int rfl))
  (ss_one (ss_ret (eo_X (ex_P (ep_ix ix_seq d_ix (ep_ix ix_seq d_ix (ep_var (pv 0)) ep_int (fun _ _ => rfl)) (ep_ix ix_seq d_ix (ep_var (pv 1)) ep_int (fun _ _ => rfl)) (fun _ _ => rfl))))))
  ss_nil)
  (ss_seq (ss_asgT (tgd_lst (is := [2, 3])) (notin_own (own := [2, 3]) (own_lst (by decide)) (by decide)) (ex_P (ep_f (ef_lc (own := [("part", 5)]) tgd_name (own_name (by decide)) rfl nd (pi_any (ep_var (pv 1))) (blkOk_by (N := N_put_together) (sc := defScope st_put_together) (by decide +kernel)) (fun _ _ _ _ _ => (pg_name (i := 5) nd rfl (Or.inl rfl))) (fun _ _ _ _ _ => pts_yes) (fun _ _ _ _ _ => (ep_ix ix_seq d_ix (ep_ix ix_seq d_ix (ep_var (pv 0)) ep_int (fun _ _ => rfl)) (ep_var (pv 5)) (fun _ _ => rfl)))))) (pg_lst rfl (pgs_cons (pg_name (i := 2) nd rfl (Or.inl rfl)) (pgs_cons (pg_name (i := 3) nd rfl (Or.inl rfl)) pgs_nil))))
  (ss_seq (ss_set (by decide) nd rfl (Or.inl rfl) (eo_X (ex_P (ep_slA (ep_f (ef_sortSet (by rfl) m_sorted (by rfl) m_set (room_u hr (by decide)) (ep_bin o_addA d_addA (ep_ix ix_seq d_ix (ep_var (pv 2)) ep_int (fun _ _ => rfl)) (ep_ix ix_seq d_ix (ep_var (pv 3)) ep_int (fun _ _ => rfl))))) op_no (op_part (ep_globI (by rfl) g_MOST_MARKS))))))
  (ss_one (ss_ret (eo_X (ex_P (ep_tup (ap_cons (ep_ix ix_seq d_ix (ep_var (pv 2)) ep_int (fun _ _ => rfl)) (ap_cons (ep_cb (call_min2 rfl) d_min2 (by rfl) m_min (by decide +kernel) (ap_cons (ep_globI (by rfl) g_MOST_SIZE) (ap_cons (ep_bin o_addA d_addA (ep_ix ix_seq d_ix (ep_var (pv 2)) ep_int (fun _ _ => rfl)) (ep_ix ix_seq d_ix (ep_var (pv 3)) ep_int (fun _ _ => rfl))) ap_nil))) (ap_cons (ep_ct call_tuple_of d_tuple (by rfl) m_tuple (by decide +kernel) (ap_cons (ep_var (pv 4)) ap_nil)) (ap_cons (ep_ct call_tuple_of d_tuple (by rfl) m_tuple (by decide +kernel) (ap_cons (cp_call c_both_let (by decide) hr hgd (by rfl) (ap_cons (ep_var (pv 2)) (ap_cons (ep_var (pv 3)) ap_nil))) ap_nil)) ap_nil))))))))))))
/-! are_near -/
abbrev st_are_near : Stmt := top 5
abbrev N_are_near : List Str := ["ground", "one", "other", "part", "its"]
theorem sc_are_near : FnScope N_are_near ["ground", "one", "other"] (defScope st_are_near) := ⟨rfl, rfl, rfl, by decide +kernel, rfl, by decide +kernel, by decide +kernel⟩
def g_are_near : SF St2 :=
  (gSeq (gFor (xiP (gSrc (gVar 1))) (asgN 3)
  (gIfS (xtP (gTr (gCall (gCons (gL (gLc (gSrc (gVar 2)) [4] (asgN 4) gYes (gOp inD (gTup (gCons (gCall (gCons (gVar 3) (gCons (gVar 4) gNil)) min2) (gCons (gCall (gCons (gVar 3) (gCons (gVar 4) gNil)) max2) gNil))) (gOp ixD (gVar 0) (gC (.int 1)))))) gNil) anyD)))
  (gRet (oX (xP (gC (.bool true)))))
  gNext))
  (gRet (oX (xP (gC (.bool false))))))
def F_are_near : List D → Option (MO St2) := runP 5 g_are_near
theorem ok_are_near {P : Program} {w : World} {K : PySem.W.Frag} {mg : Str → Option Value} {base : Heap} {f : Addr} {fd : FuncData} (Fn : Fun K "are_near" "are_near" st_are_near f fd) (m_any : mg "any" = none) (m_max : mg "max" = none) (m_min : mg "min" = none) :
    FnG P w K mg base CX0 1 f fd ["ground", "one", "other"] (spP K R2i 3 F_are_near) := fn_P (k := 0) (N := N_are_near) (g := g_are_near) Fn sc_are_near fun cdv A outer s H E hr hgd => by
  have nd : N_are_near.Nodup := sc_are_near.nd
  unfold g_are_near
  exact (ss_seq (ss_for tgd_name (notin_own (own := [3]) (own_name (by decide)) (by decide)) rfl (xi_P (pi_any (ep_var (pv 1)))) (pg_name (i := 3) nd rfl (Or.inr rfl))
  (ss_one (ss_if (xt_P (tp_tr (ep_cb (cr_any rfl) d_any (by rfl) m_any (by decide +kernel) (ap_cons (ep_f (ef_lc (own := [("its", 4)]) tgd_name (own_name (by decide)) rfl nd (pi_any (ep_var (pv 2))) (blkOk_by (N := N_are_near) (sc := defScope st_are_near) (by decide +kernel)) (fun _ _ _ _ _ => (pg_name (i := 4) nd rfl (Or.inl rfl))) (fun _ _ _ _ _ => pts_yes) (fun _ _ _ _ _ => (ep_cmp (o_in (room_u hr (by decide))) d_in (ep_tup (ap_cons (ep_cb (call_min2 rfl) d_min2 (by rfl) m_min (by decide +kernel) (ap_cons (ep_var (pv 3)) (ap_cons (ep_var (pv 4)) ap_nil))) (ap_cons (ep_cb (call_max2 rfl) d_max2 (by rfl) m_max (by decide +kernel) (ap_cons (ep_var (pv 3)) (ap_cons (ep_var (pv 4)) ap_nil))) ap_nil))) (ep_ix ix_seq d_ix (ep_var (pv 0)) ep_int (fun _ _ => rfl)) rfl)))) ap_nil))))
  (ss_one (ss_ret (eo_X (ex_P ep_bl))))
  ss_nil)))
  (ss_one (ss_ret (eo_X (ex_P ep_bl)))))
/-! day_ground -/
abbrev st_day_ground : Stmt := top 6
abbrev N_day_ground : List Str := ["ground", "parts", "beside", "number", "some", "other"]
theorem sc_day_ground : FnScope N_day_ground ["ground", "parts"] (defScope st_day_ground) := ⟨rfl, rfl, rfl, by decide +kernel, rfl, by decide +kernel, by decide +kernel⟩
def g_day_ground : SF St2 :=
  (gSeq (gIfS (xtP (gB (gOp eqD (gVar 1) (gL (gLst gNil)))))
  (gRet (oX (xP (gC .none))))
  gNext)
  (gSeq (gAsg 2 (oP (gLst gNil)))
  (gSeq (gFor (xiP (gArgs (gCons (gVar 1) gNil) enum2)) (asgT [3, 4])
  (gFor (xiP (gArgs (gCons (gOp addA (gVar 3) (gC (.int 1))) (gCons (gCall (gCons (gVar 1) gNil) lenD) gNil)) rng2)) (asgN 5)
  (gIfS (xtP (gTr (gCallP 3 F_are_near (gCons (gVar 0) (gCons (gVar 4) (gCons (gOp ixD (gVar 1) (gVar 5)) gNil))))))
  (gDrop (xMt 2 appD (xCons (xP (gTup (gCons (gVar 3) (gCons (gVar 5) gNil)))) xNil)))
  gNext)))
  (gRet (oX (xB (gTup (gCons (gCall (gCons (gL (gLc (gSrc (gVar 1)) [4] (asgN 4) gYes (gCallP 2 F_put_together (gCons (gVar 0) (gCons (gVar 4) gNil))))) gNil) tupleD) (gCons (gCall (gCons (gVar 2) gNil) tupleD) (gCons (gOp ixD (gVar 0) (gC (.int 2))) gNil))))))))))
def F_day_ground : List D → Option (MO St2) := runP 6 g_day_ground
theorem ok_day_ground {P : Program} {w : World} {K : PySem.W.Frag} {mg : Str → Option Value} {base : Heap} {f : Addr} {fd : FuncData} (Fn : Fun K "day_ground" "day_ground" st_day_ground f fd) (c_are_near : Cl P w K mg base 1 "are_near" (spP K R2i 3 F_are_near)) (c_put_together : Cl P w K mg base 2 "put_together" (spP K R2i 2 F_put_together)) (m_enumerate : mg "enumerate" = none) (m_len : mg "len" = none) (m_range : mg "range" = none) (m_tuple : mg "tuple" = none) :
    FnG P w K mg base CX0 3 f fd ["ground", "parts"] (spP K R2i 2 F_day_ground) := fn_P (k := 2) (N := N_day_ground) (g := g_day_ground) Fn sc_day_ground fun cdv A outer s H E hr hgd => by
  have nd : N_day_ground.Nodup := sc_day_ground.nd
  unfold g_day_ground
  exact (ss_seq (ss_if (xt_P (tp_cmp (o_eq (room_u hr (by decide))) d_eq (ep_var (pv 1)) (ep_f (ef_lst ap_nil)) rfl))
  (ss_one (ss_ret (eo_X (ex_P ep_non))))
  ss_nil)
  (ss_seq (ss_set (by decide) nd rfl (Or.inl rfl) (eo_P (ef_lst ap_nil)))
  (ss_seq (ss_for (tgd_tup (is := [3, 4])) (notin_own (own := [3, 4]) (own_tup (by decide)) (by decide)) rfl (xi_P (pi_en2 (by rfl) m_enumerate (ap_cons (ep_var (pv 1)) ap_nil))) (pg_tup rfl (pgs_cons (pg_name (i := 3) nd rfl (Or.inl rfl)) (pgs_cons (pg_name (i := 4) nd rfl (Or.inl rfl)) pgs_nil)))
  (ss_one (ss_for tgd_name (notin_own (own := [5]) (own_name (by decide)) (by decide)) rfl (xi_P (pi_r2 (by rfl) m_range (ap_cons (ep_bin o_addA d_addA (ep_var (pv 3)) ep_int) (ap_cons (ep_cb call_len d_len (by rfl) m_len (by decide +kernel) (ap_cons (ep_var (pv 1)) ap_nil)) ap_nil)))) (pg_name (i := 5) nd rfl (Or.inl rfl))
  (ss_one (ss_if (xt_P (tp_tr (cp_call c_are_near (by decide) hr hgd (by rfl) (ap_cons (ep_var (pv 0)) (ap_cons (ep_var (pv 4)) (ap_cons (ep_ix ix_seq d_ix (ep_var (pv 1)) (ep_var (pv 5)) (fun _ _ => rfl)) ap_nil))))))
  (ss_one (ss_drop (ex_app (pv 2) (ax_cons (ex_P (ep_tup (ap_cons (ep_var (pv 3)) (ap_cons (ep_var (pv 5)) ap_nil)))) ax_nil))))
  ss_nil)))))
  (ss_one (ss_ret (eo_X (ex_B (ep_tup (ap_cons (ep_ct call_tuple_of d_tuple (by rfl) m_tuple (by decide +kernel) (ap_cons (ep_f (ef_lc (own := [("some", 4)]) tgd_name (own_name (by decide)) rfl nd (pi_any (ep_var (pv 1))) (blkOk_by (N := N_day_ground) (sc := defScope st_day_ground) (by decide +kernel)) (fun _ _ _ _ _ => (pg_name (i := 4) nd rfl (Or.inl rfl))) (fun _ _ _ _ _ => pts_yes) (fun _ _ _ _ _ => (cp_call c_put_together (by decide) hr hgd (by rfl) (ap_cons (ep_var (pv 0)) (ap_cons (ep_var (pv 4)) ap_nil)))))) ap_nil)) (ap_cons (ep_ct call_tuple_of d_tuple (by rfl) m_tuple (by decide +kernel) (ap_cons (ep_var (pv 2)) ap_nil)) (ap_cons (ep_ix ix_seq d_ix (ep_var (pv 0)) ep_int (fun _ _ => rfl)) ap_nil)))))))))))
/-! _law_mixed -/
abbrev st_law_mixed : Stmt := top 8
abbrev N_law_mixed : List Str := ["_law_cell", "_law_k", "_law_high", "_law_number"]
theorem sc_law_mixed : FnScope N_law_mixed ["_law_cell", "_law_k"] (defScope st_law_mixed) := ⟨rfl, rfl, rfl, by decide +kernel, rfl, by decide +kernel, by decide +kernel⟩
def g_law_mixed : SF St2 :=
  (gSeq (gAsg 2 (oX (xP (gOp mulD (gOp divD (gVar 0) (gC (.int 2147483629))) (gOp addA (gVar 1) (gC (.int 3)))))))
  (gSeq (gAsg 3 (oX (xP (gOp modD (gOp mulD (gOp addA (gOp addA (gOp addA (gOp addA (gVar 0) (gVar 2)) (gOp mulD (gOp mulD (gC (.int 104729)) (gVar 1)) (gVar 1))) (gOp mulD (gC (.int 15485863)) (gVar 1))) (gC (.int 7))) (gC (.int 69621))) (gC (.int 2147483629))))))
  (gRet (oX (xP (gOp divD (gOp modD (gOp mulD (gVar 3) (gC (.int 48271))) (gC (.int 2147483647))) (gC (.int 11))))))))
def F_law_mixed : List D → Option (MO St2) := runP 4 g_law_mixed
theorem ok_law_mixed {P : Program} {w : World} {K : PySem.W.Frag} {mg : Str → Option Value} {base : Heap} {f : Addr} {fd : FuncData} (Fn : Fun K "_law_mixed" "_law_mixed" st_law_mixed f fd) :
    FnG P w K mg base CX0 1 f fd ["_law_cell", "_law_k"] (spP K R2i 2 F_law_mixed) := fn_P (k := 0) (N := N_law_mixed) (g := g_law_mixed) Fn sc_law_mixed fun cdv A outer s H E hr hgd => by
  have nd : N_law_mixed.Nodup := sc_law_mixed.nd
  unfold g_law_mixed
  exact (ss_seq (ss_set (by decide) nd rfl (Or.inl rfl) (eo_X (ex_P (ep_bin op_mul d_mul (ep_bin op_fdivW d_div (ep_var (pv 0)) ep_int) (ep_bin o_addA d_addA (ep_var (pv 1)) ep_int)))))
  (ss_seq (ss_set (by decide) nd rfl (Or.inl rfl) (eo_X (ex_P (ep_bin op_mod d_mod (ep_bin op_mul d_mul (ep_bin o_addA d_addA (ep_bin o_addA d_addA (ep_bin o_addA d_addA (ep_bin o_addA d_addA (ep_var (pv 0)) (ep_var (pv 2))) (ep_bin op_mul d_mul (ep_bin op_mul d_mul ep_int (ep_var (pv 1))) (ep_var (pv 1)))) (ep_bin op_mul d_mul ep_int (ep_var (pv 1)))) ep_int) ep_int) ep_int))))
  (ss_one (ss_ret (eo_X (ex_P (ep_bin op_fdivW d_div (ep_bin op_mod d_mod (ep_bin op_mul d_mul (ep_var (pv 3)) ep_int) ep_int) ep_int)))))))
/-! _law_folded -/
abbrev st_law_folded : Stmt := top 9
abbrev N_law_folded : List Str := ["_law_script", "_law_found", "_law_k", "_law_cell"]
theorem sc_law_folded : FnScope N_law_folded ["_law_script"] (defScope st_law_folded) := ⟨rfl, rfl, rfl, by decide +kernel, rfl, by decide +kernel, by decide +kernel⟩
def g_law_folded : SF St2 :=
  (gSeq (gAsg 1 (oP (gLc (gArgs (gCons (gC (.int 61)) gNil) rng1) [2] (asgN 2) gYes (gOp addA (gC (.int 101)) (gOp mulD (gC (.int 3)) (gVar 2))))))
  (gSeq (gFor (xEnS 0) (asgT [2, 3])
  (gSetI 1 (xB (gOp modD (gOp addA (gOp mulD (gOp ixD (gVar 1) (gOp modD (gVar 2) (gC (.int 61)))) (gC (.int 40692))) (gVar 3)) (gC (.int 2305843009213693951)))) (gOp modD (gVar 2) (gC (.int 61)))))
  (gSeq (gFor (xiP (gArgs (gCons (gC (.int 1)) (gCons (gC (.int 61)) gNil)) rng2)) (asgN 2)
  (gSetI 1 (xB (gOp modD (gOp addA (gOp ixD (gVar 1) (gVar 2)) (gOp mulD (gOp ixD (gVar 1) (gOp subD (gVar 2) (gC (.int 1)))) (gC (.int 39373)))) (gC (.int 2305843009213693951)))) (gVar 2)))
  (gRet (oMove 1)))))
def F_law_folded : List Int → List D → Option (MO St2) := runC 4 g_law_folded
theorem ok_law_folded {P : Program} {w : World} {K : PySem.W.Frag} {mg : Str → Option Value} {base : Heap} {f : Addr} {fd : FuncData} (Fn : Fun K "_law_folded" "_law_folded" st_law_folded f fd) (m_enumerate : mg "enumerate" = none) (m_range : mg "range" = none) :
    FnG P w K mg base CX0 1 f fd ["_law_script"] (spC K R2i 1 F_law_folded) := fn_C (k := 0) (N := N_law_folded) (g := g_law_folded) Fn sc_law_folded fun cdv A outer s H E hr hgd => by
  have nd : N_law_folded.Nodup := sc_law_folded.nd
  unfold g_law_folded
  exact (ss_seq (ss_lcP (i := 1) (own := [("_law_k", 2)]) conv_P (by decide) tgd_name (own_name (by decide)) rfl nd rfl rfl (sw_true rfl rfl rfl (by decide +kernel)) (pi_r1 (by rfl) m_range (ap_cons ep_int ap_nil)) (blkOk_by (N := N_law_folded) (sc := defScope st_law_folded) (by decide +kernel)) (fun _ _ _ _ _ => (pg_name (i := 2) nd rfl (Or.inl rfl))) (fun _ _ _ _ _ => pts_yes) (fun _ _ _ _ _ => (ep_bin o_addA d_addA ep_int (ep_bin op_mul d_mul ep_int (ep_var (pv 2))))))
  (ss_seq (ss_for (tgd_tup (is := [2, 3])) (notin_own (own := [2, 3]) (own_tup (by decide)) (by decide)) rfl (xi_enS (by rfl) m_enumerate (pv 0)) (pg_tup rfl (pgs_cons (pg_name (i := 2) nd rfl (Or.inl rfl)) (pgs_cons (pg_name (i := 3) nd rfl (Or.inl rfl)) pgs_nil)))
  (ss_one (ss_setI (pv 1) (ep_bin op_mod d_mod (ep_var (pv 2)) ep_int) (ex_B (ep_bin op_mod d_mod (ep_bin o_addA d_addA (ep_bin op_mul d_mul (ep_ix ix_seq d_ix (ep_var (pv 1)) (ep_bin op_mod d_mod (ep_var (pv 2)) ep_int) (fun _ _ => rfl)) ep_int) (ep_var (pv 3))) ep_int)))))
  (ss_seq (ss_for tgd_name (notin_own (own := [2]) (own_name (by decide)) (by decide)) rfl (xi_P (pi_r2 (by rfl) m_range (ap_cons ep_int (ap_cons ep_int ap_nil)))) (pg_name (i := 2) nd rfl (Or.inl rfl))
  (ss_one (ss_setI (pv 1) (ep_var (pv 2)) (ex_B (ep_bin op_mod d_mod (ep_bin o_addA d_addA (ep_ix ix_seq d_ix (ep_var (pv 1)) (ep_var (pv 2)) (fun _ _ => rfl)) (ep_bin op_mul d_mul (ep_ix ix_seq d_ix (ep_var (pv 1)) (ep_bin op_sub d_sub (ep_var (pv 2)) ep_int) (fun _ _ => rfl)) ep_int)) ep_int)))))
  (ss_one (ss_ret (eo_move (pv 1)))))))
/-! _law_draw -/
abbrev st_law_draw : Stmt := top 10
abbrev N_law_draw : List Str := ["_law_m", "_law_many", "_law_k", "_law_at", "_law_cell"]
theorem sc_law_draw : FnScope N_law_draw ["_law_m", "_law_many"] (defScope st_law_draw) := ⟨rfl, rfl, rfl, by decide +kernel, rfl, by decide +kernel, by decide +kernel⟩
def g_law_draw : SF St2 :=
  (gSeq (gAsg 2 (oX (xAt 0)))
  (gSeq (gSetAt 0 (xP (gOp addA (gVar 2) (gC (.int 1)))))
  (gSeq (gIfS (xLeftNe 0)
  (gSeq (gAsg 3 (oX (xOp modD (xP (gVar 2)) (xLeftLen 0))))
  (gSeq (gAsg 4 (oX (xLeftIx 0 (gVar 3))))
  (gIfS (xtP (gB (gOp gtD (gVar 4) (gC (.int 0)))))
  (gSeq (gSetLeft 0 (xP (gOp divD (gVar 4) (gVar 1))) (gVar 3))
  (gRet (oX (xP (gOp modD (gVar 4) (gVar 1))))))
  gNext)))
  gNext)
  (gRet (oX (xOp modD (xO (oCallP 2 F_law_mixed (xCons (xO (oCallP 2 F_law_mixed (xCons (xOp addA (xCellsIx 0 (gOp modD (gVar 2) (gC (.int 61)))) (xP (gOp mulD (gC (.int 37)) (gOp divD (gVar 2) (gC (.int 61)))))) (xCons (xP (gVar 2)) xNil)))) (xCons (xP (gOp addA (gVar 2) (gC (.int 5)))) xNil)))) (xP (gVar 1))))))))
def F_law_draw : St2 → List D → Option (MO St2 × St2) := runS 5 g_law_draw
theorem ok_law_draw {P : Program} {w : World} {K : PySem.W.Frag} {mg : Str → Option Value} {base : Heap} {f : Addr} {fd : FuncData} (Fn : Fun K "_law_draw" "_law_draw" st_law_draw f fd) (c_law_mixed : Cl P w K mg base 1 "_law_mixed" (spP K R2i 2 F_law_mixed)) (m_len : mg "len" = none) :
    FnG P w K mg base CX0 2 f fd ["_law_m", "_law_many"] (spS K R2i 2 F_law_draw) := fn_S (k := 1) (N := N_law_draw) (g := g_law_draw) Fn sc_law_draw fun cdv A outer s H E hr hgd => by
  have nd : N_law_draw.Nodup := sc_law_draw.nd
  unfold g_law_draw
  exact (ss_seq (ss_set (by decide) nd rfl (Or.inl rfl) (eo_X (ex_at (room_u hr (by decide)) (pv 0) pe_str (fun _ _ => rfl))))
  (ss_seq (ss_setAt (room_u hr (by decide)) (pv 0) pe_str (ex_P (ep_bin o_addA d_addA (ep_var (pv 2)) ep_int)) rfl)
  (ss_seq (ss_if (xt_leftNe (room_u hr (by decide)) (pv 0) pe_str (fun _ _ => rfl) rfl)
  (ss_seq (ss_set (by decide) nd rfl (Or.inl rfl) (eo_X (ex_bin op_mod d_mod (ex_P (ep_var (pv 2))) (ex_leftLen (by rfl) m_len (room_u hr (by decide)) (pv 0) pe_str (fun _ _ => rfl)))))
  (ss_seq (ss_set (by decide) nd rfl (Or.inl rfl) (eo_X (ex_leftIx (room_u hr (by decide)) (pv 0) pe_str (fun _ _ => rfl) (ep_var (pv 3)) (fun _ _ => rfl))))
  (ss_one (ss_if (xt_P (tp_cmp o_gt d_gt (ep_var (pv 4)) ep_int rfl))
  (ss_seq (ss_setLeft (room_u hr (by decide)) (pv 0) pe_str (fun _ _ => rfl) (ep_var (pv 3)) (ex_P (ep_bin op_fdivW d_div (ep_var (pv 4)) (ep_var (pv 1)))))
  (ss_one (ss_ret (eo_X (ex_P (ep_bin op_mod d_mod (ep_var (pv 4)) (ep_var (pv 1))))))))
  ss_nil))))
  ss_nil)
  (ss_one (ss_ret (eo_X (ex_bin op_mod d_mod (ex_O (co_call c_law_mixed (by decide) hr hgd (by rfl) (ax_cons (ex_O (co_call c_law_mixed (by decide) hr hgd (by rfl) (ax_cons (ex_bin o_addA d_addA (ex_cellsIx (room_u hr (by decide)) (pv 0) pe_str (fun _ _ => rfl) (ep_bin op_mod d_mod (ep_var (pv 2)) ep_int) (fun _ _ => rfl)) (ex_P (ep_bin op_mul d_mul ep_int (ep_bin op_fdivW d_div (ep_var (pv 2)) ep_int)))) (ax_cons (ex_P (ep_var (pv 2))) ax_nil)))) (ax_cons (ex_P (ep_bin o_addA d_addA (ep_var (pv 2)) ep_int)) ax_nil)))) (ex_P (ep_var (pv 1))))))))))
/-! _law_begun -/
abbrev st_law_begun : Stmt := top 11
abbrev N_law_begun : List Str := ["_law_script", "_law_m", "_law_cell"]
theorem sc_law_begun : FnScope N_law_begun ["_law_script"] (defScope st_law_begun) := ⟨rfl, rfl, rfl, by decide +kernel, rfl, by decide +kernel, by decide +kernel⟩
def g_law_begun : SF St2 :=
  (gSeq (gAsg 1 (oNewDraw (oCallC 1 0 F_law_folded xNil)))
  (gSeq (gSetLeftL 1 (xLc (xSc 0) [2] (asgN 2) xYes (xP (gIf (gB (gOp geD (gVar 2) (gOp powD (gC (.int 10)) (gC (.int 18))))) (gVar 2) (gC (.int 0))))))
  (gRet (oMove 1))))
def F_law_begun : List Int → List D → Option (MO St2) := runC 3 g_law_begun
theorem ok_law_begun {P : Program} {w : World} {K : PySem.W.Frag} {mg : Str → Option Value} {base : Heap} {f : Addr} {fd : FuncData} (Fn : Fun K "_law_begun" "_law_begun" st_law_begun f fd) (c_law_folded : Cl P w K mg base 1 "_law_folded" (spC K R2i 1 F_law_folded)) :
    FnG P w K mg base CX0 2 f fd ["_law_script"] (spC K R2i 1 F_law_begun) := fn_C (k := 1) (N := N_law_begun) (g := g_law_begun) Fn sc_law_begun fun cdv A outer s H E hr hgd => by
  have nd : N_law_begun.Nodup := sc_law_begun.nd
  unfold g_law_begun
  exact (ss_seq (ss_set (by decide) nd rfl (Or.inl rfl) (eo_newDraw pe_str pe_str pe_str (co_callC c_law_folded (by decide) hr hgd (by rfl) (pv 0) ax_nil) pe_int))
  (ss_seq (ss_setLeftL (room_u hr (by decide)) (pv 1) pe_str (eo_lc (own := [("_law_cell", 2)]) tgd_name (own_name (by decide)) rfl nd (xi_scr (pv 0)) (blkOk_by (N := N_law_begun) (sc := defScope st_law_begun) (by decide +kernel)) (fun _ _ _ _ _ => (pg_name (i := 2) nd rfl (Or.inl rfl))) (fun _ _ _ _ _ => xts_yes) (fun _ _ _ _ _ => (ex_P (ep_if (tp_cmp o_ge d_ge (ep_var (pv 2)) (ep_bin op_pow d_pow ep_int ep_int) rfl) (ep_var (pv 2)) ep_int)))) rfl)
  (ss_one (ss_ret (eo_move (pv 1))))))
/-! _law_names -/
abbrev st_law_names : Stmt := top 12
abbrev N_law_names : List Str := ["_law_m", "_law_many", "_law_some_here", "_law_start", "_law_stride", "_law_letters", "_law_found", "_law_word", "_law_at", "_law_k"]
theorem sc_law_names : FnScope N_law_names ["_law_m", "_law_many"] (defScope st_law_names) := ⟨rfl, rfl, rfl, by decide +kernel, rfl, by decide +kernel, by decide +kernel⟩
def g_law_names : SF St2 :=
  (gSeq (gAsg 2 (oX (xP (gC (.str "own lent last rank draw ring out pitch comer holds beside bars row bar new come held home a b")))))
  (gSeq (gAsg 2 (oX (xP (gL (gSplit (gOp addA (gVar 2) (gC (.str " ab ba paper day none form fits lend give line rules"))) (gC (.str " ")))))))
  (gSeq (gParN [3, 4, 5] (oCons (oX (xO (oCallS 2 0 F_law_draw (xCons (xP (gC (.int 31))) xNil)))) (oCons (oX (xOp addA (xP (gC (.int 1))) (xO (oCallS 2 0 F_law_draw (xCons (xP (gC (.int 30))) xNil))))) (oCons (oX (xP (gC (.str "abcdefghijklmnopqrstuvwxyz")))) oNil))))
  (gSeq (gAsg 6 (oP (gLc (gArgs (gCons (gVar 1) gNil) rng1) [9] (asgN 9) gYes (gOp ixD (gVar 2) (gOp modD (gOp addA (gVar 3) (gOp mulD (gVar 4) (gVar 9))) (gC (.int 31)))))))
  (gSeq (gAsg 7 (oX (xOp addA (xOp joinD (xP (gC (.str ""))) (xO (xLc (xArgs (xCons (xO (oCallS 2 0 F_law_draw (xCons (xP (gC (.int 7))) xNil))) xNil) rng1) [9] (asgN 9) xYes (xOp ixD (xP (gVar 5)) (xO (oCallS 2 0 F_law_draw (xCons (xP (gC (.int 26))) xNil))))))) (xP (gC (.str "z"))))))
  (gSeq (gAsg 8 (oX (xO (oCallS 2 0 F_law_draw (xCons (xP (gOp addA (gOp mulD (gC (.int 2)) (gVar 1)) (gC (.int 1)))) xNil)))))
  (gSeq (gIfS (xtP (gB (gOp ltD (gVar 8) (gVar 1))))
  (gSeq (gSetI 6 (xP (gVar 7)) (gVar 8))
  (gSetI 6 (xOp ixD (xO (oB (gLst (gCons (gOp addA (gVar 7) (gC (.str "z"))) (gCons (gOp ixD (gVar 6) (gOp subD (gVar 8) (gC (.int 1)))) gNil))))) (xOp mulD (xO (oCallS 2 0 F_law_draw (xCons (xP (gC (.int 2))) xNil))) (xP (gCall (gCons (gOp gtD (gVar 1) (gC (.int 1))) gNil) intD)))) (gOp subD (gVar 8) (gC (.int 1)))))
  gNext)
  (gRet (oMove 6)))))))))
def F_law_names : St2 → List D → Option (MO St2 × St2) := runS 10 g_law_names
theorem ok_law_names {P : Program} {w : World} {K : PySem.W.Frag} {mg : Str → Option Value} {base : Heap} {f : Addr} {fd : FuncData} (Fn : Fun K "_law_names" "_law_names" st_law_names f fd) (c_law_draw : Cl P w K mg base 2 "_law_draw" (spS K R2i 2 F_law_draw)) (m_int : mg "int" = none) (m_range : mg "range" = none) :
    FnG P w K mg base CX0 3 f fd ["_law_m", "_law_many"] (spS K R2i 2 F_law_names) := fn_S (k := 2) (N := N_law_names) (g := g_law_names) Fn sc_law_names fun cdv A outer s H E hr hgd => by
  have nd : N_law_names.Nodup := sc_law_names.nd
  unfold g_law_names
  exact (ss_seq (ss_set (by decide) nd rfl (Or.inr rfl) (eo_X (ex_P ep_str)))
  (ss_seq (ss_set (by decide) nd rfl (Or.inr rfl) (eo_X (ex_P (ep_f (ef_split (ep_bin o_addA d_addA (ep_var (pv 2)) ep_str) ep_str)))))
  (ss_seq (ss_parN (is := [3, 4, 5]) (by decide) (ao_cons (eo_X (ex_O (co_callS c_law_draw (by decide) hr hgd (by rfl) (pv 0) (ax_cons (ex_P ep_int) ax_nil)))) (ao_cons (eo_X (ex_bin o_addA d_addA (ex_P ep_int) (ex_O (co_callS c_law_draw (by decide) hr hgd (by rfl) (pv 0) (ax_cons (ex_P ep_int) ax_nil))))) (ao_cons (eo_X (ex_P ep_str)) ao_nil))) (pg_tup rfl (pgs_cons (pg_name (i := 3) nd rfl (Or.inr rfl)) (pgs_cons (pg_name (i := 4) nd rfl (Or.inr rfl)) (pgs_cons (pg_name (i := 5) nd rfl (Or.inr rfl)) pgs_nil)))))
  (ss_seq (ss_lcP (i := 6) (own := [("_law_k", 9)]) conv_P (by decide) tgd_name (own_name (by decide)) rfl nd rfl rfl (sw_true rfl rfl rfl (by decide +kernel)) (pi_r1 (by rfl) m_range (ap_cons (ep_var (pv 1)) ap_nil)) (blkOk_by (N := N_law_names) (sc := defScope st_law_names) (by decide +kernel)) (fun _ _ _ _ _ => (pg_name (i := 9) nd rfl (Or.inl rfl))) (fun _ _ _ _ _ => pts_yes) (fun _ _ _ _ _ => (ep_ix ix_seq d_ix (ep_var (pv 2)) (ep_bin op_mod d_mod (ep_bin o_addA d_addA (ep_var (pv 3)) (ep_bin op_mul d_mul (ep_var (pv 4)) (ep_var (pv 9)))) ep_int) (fun _ _ => rfl))))
  (ss_seq (ss_set (by decide) nd rfl (Or.inl rfl) (eo_X (ex_bin o_addA d_addA (ex_join (ex_P ep_str) (ex_O (eo_lc (own := [("_law_k", 9)]) tgd_name (own_name (by decide)) rfl nd (xi_r1 (by rfl) m_range (ax_cons (ex_O (co_callS c_law_draw (by decide) hr hgd (by rfl) (pv 0) (ax_cons (ex_P ep_int) ax_nil))) ax_nil)) (blkOk_by (N := N_law_names) (sc := defScope st_law_names) (by decide +kernel)) (fun _ _ _ _ _ => (pg_name (i := 9) nd rfl (Or.inl rfl))) (fun _ _ _ _ _ => xts_yes) (fun _ _ _ _ _ => (ex_ix ix_seq d_ix (ex_P (ep_var (pv 5))) (ex_O (co_callS c_law_draw (by decide) hr hgd (by rfl) (pv 0) (ax_cons (ex_P ep_int) ax_nil))) (fun _ _ => rfl)))))) (ex_P ep_str))))
  (ss_seq (ss_set (by decide) nd rfl (Or.inl rfl) (eo_X (ex_O (co_callS c_law_draw (by decide) hr hgd (by rfl) (pv 0) (ax_cons (ex_P (ep_bin o_addA d_addA (ep_bin op_mul d_mul ep_int (ep_var (pv 1))) ep_int)) ax_nil)))))
  (ss_seq (ss_if (xt_P (tp_cmp o_lt d_lt (ep_var (pv 8)) (ep_var (pv 1)) rfl))
  (ss_seq (ss_setI (pv 6) (ep_var (pv 8)) (ex_P (ep_var (pv 7))))
  (ss_one (ss_setI (pv 6) (ep_bin op_sub d_sub (ep_var (pv 8)) ep_int) (ex_ix ix_seq d_ix (ex_O (eo_B (ef_lst (ap_cons (ep_bin o_addA d_addA (ep_var (pv 7)) ep_str) (ap_cons (ep_ix ix_seq d_ix (ep_var (pv 6)) (ep_bin op_sub d_sub (ep_var (pv 8)) ep_int) (fun _ _ => rfl)) ap_nil))))) (ex_bin op_mul d_mul (ex_O (co_callS c_law_draw (by decide) hr hgd (by rfl) (pv 0) (ax_cons (ex_P ep_int) ax_nil))) (ex_P (ep_ct call_int1 d_int (by rfl) m_int (by decide +kernel) (ap_cons (ep_cmp o_gt d_gt (ep_var (pv 1)) ep_int rfl) ap_nil)))) (fun _ _ => rfl)))))
  ss_nil)
  (ss_one (ss_ret (eo_move (pv 6)))))))))))
/-! _law_some -/
abbrev st_law_some : Stmt := top 13
abbrev N_law_some : List Str := ["_law_m", "_law_words", "_law_least", "_law_most", "_law_found", "_law_word"]
theorem sc_law_some : FnScope N_law_some ["_law_m", "_law_words", "_law_least", "_law_most"] (defScope st_law_some) := ⟨rfl, rfl, rfl, by decide +kernel, rfl, by decide +kernel, by decide +kernel⟩
def g_law_some : SF St2 :=
  (gSeq (gAsg 4 (oX (xSl3 (xO (xLc (xiP (gSrc (gVar 1))) [5] (asgN 5) (xBool (xOp eqD (xO (oCallS 2 0 F_law_draw (xCons (xP (gC (.int 3))) xNil))) (xP (gC (.int 0))))) (xP (gVar 5)))) xNoPart (xPart (xP (gVar 3))) slA)))
  (gRet (oX (xP (gCall (gCons (gL (gArgs (gCons (gOrV (gVar 4) (gSlA (gVar 1) gNoPart (gPart (gVar 2)))) gNil) sortedD)) gNil) tupleD)))))
def F_law_some : St2 → List D → Option (MO St2 × St2) := runS 6 g_law_some
theorem ok_law_some {P : Program} {w : World} {K : PySem.W.Frag} {mg : Str → Option Value} {base : Heap} {f : Addr} {fd : FuncData} (Fn : Fun K "_law_some" "_law_some" st_law_some f fd) (c_law_draw : Cl P w K mg base 2 "_law_draw" (spS K R2i 2 F_law_draw)) (m_sorted : mg "sorted" = none) (m_tuple : mg "tuple" = none) :
    FnG P w K mg base CX0 3 f fd ["_law_m", "_law_words", "_law_least", "_law_most"] (spS K R2i 4 F_law_some) := fn_S (k := 2) (N := N_law_some) (g := g_law_some) Fn sc_law_some fun cdv A outer s H E hr hgd => by
  have nd : N_law_some.Nodup := sc_law_some.nd
  unfold g_law_some
  exact (ss_seq (ss_set (by decide) nd rfl (Or.inl rfl) (eo_X (ex_slA (ex_O (eo_lc (own := [("_law_word", 5)]) tgd_name (own_name (by decide)) rfl nd (xi_P (pi_any (ep_var (pv 1)))) (blkOk_by (N := N_law_some) (sc := defScope st_law_some) (by decide +kernel)) (fun _ _ _ _ _ => (pg_name (i := 5) nd rfl (Or.inl rfl))) (fun _ _ _ _ _ => (xts_one (xt_cmp (o_eq (room_u hr (by decide))) d_eq (ex_O (co_callS c_law_draw (by decide) hr hgd (by rfl) (pv 0) (ax_cons (ex_P ep_int) ax_nil))) (ex_P ep_int) rfl))) (fun _ _ _ _ _ => (ex_P (ep_var (pv 5)))))) xo_no (xo_part (ex_P (ep_var (pv 3)))))))
  (ss_one (ss_ret (eo_X (ex_P (ep_ct call_tuple_of d_tuple (by rfl) m_tuple (by decide +kernel) (ap_cons (ep_f (ef_cb (cr_sortedA (room_u hr (by decide))) d_sorted (by rfl) m_sorted (by decide +kernel) (ap_cons (ep_or (ep_var (pv 4)) (ep_one (ep_slA (ep_var (pv 1)) op_no (op_part (ep_var (pv 2)))))) ap_nil))) ap_nil)))))))
/-! _law_meet -/
abbrev st_law_meet : Stmt := top 14
abbrev N_law_meet : List Str := ["_law_bar", "_law_one", "_law_other"]
theorem sc_law_meet : FnScope N_law_meet ["_law_bar", "_law_one", "_law_other"] (defScope st_law_meet) := ⟨rfl, rfl, rfl, by decide +kernel, rfl, by decide +kernel, by decide +kernel⟩
def g_law_meet : SF St2 :=
  (gRet (oX (xP (gOrV (gAndV (gOp inD (gOp ixD (gVar 0) (gC (.int 0))) (gOp ixD (gVar 1) (gC (.int 3)))) (gOp inD (gOp ixD (gVar 0) (gC (.int 1))) (gOp ixD (gVar 2) (gC (.int 3))))) (gAndV (gOp inD (gOp ixD (gVar 0) (gC (.int 1))) (gOp ixD (gVar 1) (gC (.int 3)))) (gOp inD (gOp ixD (gVar 0) (gC (.int 0))) (gOp ixD (gVar 2) (gC (.int 3)))))))))
def F_law_meet : List D → Option (MO St2) := runP 3 g_law_meet
theorem ok_law_meet {P : Program} {w : World} {K : PySem.W.Frag} {mg : Str → Option Value} {base : Heap} {f : Addr} {fd : FuncData} (Fn : Fun K "_law_meet" "_law_meet" st_law_meet f fd) :
    FnG P w K mg base CX0 1 f fd ["_law_bar", "_law_one", "_law_other"] (spP K R2i 3 F_law_meet) := fn_P (k := 0) (N := N_law_meet) (g := g_law_meet) Fn sc_law_meet fun cdv A outer s H E hr hgd => by
  have nd : N_law_meet.Nodup := sc_law_meet.nd
  unfold g_law_meet
  exact (ss_one (ss_ret (eo_X (ex_P (ep_or (ep_and (ep_cmp (o_in (room_u hr (by decide))) d_in (ep_ix ix_seq d_ix (ep_var (pv 0)) ep_int (fun _ _ => rfl)) (ep_ix ix_seq d_ix (ep_var (pv 1)) ep_int (fun _ _ => rfl)) rfl) (ep_one (ep_cmp (o_in (room_u hr (by decide))) d_in (ep_ix ix_seq d_ix (ep_var (pv 0)) ep_int (fun _ _ => rfl)) (ep_ix ix_seq d_ix (ep_var (pv 2)) ep_int (fun _ _ => rfl)) rfl))) (ep_one (ep_and (ep_cmp (o_in (room_u hr (by decide))) d_in (ep_ix ix_seq d_ix (ep_var (pv 0)) ep_int (fun _ _ => rfl)) (ep_ix ix_seq d_ix (ep_var (pv 1)) ep_int (fun _ _ => rfl)) rfl) (ep_one (ep_cmp (o_in (room_u hr (by decide))) d_in (ep_ix ix_seq d_ix (ep_var (pv 0)) ep_int (fun _ _ => rfl)) (ep_ix ix_seq d_ix (ep_var (pv 2)) ep_int (fun _ _ => rfl)) rfl)))))))))
/-! _law_ground -/
abbrev st_law_ground : Stmt := top 15
abbrev N_law_ground : List Str := ["_law_m", "_law_most", "_law_many", "_law_sorts", "_law_marks", "_law_pitches", "_law_name", "_law_close", "_law_one", "_law_pairs", "_law_bars", "_law_bar", "_law_other", "_law_k", "_law_pair"]
theorem sc_law_ground : FnScope N_law_ground ["_law_m", "_law_most"] (defScope st_law_ground) := ⟨rfl, rfl, rfl, by decide +kernel, rfl, by decide +kernel, by decide +kernel⟩
def g_law_ground : SF St2 :=
  (gSeq (gParN [2, 3, 4] (oCons (oX (xOp addA (xP (gC (.int 1))) (xO (oCallS 2 0 F_law_draw (xCons (xP (gVar 1)) xNil))))) (oCons (oX (xO (oCallS 2 0 F_law_names (xCons (xP (gC (.int 4))) xNil)))) (oCons (oX (xO (oCallS 2 0 F_law_names (xCons (xP (gC (.int 3))) xNil)))) oNil))))
  (gSeq (gAsg 5 (oP (gLst gNil)))
  (gSeq (gFor (xSrc (xO (oCallS 2 0 F_law_names (xCons (xP (gVar 2)) xNil)))) (asgN 6)
  (gDrop (xMt 5 appD (xCons (xTup (xCons (xP (gVar 6)) (xCons (xOp addA (xP (gC (.int 1))) (xO (oCallS 2 0 F_law_draw (xCons (xP (gC (.int 4))) xNil)))) (xCons (xO (oCallS 4 0 F_law_some (xCons (xP (gVar 4)) (xCons (xP (gC (.int 0))) (xCons (xP (gC (.int 3))) xNil))))) (xCons (xO (oCallS 4 0 F_law_some (xCons (xP (gVar 3)) (xCons (xP (gC (.int 1))) (xCons (xP (gC (.int 4))) xNil))))) xNil))))) xNil))))
  (gSeq (gAsg 7 (oX (xP (gL (gLst gNil)))))
  (gSeq (gFor (xiP (gArgs (gCons (gVar 2) gNil) rng1)) (asgN 8)
  (gAsg 7 (oX (xOp addA (xP (gVar 7)) (xO (xLc (xiP (gArgs (gCons (gOp addA (gVar 8) (gC (.int 1))) (gCons (gVar 2) gNil)) rng2)) [12] (asgN 12) (xBool (xOp eqD (xO (oCallS 2 0 F_law_draw (xCons (xP (gC (.int 4))) xNil))) (xP (gC (.int 0))))) (xP (gTup (gCons (gVar 8) (gCons (gVar 12) gNil))))))))))
  (gSeq (gAsg 9 (oX (xP (gL (gLc (gSrc (gTup (gCons (gC (.int 0)) (gCons (gC (.int 1)) (gCons (gC (.int 2)) (gCons (gC (.int 6)) (gCons (gC (.int 11)) (gCons (gC (.int 15)) gNil)))))))) [13] (asgN 13) gYes (gL (gArgs (gCons (gL (gLst (gCons (gOp ixD (gVar 3) (gOp divD (gVar 13) (gC (.int 4)))) (gCons (gOp ixD (gVar 3) (gOp modD (gVar 13) (gC (.int 4)))) gNil)))) gNil) sortedD)))))))
  (gSeq (gAsg 10 (oP (gLst gNil)))
  (gSeq (gFor (xSrc (xO (xLc (xiP (gSrc (gVar 9))) [14] (asgN 14) (xBool (xOp eqD (xO (oCallS 2 0 F_law_draw (xCons (xP (gC (.int 2))) xNil))) (xP (gC (.int 0))))) (xP (gCall (gCons (gVar 14) gNil) tupleD))))) (asgN 11)
  (gIfS (xtP (gNot (gTr (gCall (gCons (gL (gLc (gSrc (gVar 7)) [8, 12] (asgT [8, 12]) gYes (gCallP 3 F_law_meet (gCons (gVar 11) (gCons (gOp ixD (gVar 5) (gVar 8)) (gCons (gOp ixD (gVar 5) (gVar 12)) gNil)))))) gNil) anyD))))
  (gDrop (xMt 10 appD (xCons (xP (gVar 11)) xNil)))
  gNext))
  (gRet (oX (xB (gTup (gCons (gCall (gCons (gVar 5) gNil) tupleD) (gCons (gCall (gCons (gVar 7) gNil) tupleD) (gCons (gCall (gCons (gL (gArgs (gCons (gVar 10) gNil) sortedD)) gNil) tupleD) gNil)))))))))))))))
def F_law_ground : St2 → List D → Option (MO St2 × St2) := runS 15 g_law_ground
theorem ok_law_ground {P : Program} {w : World} {K : PySem.W.Frag} {mg : Str → Option Value} {base : Heap} {f : Addr} {fd : FuncData} (Fn : Fun K "_law_ground" "_law_ground" st_law_ground f fd) (c_law_draw : Cl P w K mg base 2 "_law_draw" (spS K R2i 2 F_law_draw)) (c_law_names : Cl P w K mg base 3 "_law_names" (spS K R2i 2 F_law_names)) (c_law_some : Cl P w K mg base 3 "_law_some" (spS K R2i 4 F_law_some)) (c_law_meet : Cl P w K mg base 1 "_law_meet" (spP K R2i 3 F_law_meet)) (m_any : mg "any" = none) (m_range : mg "range" = none) (m_sorted : mg "sorted" = none) (m_tuple : mg "tuple" = none) :
    FnG P w K mg base CX0 4 f fd ["_law_m", "_law_most"] (spS K R2i 2 F_law_ground) := fn_S (k := 3) (N := N_law_ground) (g := g_law_ground) Fn sc_law_ground fun cdv A outer s H E hr hgd => by
  have nd : N_law_ground.Nodup := sc_law_ground.nd
  unfold g_law_ground
  exact (ss_seq (ss_parN (is := [2, 3, 4]) (by decide) (ao_cons (eo_X (ex_bin o_addA d_addA (ex_P ep_int) (ex_O (co_callS c_law_draw (by decide) hr hgd (by rfl) (pv 0) (ax_cons (ex_P (ep_var (pv 1))) ax_nil))))) (ao_cons (eo_X (ex_O (co_callS c_law_names (by decide) hr hgd (by rfl) (pv 0) (ax_cons (ex_P ep_int) ax_nil)))) (ao_cons (eo_X (ex_O (co_callS c_law_names (by decide) hr hgd (by rfl) (pv 0) (ax_cons (ex_P ep_int) ax_nil)))) ao_nil))) (pg_tup rfl (pgs_cons (pg_name (i := 2) nd rfl (Or.inl rfl)) (pgs_cons (pg_name (i := 3) nd rfl (Or.inr rfl)) (pgs_cons (pg_name (i := 4) nd rfl (Or.inl rfl)) pgs_nil)))))
  (ss_seq (ss_set (by decide) nd rfl (Or.inr rfl) (eo_P (ef_lst ap_nil)))
  (ss_seq (ss_for tgd_name (notin_own (own := [6]) (own_name (by decide)) (by decide)) rfl (xi_any (ex_O (co_callS c_law_names (by decide) hr hgd (by rfl) (pv 0) (ax_cons (ex_P (ep_var (pv 2))) ax_nil)))) (pg_name (i := 6) nd rfl (Or.inl rfl))
  (ss_one (ss_drop (ex_app (pv 5) (ax_cons (ex_tup (ax_cons (ex_P (ep_var (pv 6))) (ax_cons (ex_bin o_addA d_addA (ex_P ep_int) (ex_O (co_callS c_law_draw (by decide) hr hgd (by rfl) (pv 0) (ax_cons (ex_P ep_int) ax_nil)))) (ax_cons (ex_O (co_callS c_law_some (by decide) hr hgd (by rfl) (pv 0) (ax_cons (ex_P (ep_var (pv 4))) (ax_cons (ex_P ep_int) (ax_cons (ex_P ep_int) ax_nil))))) (ax_cons (ex_O (co_callS c_law_some (by decide) hr hgd (by rfl) (pv 0) (ax_cons (ex_P (ep_var (pv 3))) (ax_cons (ex_P ep_int) (ax_cons (ex_P ep_int) ax_nil))))) ax_nil))))) ax_nil)))))
  (ss_seq (ss_set (by decide) nd rfl (Or.inl rfl) (eo_X (ex_P (ep_f (ef_lst ap_nil)))))
  (ss_seq (ss_for tgd_name (notin_own (own := [8]) (own_name (by decide)) (by decide)) rfl (xi_P (pi_r1 (by rfl) m_range (ap_cons (ep_var (pv 2)) ap_nil))) (pg_name (i := 8) nd rfl (Or.inr rfl))
  (ss_one (ss_set (by decide) nd rfl (Or.inl rfl) (eo_X (ex_bin o_addA d_addA (ex_P (ep_var (pv 7))) (ex_O (eo_lc (own := [("_law_other", 12)]) tgd_name (own_name (by decide)) rfl nd (xi_P (pi_r2 (by rfl) m_range (ap_cons (ep_bin o_addA d_addA (ep_var (pv 8)) ep_int) (ap_cons (ep_var (pv 2)) ap_nil)))) (blkOk_by (N := N_law_ground) (sc := defScope st_law_ground) (by decide +kernel)) (fun _ _ _ _ _ => (pg_name (i := 12) nd rfl (Or.inl rfl))) (fun _ _ _ _ _ => (xts_one (xt_cmp (o_eq (room_u hr (by decide))) d_eq (ex_O (co_callS c_law_draw (by decide) hr hgd (by rfl) (pv 0) (ax_cons (ex_P ep_int) ax_nil))) (ex_P ep_int) rfl))) (fun _ _ _ _ _ => (ex_P (ep_tup (ap_cons (ep_var (pv 8)) (ap_cons (ep_var (pv 12)) ap_nil))))))))))))
  (ss_seq (ss_lcP (i := 9) (own := [("_law_k", 13)]) conv_PX (by decide) tgd_name (own_name (by decide)) rfl nd rfl rfl (sw_true rfl rfl rfl (by decide +kernel)) (pi_any (ep_tup (ap_cons ep_int (ap_cons ep_int (ap_cons ep_int (ap_cons ep_int (ap_cons ep_int (ap_cons ep_int ap_nil)))))))) (blkOk_by (N := N_law_ground) (sc := defScope st_law_ground) (by decide +kernel)) (fun _ _ _ _ _ => (pg_name (i := 13) nd rfl (Or.inl rfl))) (fun _ _ _ _ _ => pts_yes) (fun _ _ _ _ _ => (ep_f (ef_cb (cr_sortedA (room_u hr (by decide))) d_sorted (by rfl) m_sorted (by decide +kernel) (ap_cons (ep_f (ef_lst (ap_cons (ep_ix ix_seq d_ix (ep_var (pv 3)) (ep_bin op_fdivW d_div (ep_var (pv 13)) ep_int) (fun _ _ => rfl)) (ap_cons (ep_ix ix_seq d_ix (ep_var (pv 3)) (ep_bin op_mod d_mod (ep_var (pv 13)) ep_int) (fun _ _ => rfl)) ap_nil)))) ap_nil)))))
  (ss_seq (ss_set (by decide) nd rfl (Or.inl rfl) (eo_P (ef_lst ap_nil)))
  (ss_seq (ss_for tgd_name (notin_own (own := [11]) (own_name (by decide)) (by decide)) rfl (xi_any (ex_O (eo_lc (own := [("_law_pair", 14)]) tgd_name (own_name (by decide)) rfl nd (xi_P (pi_any (ep_var (pv 9)))) (blkOk_by (N := N_law_ground) (sc := defScope st_law_ground) (by decide +kernel)) (fun _ _ _ _ _ => (pg_name (i := 14) nd rfl (Or.inl rfl))) (fun _ _ _ _ _ => (xts_one (xt_cmp (o_eq (room_u hr (by decide))) d_eq (ex_O (co_callS c_law_draw (by decide) hr hgd (by rfl) (pv 0) (ax_cons (ex_P ep_int) ax_nil))) (ex_P ep_int) rfl))) (fun _ _ _ _ _ => (ex_P (ep_ct call_tuple_of d_tuple (by rfl) m_tuple (by decide +kernel) (ap_cons (ep_var (pv 14)) ap_nil))))))) (pg_name (i := 11) nd rfl (Or.inr rfl))
  (ss_one (ss_if (xt_P (tp_not (tp_tr (ep_cb (cr_any rfl) d_any (by rfl) m_any (by decide +kernel) (ap_cons (ep_f (ef_lc (own := [("_law_one", 8), ("_law_other", 12)]) (tgd_tup (is := [8, 12])) (own_tup (by decide)) rfl nd (pi_any (ep_var (pv 7))) (blkOk_by (N := N_law_ground) (sc := defScope st_law_ground) (by decide +kernel)) (fun _ _ _ _ _ => (pg_tup rfl (pgs_cons (pg_name (i := 8) nd rfl (Or.inl rfl)) (pgs_cons (pg_name (i := 12) nd rfl (Or.inl rfl)) pgs_nil)))) (fun _ _ _ _ _ => pts_yes) (fun _ _ _ _ _ => (cp_call c_law_meet (by decide) hr hgd (by rfl) (ap_cons (ep_var (pv 11)) (ap_cons (ep_ix ix_seq d_ix (ep_var (pv 5)) (ep_var (pv 8)) (fun _ _ => rfl)) (ap_cons (ep_ix ix_seq d_ix (ep_var (pv 5)) (ep_var (pv 12)) (fun _ _ => rfl)) ap_nil))))))) ap_nil)))))
  (ss_one (ss_drop (ex_app (pv 10) (ax_cons (ex_P (ep_var (pv 11))) ax_nil))))
  ss_nil)))
  (ss_one (ss_ret (eo_X (ex_B (ep_tup (ap_cons (ep_ct call_tuple_of d_tuple (by rfl) m_tuple (by decide +kernel) (ap_cons (ep_var (pv 5)) ap_nil)) (ap_cons (ep_ct call_tuple_of d_tuple (by rfl) m_tuple (by decide +kernel) (ap_cons (ep_var (pv 7)) ap_nil)) (ap_cons (ep_ct call_tuple_of d_tuple (by rfl) m_tuple (by decide +kernel) (ap_cons (ep_f (ef_cb (cr_sortedA (room_u hr (by decide))) d_sorted (by rfl) m_sorted (by decide +kernel) (ap_cons (ep_var (pv 10)) ap_nil))) ap_nil)) ap_nil))))))))))))))))
/-! _law_common -/
abbrev st_law_common : Stmt := top 16
abbrev N_law_common : List Str := ["_law_one", "_law_other", "_law_sort"]
theorem sc_law_common : FnScope N_law_common ["_law_one", "_law_other"] (defScope st_law_common) := ⟨rfl, rfl, rfl, by decide +kernel, rfl, by decide +kernel, by decide +kernel⟩
def g_law_common : SF St2 :=
  (gRet (oP (gLc (gSrc (gOp ixD (gVar 0) (gC (.int 3)))) [2] (asgN 2) (gB (gOp inD (gVar 2) (gOp ixD (gVar 1) (gC (.int 3))))) (gVar 2))))
def F_law_common : List D → Option (MO St2) := runP 3 g_law_common
theorem ok_law_common {P : Program} {w : World} {K : PySem.W.Frag} {mg : Str → Option Value} {base : Heap} {f : Addr} {fd : FuncData} (Fn : Fun K "_law_common" "_law_common" st_law_common f fd) :
    FnG P w K mg base CX0 1 f fd ["_law_one", "_law_other"] (spP K R2i 2 F_law_common) := fn_P (k := 0) (N := N_law_common) (g := g_law_common) Fn sc_law_common fun cdv A outer s H E hr hgd => by
  have nd : N_law_common.Nodup := sc_law_common.nd
  unfold g_law_common
  exact (ss_one (ss_ret (eo_P (ef_lc (own := [("_law_sort", 2)]) tgd_name (own_name (by decide)) rfl nd (pi_any (ep_ix ix_seq d_ix (ep_var (pv 0)) ep_int (fun _ _ => rfl))) (blkOk_by (N := N_law_common) (sc := defScope st_law_common) (by decide +kernel)) (fun _ _ _ _ _ => (pg_name (i := 2) nd rfl (Or.inl rfl))) (fun _ _ _ _ _ => (pts_one (tp_cmp (o_in (room_u hr (by decide))) d_in (ep_var (pv 2)) (ep_ix ix_seq d_ix (ep_var (pv 1)) ep_int (fun _ _ => rfl)) rfl))) (fun _ _ _ _ _ => (ep_var (pv 2)))))))
/-! _law_parts -/
abbrev st_law_parts : Stmt := top 17
abbrev N_law_parts : List Str := ["_law_m", "_law_ground_here", "_law_found", "_law_left", "_law_one", "_law_some_here", "_law_way", "_law_other"]
theorem sc_law_parts : FnScope N_law_parts ["_law_m", "_law_ground_here"] (defScope st_law_parts) := ⟨rfl, rfl, rfl, by decide +kernel, rfl, by decide +kernel, by decide +kernel⟩
def g_law_parts : SF St2 :=
  (gSeq (gPar2 2 3 (oCons (oP (gLst gNil)) (oCons (oP (gListR1 (gCall (gCons (gOp ixD (gVar 1) (gC (.int 0))) gNil) lenD))) oNil)))
  (gSeq (gWhile 64 (xtP (gB (gOp neD (gVar 3) (gL (gLst gNil)))))
  (gSeq (gAsg 4 (oX (xMt 3 popAtD (xCons (xP (gC (.int 0))) xNil))))
  (gSeq (gAsg 5 (oX (xO (oB (gLc (gSrc (gVar 3)) [7] (asgN 7) (gB (gOp inD (gTup (gCons (gVar 4) (gCons (gVar 7) gNil))) (gOp ixD (gVar 1) (gC (.int 1))))) (gVar 7))))))
  (gSeq (gAsg 5 (oX (xP (gL (gLc (gSrc (gVar 5)) [7] (asgN 7) (gB (gOp neD (gCallP 2 F_law_common (gCons (gOp ixD (gOp ixD (gVar 1) (gC (.int 0))) (gVar 4)) (gCons (gOp ixD (gOp ixD (gVar 1) (gC (.int 0))) (gVar 7)) gNil))) (gL (gLst gNil)))) (gVar 7))))))
  (gSeq (gAsg 6 (oX (xO (oCallS 2 0 F_law_draw (xCons (xP (gC (.int 3))) xNil)))))
  (gIfS (xtP (gAnd (gB (gOp ltD (gVar 6) (gC (.int 2)))) (gB (gOp neD (gVar 5) (gL (gLst gNil))))))
  (gSeq (gAsg 7 (oX (xOp ixD (xP (gVar 5)) (xO (oCallS 2 0 F_law_draw (xCons (xP (gCall (gCons (gVar 5) gNil) lenD)) xNil))))))
  (gSeq (gDrop (xMt 3 remD (xCons (xP (gVar 7)) xNil)))
  (gDrop (xMt 2 appD (xCons (xP (gTup (gCons (gVar 4) (gCons (gVar 7) gNil)))) xNil)))))
  (gIfS (xOr (xtP (gB (gOp gtD (gVar 6) (gC (.int 0))))) (xBool (xOp eqD (xO (oCallS 2 0 F_law_draw (xCons (xP (gC (.int 2))) xNil))) (xP (gC (.int 0))))))
  (gDrop (xMt 2 appD (xCons (xP (gTup (gCons (gVar 4) gNil))) xNil)))
  gNext)))))))
  (gRet (oMove 2))))
def F_law_parts : St2 → List D → Option (MO St2 × St2) := runS 8 g_law_parts
theorem ok_law_parts {P : Program} {w : World} {K : PySem.W.Frag} {mg : Str → Option Value} {base : Heap} {f : Addr} {fd : FuncData} (Fn : Fun K "_law_parts" "_law_parts" st_law_parts f fd) (c_law_common : Cl P w K mg base 1 "_law_common" (spP K R2i 2 F_law_common)) (c_law_draw : Cl P w K mg base 2 "_law_draw" (spS K R2i 2 F_law_draw)) (m_len : mg "len" = none) (m_list : mg "list" = none) (m_range : mg "range" = none) :
    FnG P w K mg base CX0 3 f fd ["_law_m", "_law_ground_here"] (spS K R2i 2 F_law_parts) := fn_S (k := 2) (N := N_law_parts) (g := g_law_parts) Fn sc_law_parts fun cdv A outer s H E hr hgd => by
  have nd : N_law_parts.Nodup := sc_law_parts.nd
  unfold g_law_parts
  exact (ss_seq (ss_par2 (i := 2) (j := 3) (by decide) (by decide) rfl nd rfl rfl (by decide) rfl rfl (ao_cons (eo_P (ef_lst ap_nil)) (ao_cons (eo_P (ef_listR1 (by rfl) m_list (by rfl) m_range (ep_cb call_len d_len (by rfl) m_len (by decide +kernel) (ap_cons (ep_ix ix_seq d_ix (ep_var (pv 1)) ep_int (fun _ _ => rfl)) ap_nil)))) ao_nil)) rfl)
  (ss_seq (ss_while (xt_P (tp_cmp (o_ne (room_u hr (by decide))) d_ne (ep_var (pv 3)) (ep_f (ef_lst ap_nil)) rfl))
  (ss_seq (ss_set (by decide) nd rfl (Or.inr rfl) (eo_X (ex_pop (pv 3) (ax_cons (ex_P ep_int) ax_nil))))
  (ss_seq (ss_lcP (i := 5) (own := [("_law_other", 7)]) conv_BX (by decide) tgd_name (own_name (by decide)) rfl nd rfl rfl (sw_true rfl rfl rfl (by decide +kernel)) (pi_any (ep_var (pv 3))) (blkOk_by (N := N_law_parts) (sc := defScope st_law_parts) (by decide +kernel)) (fun _ _ _ _ _ => (pg_name (i := 7) nd rfl (Or.inl rfl))) (fun _ _ _ _ _ => (pts_one (tp_cmp (o_in (room_u hr (by decide))) d_in (ep_tup (ap_cons (ep_var (pv 4)) (ap_cons (ep_var (pv 7)) ap_nil))) (ep_ix ix_seq d_ix (ep_var (pv 1)) ep_int (fun _ _ => rfl)) rfl))) (fun _ _ _ _ _ => (ep_var (pv 7))))
  (ss_seq (ss_lcP (i := 5) (own := [("_law_other", 7)]) conv_PX (by decide) tgd_name (own_name (by decide)) rfl nd rfl rfl (sw_true rfl rfl rfl (by decide +kernel)) (pi_any (ep_var (pv 5))) (blkOk_by (N := N_law_parts) (sc := defScope st_law_parts) (by decide +kernel)) (fun _ _ _ _ _ => (pg_name (i := 7) nd rfl (Or.inl rfl))) (fun _ _ _ _ _ => (pts_one (tp_cmp (o_ne (room_u hr (by decide))) d_ne (cp_call c_law_common (by decide) hr hgd (by rfl) (ap_cons (ep_ix ix_seq d_ix (ep_ix ix_seq d_ix (ep_var (pv 1)) ep_int (fun _ _ => rfl)) (ep_var (pv 4)) (fun _ _ => rfl)) (ap_cons (ep_ix ix_seq d_ix (ep_ix ix_seq d_ix (ep_var (pv 1)) ep_int (fun _ _ => rfl)) (ep_var (pv 7)) (fun _ _ => rfl)) ap_nil))) (ep_f (ef_lst ap_nil)) rfl))) (fun _ _ _ _ _ => (ep_var (pv 7))))
  (ss_seq (ss_set (by decide) nd rfl (Or.inl rfl) (eo_X (ex_O (co_callS c_law_draw (by decide) hr hgd (by rfl) (pv 0) (ax_cons (ex_P ep_int) ax_nil)))))
  (ss_one (ss_if (xt_P (PW.pt (tw_and (tp_cmp o_lt d_lt (ep_var (pv 6)) ep_int rfl) (tw_and1 (tp_cmp (o_ne (room_u hr (by decide))) d_ne (ep_var (pv 5)) (ep_f (ef_lst ap_nil)) rfl)))))
  (ss_seq (ss_set (by decide) nd rfl (Or.inl rfl) (eo_X (ex_ix ix_seq d_ix (ex_P (ep_var (pv 5))) (ex_O (co_callS c_law_draw (by decide) hr hgd (by rfl) (pv 0) (ax_cons (ex_P (ep_cb call_len d_len (by rfl) m_len (by decide +kernel) (ap_cons (ep_var (pv 5)) ap_nil))) ax_nil))) (fun _ _ => rfl))))
  (ss_seq (ss_drop (ex_rem (pv 3) (ax_cons (ex_P (ep_var (pv 7))) ax_nil)))
  (ss_one (ss_drop (ex_app (pv 2) (ax_cons (ex_P (ep_tup (ap_cons (ep_var (pv 4)) (ap_cons (ep_var (pv 7)) ap_nil)))) ax_nil))))))
  (ss_one (ss_if (PW.pt (xw_or (xt_P (tp_cmp o_gt d_gt (ep_var (pv 6)) ep_int rfl)) (xw_or1 (xt_cmp (o_eq (room_u hr (by decide))) d_eq (ex_O (co_callS c_law_draw (by decide) hr hgd (by rfl) (pv 0) (ax_cons (ex_P ep_int) ax_nil))) (ex_P ep_int) rfl))))
  (ss_one (ss_drop (ex_app (pv 2) (ax_cons (ex_P (ep_tup (ap_cons (ep_var (pv 4)) ap_nil))) ax_nil))))
  ss_nil)))))))))
  (ss_one (ss_ret (eo_move (pv 2))))))
/-! _law_pitch -/
abbrev st_law_pitch : Stmt := top 18
abbrev N_law_pitch : List Str := ["_law_ground_here", "_law_parts_here", "_law_some_here", "_law_marks", "_law_sorts", "_law_one", "_law_part", "_law_mark", "_law_sort"]
theorem sc_law_pitch : FnScope N_law_pitch ["_law_ground_here", "_law_parts_here"] (defScope st_law_pitch) := ⟨rfl, rfl, rfl, by decide +kernel, rfl, by decide +kernel, by decide +kernel⟩
def g_law_pitch : SF St2 :=
  (gSeq (gAsg 2 (oX (xP (gL (gLc (gSrc (gVar 1)) [6] (asgN 6) gYes (gOp ixD (gOp ixD (gVar 0) (gC (.int 0))) (gVar 6)))))))
  (gSeq (gParN [3, 4] (oCons (oP (gLst gNil)) (oCons (oX (xP (gL (gArgs (gCons (gOp ixD (gOp ixD (gVar 2) (gC (.int 0))) (gC (.int 3))) gNil) listD)))) oNil)))
  (gSeq (gFor (xiP (gSrc (gVar 2))) (asgN 5)
  (gSeq (gDrop (xMt 3 extBD (xCons (xO (oB (gLc (gSrc (gOp ixD (gVar 5) (gC (.int 2)))) [7] (asgN 7) (gB (gOp ninD (gVar 7) (gVar 3))) (gVar 7)))) xNil)))
  (gAsg 4 (oX (xP (gL (gLc (gSrc (gVar 4)) [8] (asgN 8) (gB (gOp inD (gVar 8) (gOp ixD (gVar 5) (gC (.int 3))))) (gVar 8))))))))
  (gRet (oX (xB (gTup (gCons (gOp ixD (gOp ixD (gVar 2) (gC (.int 0))) (gC (.int 0))) (gCons (gCall (gCons (gC (.int 4)) (gCons (gCall (gCons (gL (gLc (gSrc (gVar 2)) [5] (asgN 5) gYes (gOp ixD (gVar 5) (gC (.int 1))))) gNil) sumD) gNil)) min2) (gCons (gCall (gCons (gSlA (gL (gArgs (gCons (gVar 3) gNil) sortedD)) gNoPart (gPart (gC (.int 3)))) gNil) tupleD) (gCons (gCall (gCons (gVar 4) gNil) tupleD) gNil)))))))))))
def F_law_pitch : List D → Option (MO St2) := runP 9 g_law_pitch
theorem ok_law_pitch {P : Program} {w : World} {K : PySem.W.Frag} {mg : Str → Option Value} {base : Heap} {f : Addr} {fd : FuncData} (Fn : Fun K "_law_pitch" "_law_pitch" st_law_pitch f fd) (m_list : mg "list" = none) (m_min : mg "min" = none) (m_sorted : mg "sorted" = none) (m_sum : mg "sum" = none) (m_tuple : mg "tuple" = none) :
    FnG P w K mg base CX0 1 f fd ["_law_ground_here", "_law_parts_here"] (spP K R2i 2 F_law_pitch) := fn_P (k := 0) (N := N_law_pitch) (g := g_law_pitch) Fn sc_law_pitch fun cdv A outer s H E hr hgd => by
  have nd : N_law_pitch.Nodup := sc_law_pitch.nd
  unfold g_law_pitch
  exact (ss_seq (ss_lcP (i := 2) (own := [("_law_part", 6)]) conv_PX (by decide) tgd_name (own_name (by decide)) rfl nd rfl rfl (sw_true rfl rfl rfl (by decide +kernel)) (pi_any (ep_var (pv 1))) (blkOk_by (N := N_law_pitch) (sc := defScope st_law_pitch) (by decide +kernel)) (fun _ _ _ _ _ => (pg_name (i := 6) nd rfl (Or.inl rfl))) (fun _ _ _ _ _ => pts_yes) (fun _ _ _ _ _ => (ep_ix ix_seq d_ix (ep_ix ix_seq d_ix (ep_var (pv 0)) ep_int (fun _ _ => rfl)) (ep_var (pv 6)) (fun _ _ => rfl))))
  (ss_seq (ss_parN (is := [3, 4]) (by decide) (ao_cons (eo_P (ef_lst ap_nil)) (ao_cons (eo_X (ex_P (ep_f (ef_ct call_list_of d_list (by rfl) m_list (by decide +kernel) (ap_cons (ep_ix ix_seq d_ix (ep_ix ix_seq d_ix (ep_var (pv 2)) ep_int (fun _ _ => rfl)) ep_int (fun _ _ => rfl)) ap_nil))))) ao_nil)) (pg_tup rfl (pgs_cons (pg_name (i := 3) nd rfl (Or.inr rfl)) (pgs_cons (pg_name (i := 4) nd rfl (Or.inl rfl)) pgs_nil))))
  (ss_seq (ss_for tgd_name (notin_own (own := [5]) (own_name (by decide)) (by decide)) rfl (xi_P (pi_any (ep_var (pv 2)))) (pg_name (i := 5) nd rfl (Or.inr rfl))
  (ss_seq (ss_drop (ex_extB (pv 3) (ax_cons (ex_O (eo_B (ef_lc (own := [("_law_mark", 7)]) tgd_name (own_name (by decide)) rfl nd (pi_any (ep_ix ix_seq d_ix (ep_var (pv 5)) ep_int (fun _ _ => rfl))) (blkOk_by (N := N_law_pitch) (sc := defScope st_law_pitch) (by decide +kernel)) (fun _ _ _ _ _ => (pg_name (i := 7) nd rfl (Or.inl rfl))) (fun _ _ _ _ _ => (pts_one (tp_cmp (o_nin (room_u hr (by decide))) d_nin (ep_var (pv 7)) (ep_var (pv 3)) rfl))) (fun _ _ _ _ _ => (ep_var (pv 7)))))) ax_nil)))
  (ss_one (ss_lcP (i := 4) (own := [("_law_sort", 8)]) conv_PX (by decide) tgd_name (own_name (by decide)) rfl nd rfl rfl (sw_true rfl rfl rfl (by decide +kernel)) (pi_any (ep_var (pv 4))) (blkOk_by (N := N_law_pitch) (sc := defScope st_law_pitch) (by decide +kernel)) (fun _ _ _ _ _ => (pg_name (i := 8) nd rfl (Or.inl rfl))) (fun _ _ _ _ _ => (pts_one (tp_cmp (o_in (room_u hr (by decide))) d_in (ep_var (pv 8)) (ep_ix ix_seq d_ix (ep_var (pv 5)) ep_int (fun _ _ => rfl)) rfl))) (fun _ _ _ _ _ => (ep_var (pv 8)))))))
  (ss_one (ss_ret (eo_X (ex_B (ep_tup (ap_cons (ep_ix ix_seq d_ix (ep_ix ix_seq d_ix (ep_var (pv 2)) ep_int (fun _ _ => rfl)) ep_int (fun _ _ => rfl)) (ap_cons (ep_cb (call_min2 rfl) d_min2 (by rfl) m_min (by decide +kernel) (ap_cons ep_int (ap_cons (ep_cb (cr_sum rfl) d_sum (by rfl) m_sum (by decide +kernel) (ap_cons (ep_f (ef_lc (own := [("_law_one", 5)]) tgd_name (own_name (by decide)) rfl nd (pi_any (ep_var (pv 2))) (blkOk_by (N := N_law_pitch) (sc := defScope st_law_pitch) (by decide +kernel)) (fun _ _ _ _ _ => (pg_name (i := 5) nd rfl (Or.inl rfl))) (fun _ _ _ _ _ => pts_yes) (fun _ _ _ _ _ => (ep_ix ix_seq d_ix (ep_var (pv 5)) ep_int (fun _ _ => rfl))))) ap_nil)) ap_nil))) (ap_cons (ep_ct call_tuple_of d_tuple (by rfl) m_tuple (by decide +kernel) (ap_cons (ep_slA (ep_f (ef_cb (cr_sortedA (room_u hr (by decide))) d_sorted (by rfl) m_sorted (by decide +kernel) (ap_cons (ep_var (pv 3)) ap_nil))) op_no (op_part ep_int)) ap_nil)) (ap_cons (ep_ct call_tuple_of d_tuple (by rfl) m_tuple (by decide +kernel) (ap_cons (ep_var (pv 4)) ap_nil)) ap_nil))))))))))))
/-! _law_due -/
abbrev st_law_due : Stmt := top 19
abbrev N_law_due : List Str := ["_law_ground_here", "_law_parts_here", "_law_near", "_law_one", "_law_other", "_law_some_here", "_law_number", "_law_k", "_law_row", "_law_pair"]
theorem sc_law_due : FnScope N_law_due ["_law_ground_here", "_law_parts_here"] (defScope st_law_due) := ⟨rfl, rfl, rfl, by decide +kernel, rfl, by decide +kernel, by decide +kernel⟩
def g_law_due : SF St2 :=
  (gSeq (gIfS (xtP (gB (gOp eqD (gVar 1) (gL (gLst gNil)))))
  (gRet (oX (xP (gC .none))))
  gNext)
  (gSeq (gAsg 2 (oP (gLst gNil)))
  (gSeq (gFor (xiP (gSrc (gOp ixD (gVar 0) (gC (.int 1))))) (asgT [3, 4])
  (gSeq (gAsg 5 (oX (xP (gL (gLc (gSrc (gTup (gCons (gVar 3) (gCons (gVar 4) gNil)))) [6] (asgN 6) gYes (gL (gLc (gArgs (gCons (gVar 1) gNil) enum2) [7, 8] (asgT [7, 8]) (gB (gOp inD (gVar 6) (gVar 8))) (gVar 7))))))))
  (gIfS (xtP (gAnd (gB (gOp neD (gOp ixD (gVar 5) (gC (.int 0))) (gL (gLst gNil)))) (gAnd (gB (gOp neD (gOp ixD (gVar 5) (gC (.int 1))) (gL (gLst gNil)))) (gB (gOp neD (gOp ixD (gVar 5) (gC (.int 0))) (gOp ixD (gVar 5) (gC (.int 1))))))))
  (gDrop (xMt 2 appD (xCons (xP (gTup (gCons (gCall (gCons (gOp addA (gOp ixD (gVar 5) (gC (.int 0))) (gOp ixD (gVar 5) (gC (.int 1)))) gNil) minL) (gCons (gCall (gCons (gOp addA (gOp ixD (gVar 5) (gC (.int 0))) (gOp ixD (gVar 5) (gC (.int 1)))) gNil) maxL) gNil)))) xNil)))
  gNext)))
  (gSeq (gAsg 2 (oB (gLc (gArgs (gCons (gVar 2) gNil) enum2) [7, 9] (asgT [7, 9]) (gB (gOp ninD (gVar 9) (gSlA (gVar 2) gNoPart (gPart (gVar 7))))) (gVar 9))))
  (gRet (oX (xB (gTup (gCons (gCall (gCons (gL (gLc (gSrc (gVar 1)) [8] (asgN 8) gYes (gCallP 2 F_law_pitch (gCons (gVar 0) (gCons (gVar 8) gNil))))) gNil) tupleD) (gCons (gCall (gCons (gL (gArgs (gCons (gVar 2) gNil) sortedD)) gNil) tupleD) (gCons (gOp ixD (gVar 0) (gC (.int 2))) gNil)))))))))))
def F_law_due : List D → Option (MO St2) := runP 10 g_law_due
theorem ok_law_due {P : Program} {w : World} {K : PySem.W.Frag} {mg : Str → Option Value} {base : Heap} {f : Addr} {fd : FuncData} (Fn : Fun K "_law_due" "_law_due" st_law_due f fd) (c_law_pitch : Cl P w K mg base 1 "_law_pitch" (spP K R2i 2 F_law_pitch)) (m_enumerate : mg "enumerate" = none) (m_max : mg "max" = none) (m_min : mg "min" = none) (m_sorted : mg "sorted" = none) (m_tuple : mg "tuple" = none) :
    FnG P w K mg base CX0 2 f fd ["_law_ground_here", "_law_parts_here"] (spP K R2i 2 F_law_due) := fn_P (k := 1) (N := N_law_due) (g := g_law_due) Fn sc_law_due fun cdv A outer s H E hr hgd => by
  have nd : N_law_due.Nodup := sc_law_due.nd
  unfold g_law_due
  exact (ss_seq (ss_if (xt_P (tp_cmp (o_eq (room_u hr (by decide))) d_eq (ep_var (pv 1)) (ep_f (ef_lst ap_nil)) rfl))
  (ss_one (ss_ret (eo_X (ex_P ep_non))))
  ss_nil)
  (ss_seq (ss_set (by decide) nd rfl (Or.inr rfl) (eo_P (ef_lst ap_nil)))
  (ss_seq (ss_for (tgd_tup (is := [3, 4])) (notin_own (own := [3, 4]) (own_tup (by decide)) (by decide)) rfl (xi_P (pi_any (ep_ix ix_seq d_ix (ep_var (pv 0)) ep_int (fun _ _ => rfl)))) (pg_tup rfl (pgs_cons (pg_name (i := 3) nd rfl (Or.inl rfl)) (pgs_cons (pg_name (i := 4) nd rfl (Or.inl rfl)) pgs_nil)))
  (ss_seq (ss_lcP (i := 5) (own := [("_law_number", 6)]) conv_PX (by decide) tgd_name (own_name (by decide)) rfl nd rfl rfl (sw_true rfl rfl rfl (by decide +kernel)) (pi_any (ep_tup (ap_cons (ep_var (pv 3)) (ap_cons (ep_var (pv 4)) ap_nil)))) (blkOk_by (N := N_law_due) (sc := defScope st_law_due) (by decide +kernel)) (fun _ _ _ _ _ => (pg_name (i := 6) nd rfl (Or.inr rfl))) (fun _ _ _ _ _ => pts_yes) (fun _ _ _ _ _ => (ep_f (ef_lc (own := [("_law_k", 7), ("_law_row", 8)]) (tgd_tup (is := [7, 8])) (own_tup (by decide)) rfl nd (pi_en2 (by rfl) m_enumerate (ap_cons (ep_var (pv 1)) ap_nil)) (blkOk_by (N := N_law_due) (sc := relS (mkS [(".0", .local), ("_law_number", .cell), ("enumerate", .globalImplicit), ("_law_parts_here", .free)]) (defScope st_law_due)) (by decide +kernel)) (fun _ _ _ _ _ => (pg_tup rfl (pgs_cons (pg_name (i := 7) nd rfl (Or.inl rfl)) (pgs_cons (pg_name (i := 8) nd rfl (Or.inl rfl)) pgs_nil)))) (fun _ _ _ _ _ => (pts_one (tp_cmp (o_in (room_u hr (by decide))) d_in (ep_var (pv 6)) (ep_var (pv 8)) rfl))) (fun _ _ _ _ _ => (ep_var (pv 7)))))))
  (ss_one (ss_if (xt_P (PW.pt (tw_and (tp_cmp (o_ne (room_u hr (by decide))) d_ne (ep_ix ix_seq d_ix (ep_var (pv 5)) ep_int (fun _ _ => rfl)) (ep_f (ef_lst ap_nil)) rfl) (tw_and (tp_cmp (o_ne (room_u hr (by decide))) d_ne (ep_ix ix_seq d_ix (ep_var (pv 5)) ep_int (fun _ _ => rfl)) (ep_f (ef_lst ap_nil)) rfl) (tw_and1 (tp_cmp (o_ne (room_u hr (by decide))) d_ne (ep_ix ix_seq d_ix (ep_var (pv 5)) ep_int (fun _ _ => rfl)) (ep_ix ix_seq d_ix (ep_var (pv 5)) ep_int (fun _ _ => rfl)) rfl))))))
  (ss_one (ss_drop (ex_app (pv 2) (ax_cons (ex_P (ep_tup (ap_cons (ep_cb (cr_min rfl) d_minL (by rfl) m_min (by decide +kernel) (ap_cons (ep_bin o_addA d_addA (ep_ix ix_seq d_ix (ep_var (pv 5)) ep_int (fun _ _ => rfl)) (ep_ix ix_seq d_ix (ep_var (pv 5)) ep_int (fun _ _ => rfl))) ap_nil)) (ap_cons (ep_cb (cr_max rfl) d_maxL (by rfl) m_max (by decide +kernel) (ap_cons (ep_bin o_addA d_addA (ep_ix ix_seq d_ix (ep_var (pv 5)) ep_int (fun _ _ => rfl)) (ep_ix ix_seq d_ix (ep_var (pv 5)) ep_int (fun _ _ => rfl))) ap_nil)) ap_nil)))) ax_nil))))
  ss_nil))))
  (ss_seq (ss_set (by decide) nd rfl (Or.inr rfl) (eo_B (ef_lc (own := [("_law_k", 7), ("_law_pair", 9)]) (tgd_tup (is := [7, 9])) (own_tup (by decide)) rfl nd (pi_en2 (by rfl) m_enumerate (ap_cons (ep_var (pv 2)) ap_nil)) (blkOk_by (N := N_law_due) (sc := defScope st_law_due) (by decide +kernel)) (fun _ _ _ _ _ => (pg_tup rfl (pgs_cons (pg_name (i := 7) nd rfl (Or.inl rfl)) (pgs_cons (pg_name (i := 9) nd rfl (Or.inl rfl)) pgs_nil)))) (fun _ _ _ _ _ => (pts_one (tp_cmp (o_nin (room_u hr (by decide))) d_nin (ep_var (pv 9)) (ep_slA (ep_var (pv 2)) op_no (op_part (ep_var (pv 7)))) rfl))) (fun _ _ _ _ _ => (ep_var (pv 9))))))
  (ss_one (ss_ret (eo_X (ex_B (ep_tup (ap_cons (ep_ct call_tuple_of d_tuple (by rfl) m_tuple (by decide +kernel) (ap_cons (ep_f (ef_lc (own := [("_law_row", 8)]) tgd_name (own_name (by decide)) rfl nd (pi_any (ep_var (pv 1))) (blkOk_by (N := N_law_due) (sc := defScope st_law_due) (by decide +kernel)) (fun _ _ _ _ _ => (pg_name (i := 8) nd rfl (Or.inl rfl))) (fun _ _ _ _ _ => pts_yes) (fun _ _ _ _ _ => (cp_call c_law_pitch (by decide) hr hgd (by rfl) (ap_cons (ep_var (pv 0)) (ap_cons (ep_var (pv 8)) ap_nil)))))) ap_nil)) (ap_cons (ep_ct call_tuple_of d_tuple (by rfl) m_tuple (by decide +kernel) (ap_cons (ep_f (ef_cb (cr_sortedA (room_u hr (by decide))) d_sorted (by rfl) m_sorted (by decide +kernel) (ap_cons (ep_var (pv 2)) ap_nil))) ap_nil)) (ap_cons (ep_ix ix_seq d_ix (ep_var (pv 0)) ep_int (fun _ _ => rfl)) ap_nil))))))))))))
/-! law -/
abbrev st_law : Stmt := top 20
abbrev N_law : List Str := ["_law_script", "_law_m", "_law_turn", "_law_ground_here", "_law_parts_here", "_law_alone", "_law_some_here", "_law_handed", "_law_kept", "_law_number"]
theorem sc_law : FnScope N_law ["_law_script"] (defScope st_law) := ⟨rfl, rfl, rfl, by decide +kernel, rfl, by decide +kernel, by decide +kernel⟩
def g_law : SF St2 :=
  (gSeq (gAsg 1 (oCallC 1 0 F_law_begun xNil))
  (gSeq (gFor (xiP (gArgs (gCons (gC (.int 6)) gNil) rng1)) (asgN 2)
  (gSeq (gAsg 3 (oX (xO (oCallS 2 1 F_law_ground (xCons (xP (gC (.int 8))) xNil)))))
  (gSeq (gAsg 4 (oX (xO (oCallS 2 1 F_law_parts (xCons (xP (gVar 3)) xNil)))))
  (gSeq (gAsg 5 (oX (xP (gL (gLc (gArgs (gCons (gCall (gCons (gOp ixD (gVar 3) (gC (.int 0))) gNil) lenD) gNil) rng1) [9] (asgN 9) gYes (gTup (gCons (gVar 9) gNil)))))))
  (gSeq (gFor (xiP (gSrc (gTup (gCons (gVar 4) (gCons (gVar 5) (gCons (gSlA (gVar 4) (gPart (gC (.int 1))) gNoPart) (gCons (gL (gLst gNil)) gNil))))))) (asgN 6)
  (gSeq (gPar2 7 8 (oCons (oX (xP (gL (gArgs (gCons (gVar 6) gNil) listD)))) (oCons (oX (xP (gCall (gCons (gL (gLst (gCons (gVar 3) (gCons (gVar 6) gNil)))) gNil) reprD))) oNil)))
  (gIfS (xtP (gOr (gB (gOp neD (gCall (gCons (gCallP 2 F_day_ground (gCons (gVar 3) (gCons (gVar 7) gNil))) gNil) reprD) (gCall (gCons (gCallP 2 F_law_due (gCons (gVar 3) (gCons (gVar 6) gNil))) gNil) reprD))) (gB (gOp neD (gCall (gCons (gL (gLst (gCons (gVar 3) (gCons (gVar 7) gNil)))) gNil) reprD) (gVar 8)))))
  (gRet (oX (xP (gC (.bool false)))))
  gNext)))
  (gIfS (xtP (gB (gOp neD (gCallP 2 F_day_ground (gCons (gVar 3) (gCons (gVar 5) gNil))) (gVar 3))))
  (gRet (oX (xP (gC (.bool false)))))
  gNext))))))
  (gRet (oX (xP (gC (.bool true)))))))
def F_law : List Int → List D → Option (MO St2) := runC 10 g_law
theorem ok_law {P : Program} {w : World} {K : PySem.W.Frag} {mg : Str → Option Value} {base : Heap} {f : Addr} {fd : FuncData} (Fn : Fun K "law" "law" st_law f fd) (c_law_begun : Cl P w K mg base 2 "_law_begun" (spC K R2i 1 F_law_begun)) (c_law_ground : Cl P w K mg base 4 "_law_ground" (spS K R2i 2 F_law_ground)) (c_law_parts : Cl P w K mg base 3 "_law_parts" (spS K R2i 2 F_law_parts)) (c_day_ground : Cl P w K mg base 3 "day_ground" (spP K R2i 2 F_day_ground)) (c_law_due : Cl P w K mg base 2 "_law_due" (spP K R2i 2 F_law_due)) (m_len : mg "len" = none) (m_list : mg "list" = none) (m_range : mg "range" = none) (m_repr : mg "repr" = none) :
    FnG P w K mg base CX0 5 f fd ["_law_script"] (spC K R2i 1 F_law) := fn_C (k := 4) (N := N_law) (g := g_law) Fn sc_law fun cdv A outer s H E hr hgd => by
  have nd : N_law.Nodup := sc_law.nd
  unfold g_law
  exact (ss_seq (ss_set (by decide) nd rfl (Or.inl rfl) (co_callC c_law_begun (by decide) hr hgd (by rfl) (pv 0) ax_nil))
  (ss_seq (ss_for tgd_name (notin_own (own := [2]) (own_name (by decide)) (by decide)) rfl (xi_P (pi_r1 (by rfl) m_range (ap_cons ep_int ap_nil))) (pg_name (i := 2) nd rfl (Or.inl rfl))
  (ss_seq (ss_set (by decide) nd rfl (Or.inl rfl) (eo_X (ex_O (co_callS c_law_ground (by decide) hr hgd (by rfl) (pv 1) (ax_cons (ex_P ep_int) ax_nil)))))
  (ss_seq (ss_set (by decide) nd rfl (Or.inl rfl) (eo_X (ex_O (co_callS c_law_parts (by decide) hr hgd (by rfl) (pv 1) (ax_cons (ex_P (ep_var (pv 3))) ax_nil)))))
  (ss_seq (ss_lcP (i := 5) (own := [("_law_number", 9)]) conv_PX (by decide) tgd_name (own_name (by decide)) rfl nd rfl rfl (sw_true rfl rfl rfl (by decide +kernel)) (pi_r1 (by rfl) m_range (ap_cons (ep_cb call_len d_len (by rfl) m_len (by decide +kernel) (ap_cons (ep_ix ix_seq d_ix (ep_var (pv 3)) ep_int (fun _ _ => rfl)) ap_nil)) ap_nil)) (blkOk_by (N := N_law) (sc := defScope st_law) (by decide +kernel)) (fun _ _ _ _ _ => (pg_name (i := 9) nd rfl (Or.inl rfl))) (fun _ _ _ _ _ => pts_yes) (fun _ _ _ _ _ => (ep_tup (ap_cons (ep_var (pv 9)) ap_nil))))
  (ss_seq (ss_for tgd_name (notin_own (own := [6]) (own_name (by decide)) (by decide)) rfl (xi_P (pi_any (ep_tup (ap_cons (ep_var (pv 4)) (ap_cons (ep_var (pv 5)) (ap_cons (ep_slA (ep_var (pv 4)) (op_part ep_int) op_no) (ap_cons (ep_f (ef_lst ap_nil)) ap_nil))))))) (pg_name (i := 6) nd rfl (Or.inl rfl))
  (ss_seq (ss_par2 (i := 7) (j := 8) (by decide) (by decide) rfl nd rfl rfl (by decide) rfl rfl (ao_cons (eo_X (ex_P (ep_f (ef_ct call_list_of d_list (by rfl) m_list (by decide +kernel) (ap_cons (ep_var (pv 6)) ap_nil))))) (ao_cons (eo_X (ex_P (ep_cb (call_reprD (room_u hr (by decide)) hgd) d_repr (by rfl) m_repr (by decide +kernel) (ap_cons (ep_f (ef_lst (ap_cons (ep_var (pv 3)) (ap_cons (ep_var (pv 6)) ap_nil)))) ap_nil)))) ao_nil)) rfl)
  (ss_one (ss_if (xt_P (PW.pt (tw_or (tp_cmp (o_ne (room_u hr (by decide))) d_ne (ep_cb (call_reprD (room_u hr (by decide)) hgd) d_repr (by rfl) m_repr (by decide +kernel) (ap_cons (cp_call c_day_ground (by decide) hr hgd (by rfl) (ap_cons (ep_var (pv 3)) (ap_cons (ep_var (pv 7)) ap_nil))) ap_nil)) (ep_cb (call_reprD (room_u hr (by decide)) hgd) d_repr (by rfl) m_repr (by decide +kernel) (ap_cons (cp_call c_law_due (by decide) hr hgd (by rfl) (ap_cons (ep_var (pv 3)) (ap_cons (ep_var (pv 6)) ap_nil))) ap_nil)) rfl) (tw_or1 (tp_cmp (o_ne (room_u hr (by decide))) d_ne (ep_cb (call_reprD (room_u hr (by decide)) hgd) d_repr (by rfl) m_repr (by decide +kernel) (ap_cons (ep_f (ef_lst (ap_cons (ep_var (pv 3)) (ap_cons (ep_var (pv 7)) ap_nil)))) ap_nil)) (ep_var (pv 8)) rfl)))))
  (ss_one (ss_ret (eo_X (ex_P ep_bl))))
  ss_nil))))
  (ss_one (ss_if (xt_P (tp_cmp (o_ne (room_u hr (by decide))) d_ne (cp_call c_day_ground (by decide) hr hgd (by rfl) (ap_cons (ep_var (pv 3)) (ap_cons (ep_var (pv 5)) ap_nil))) (ep_var (pv 3)) rfl))
  (ss_one (ss_ret (eo_X (ex_P ep_bl))))
  ss_nil)))))))
  (ss_one (ss_ret (eo_X (ex_P ep_bl))))))
end LAW
set_option Elab.async false
set_option linter.all false
set_option maxRecDepth 100000
set_option maxHeartbeats 4000000
namespace DL
open PySem PySem.Spec PyProof.Rows L2
/-! ### how readings are worked out -/
section
variable {S : Type} {ds ds1 ds2 : DS S} {α : Type}
theorem runP_ev {n : Nat} {g : SF S} {as : List D} {o : Out S} {p : MO S × DS S} (h : g (startD n (as.map .d)) = some o) (e : outM o = some p) : runP n g as = some p.1 := by
  unfold runP; rw [h, Option.bind_some, e]; rfl
theorem runS_ev {n : Nat} {g : SF S} {s s' : S} {as : List D} {o : Out S} {p : MO S × DS S} (h : g (startD n (.st s :: as.map .d)) = some o) (e : outM o = some p) (e2 : stAt p.2 0 = some s') : runS n g s as = some (p.1, s') := by
  unfold runS; rw [h, Option.bind_some, e, Option.bind_some, e2]; rfl
theorem runC_ev {n : Nat} {g : SF S} {ns : List Int} {as : List D} {o : Out S} {p : MO S × DS S} (h : g (startD n (.scr ns :: as.map .d)) = some o) (e : outM o = some p) : runC n g ns as = some p.1 := by
  unfold runC; rw [h, Option.bind_some, e]; rfl
theorem seq_ev {g h : SF S} {o : Out S} (e1 : g ds = some (.nx ds1)) (e2 : h ds1 = some o) : gSeq g h ds = some o := by
  unfold gSeq; rw [e1]; exact e2
theorem seq_rt {g h : SF S} {m : MO S} (e1 : g ds = some (.rt m ds1)) : gSeq g h ds = some (.rt m ds1) := by
  unfold gSeq; rw [e1]; rfl
theorem seq_ct {g h : SF S} (e1 : g ds = some (.ct ds1)) : gSeq g h ds = some (.ct ds1) := by
  unfold gSeq; rw [e1]; rfl
theorem ret_ev {f : XF S (MO S)} {m : MO S} (e : f ds = some (m, ds1)) : gRet f ds = some (.rt m ds1) := by
  unfold gRet; rw [e]; rfl
theorem asg_ev {i : Nat} {f : XF S (MO S)} {m : MO S} (e : f ds = some (m, ds1)) : gAsg i f ds = some (.nx (ds1.set i (some m))) := by
  unfold gAsg; rw [e]; rfl
theorem drop_ev {f : XF S D} {d : D} (e : f ds = some (d, ds1)) : gDrop f ds = some (.nx ds1) := by
  unfold gDrop; rw [e]; rfl
theorem ifT_ev {c : XF S Bool} {g h : SF S} {o : Out S} (e : c ds = some (true, ds1)) (e2 : g ds1 = some o) : gIfS c g h ds = some o := by
  unfold gIfS; rw [e]; exact e2
theorem ifF_ev {c : XF S Bool} {g h : SF S} {o : Out S} (e : c ds = some (false, ds1)) (e2 : h ds1 = some o) : gIfS c g h ds = some o := by
  unfold gIfS; rw [e]; exact e2
theorem for_ev {src : XF S (List D)} {t : D → Option (List (Nat × D))} {b : SF S} {xs : List D} {o : Out S} (e : src ds = some (xs, ds1)) (e2 : forRun t b xs ds1 = some o) : gFor src t b ds = some o := by
  unfold gFor; rw [e]; exact e2
theorem xb_ev {β : Type} {f : XF S α} {k : α → XF S β} {x : α} {y : β × DS S} (e : f ds = some (x, ds1)) (e2 : k x ds1 = some y) : xb f k ds = some y := by
  unfold xb; rw [e]; exact e2
theorem xlift_ev {o : Option α} {x : α} (e : o = some x) : xlift o ds = some (x, ds) := by
  unfold xlift; rw [e]; rfl
theorem xP_ev {g : DS S → Option D} {d : D} (e : g (hideDS ds) = some d) : xP g ds = some (d, ds) := by unfold xP; rw [e]; rfl
theorem xB_ev {g : DS S → Option D} {d : D} (e : g ds = some d) (n : noList d = true) : xB g ds = some (d, ds) := by unfold xB; rw [e, Option.bind_some, if_pos n]
theorem oP_ev {g : DS S → Option (List D)} {xs : List D} (e : g (hideDS ds) = some xs) : oP g ds = some (.lst xs, ds) := by unfold oP; rw [e]; rfl
theorem oB_ev {g : DS S → Option (List D)} {xs : List D} (e : g ds = some xs) (n : noListAll xs = true) : oB g ds = some (.lst xs, ds) := by unfold oB; rw [e, Option.bind_some, if_pos n]
theorem oX_ev {f : XF S D} {d : D} (e : f ds = some (d, ds1)) : oX f ds = some (.d d, ds1) := by unfold oX; rw [e]; rfl
theorem xOl_ev {f : XF S (MO S)} {xs : List D} (e : f ds = some (.lst xs, ds1)) : xO f ds = some (.list xs, ds1) := by unfold xO; rw [e]
theorem xOd_ev {f : XF S (MO S)} {d : D} (e : f ds = some (.d d, ds1)) : xO f ds = some (d, ds1) := by unfold xO; rw [e]
theorem xtP_ev {h : DS S → Option Bool} {b : Bool} (e : h ds = some b) : xtP h ds = some (b, ds) := by unfold xtP; rw [e]; rfl
theorem xiP_ev {g : DS S → Option (List D)} {xs : List D} (e : g (hideDS ds) = some xs) : xiP g ds = some (xs, ds) := by unfold xiP; rw [e]; rfl
theorem op_ev {g : D → D → Option D} {a b : DS S → Option D} {x y z : D} (e1 : a ds = some x) (e2 : b ds = some y) (e3 : g x y = some z) : gOp g a b ds = some z := by unfold gOp; rw [e1, Option.bind_some, e2]; exact e3
theorem op2_ev {g : D → D → Option D} {a b : DS S → Option D} {x y z : D} (e1 : a ds = some x) (e2 : b ds = some y) (e3 : g x y = some z) : gOp2 g a b ds = some z := by unfold gOp2; rw [e1, Option.bind_some, e2]; exact e3
theorem un_ev {g : D → Option D} {a : DS S → Option D} {x z : D} (e1 : a ds = some x) (e3 : g x = some z) : gUn g a ds = some z := by unfold gUn; rw [e1]; exact e3
theorem L_ev {g : DS S → Option (List D)} {xs : List D} (e : g ds = some xs) : gL g ds = some (.list xs) := by unfold gL; rw [e]; rfl
theorem B_ev {g : DS S → Option D} {b : Bool} (e : g ds = some (.bool b)) : gB g ds = some b := by unfold gB; rw [e]
theorem Tr_ev {g : DS S → Option D} {d : D} {b : Bool} (e : g ds = some d) (e2 : truD d = some b) : gTr g ds = some b := by unfold gTr; rw [e]; exact e2
theorem Not_ev {g : DS S → Option Bool} {b : Bool} (e : g ds = some b) : gNot g ds = some (!b) := by unfold gNot; rw [e]; rfl
theorem And_ev {g h : DS S → Option Bool} {a b : Bool} (e : g ds = some a) (e2 : a = true → h ds = some b) (e3 : a = false → b = false) : gAnd g h ds = some b := by
  unfold gAnd; rw [e]
  cases a with
  | true => exact e2 rfl
  | false => rw [e3 rfl]; rfl
theorem Or_ev {g h : DS S → Option Bool} {a b : Bool} (e : g ds = some a) (e2 : a = false → h ds = some b) (e3 : a = true → b = true) : gOr g h ds = some b := by
  unfold gOr; rw [e]
  cases a with
  | false => exact e2 rfl
  | true => rw [e3 rfl]; rfl
theorem Chain_ev {g g' : D → D → Option D} {a b c : DS S → Option D} {x y u : D} {p q : Bool} (e1 : a ds = some x) (e2 : b ds = some y) (e3 : g x y = some (.bool p)) (e4 : p = true → c ds = some u) (e5 : p = true → g' y u = some (.bool q)) (e6 : p = false → q = false) : gChain g g' a b c ds = some (.bool q) := by
  unfold gChain
  rw [e1, Option.bind_some, e2, Option.bind_some, e3, Option.bind_some]
  cases p with
  | true => dsimp only; rw [e4 rfl]; exact e5 rfl
  | false => rw [e6 rfl]
theorem Nil_ev : gNil ds = some [] := rfl
theorem Cons_ev {g : DS S → Option D} {r : DS S → Option (List D)} {x : D} {xs : List D} (e1 : g ds = some x) (e2 : r ds = some xs) : gCons g r ds = some (x :: xs) := by unfold gCons; rw [e1, Option.bind_some, e2]; rfl
theorem Tup_ev {g : DS S → Option (List D)} {xs : List D} (e : g ds = some xs) (z : xs.length ≤ sizeLine) : gTup g ds = some (.tuple xs) := by unfold gTup; rw [e, Option.bind_some, if_pos z]
theorem Lst_ev {g : DS S → Option (List D)} {xs : List D} (e : g ds = some xs) (z : xs.length ≤ sizeLine) : gLst g ds = some xs := by unfold gLst; rw [e, Option.bind_some, if_pos z]
theorem CallP_ev {n : Nat} {F : List D → Option (MO S)} {g : DS S → Option (List D)} {as : List D} {m : MO S} {d : D} (e : g ds = some as) (n1 : as.length = n) (e2 : F as = some m) (e3 : toD m = some d) : gCallP n F g ds = some d := by unfold gCallP; rw [e, Option.bind_some, if_pos n1, e2]; exact e3
theorem Call_ev {g : DS S → Option (List D)} {f : List D → Option D} {as : List D} {d : D} (e : g ds = some as) (e2 : f as = some d) : gCall g f ds = some d := by unfold gCall; rw [e]; exact e2
theorem Args_ev {g : DS S → Option (List D)} {f : List D → Option (List D)} {as xs : List D} (e : g ds = some as) (e2 : f as = some xs) : gArgs g f ds = some xs := by unfold gArgs; rw [e]; exact e2
theorem Src_ev {g : DS S → Option D} {d : D} {xs : List D} (e : g ds = some d) (e2 : srcD d = some xs) : gSrc g ds = some xs := by unfold gSrc; rw [e]; exact e2
theorem If_ev {c : DS S → Option Bool} {a b : DS S → Option D} {k : Bool} {x : D} (e : c ds = some k) (e1 : k = true → a ds = some x) (e2 : k = false → b ds = some x) : gIf c a b ds = some x := by
  unfold gIf; rw [e]
  cases k with
  | true => exact e1 rfl
  | false => exact e2 rfl
theorem SlA_ev {a : DS S → Option D} {l h : DS S → Option (Option Int)} {x d : D} {lo hi : Option Int} (e : a ds = some x) (e1 : l ds = some lo) (e2 : h ds = some hi) (e3 : slA x lo hi = some d) : gSlA a l h ds = some d := by unfold gSlA; rw [e, Option.bind_some, e1, Option.bind_some, e2]; exact e3
theorem Part_ev {g : DS S → Option D} {i : Int} (e : g ds = some (.int i)) : gPart g ds = some (some i) := by unfold gPart; rw [e]
theorem asgT_ev {t : D → Option (List (Nat × D))} {f : XF S D} {d : D} {as : List (Nat × D)} (e : f ds = some (d, ds1)) (e2 : t d = some as) : gAsgT t f ds = some (.nx (setD ds1 as)) := by unfold gAsgT; rw [e, Option.bind_some]; dsimp only; rw [e2]; rfl
theorem NotV_ev {g : DS S → Option D} {d : D} {b : Bool} (e : g ds = some d) (e2 : truD d = some b) : gNotV g ds = some (.bool (!b)) := by unfold gNotV; rw [e, Option.bind_some, e2]; rfl
theorem parN_ev {is : List Nat} {f : XF S (List (MO S))} {ms : List (MO S)} (e : f ds = some (ms, ds1)) (n1 : ms.length = is.length) (n2 : ms.length ≤ sizeLine) : gParN is f ds = some (.nx (setM ds1 is ms)) := by unfold gParN; rw [e, Option.bind_some]; dsimp only; rw [if_pos ⟨n1, n2⟩]
theorem oCons_ev {f : XF S (MO S)} {r : XF S (List (MO S))} {m : MO S} {ms : List (MO S)} (e1 : f ds = some (m, ds1)) (e2 : r ds1 = some (ms, ds2)) : oCons f r ds = some (m :: ms, ds2) := xb_ev e1 (xb_ev e2 (xlift_ev rfl))
theorem xCons_ev {f : XF S D} {r : XF S (List D)} {m : D} {ms : List D} (e1 : f ds = some (m, ds1)) (e2 : r ds1 = some (ms, ds2)) : xCons f r ds = some (m :: ms, ds2) := xb_ev e1 (xb_ev e2 (xlift_ev rfl))
theorem par2_ev {i j : Nat} {f : XF S (List (MO S))} {x y : MO S} (e : f ds = some ([x, y], ds1)) : gPar2 i j f ds = some (.nx ((ds1.set i (some x)).set j (some y))) := by unfold gPar2; rw [e]; rfl
theorem par3_ev {i j l : Nat} {f : XF S (List (MO S))} {x y z : MO S} (e : f ds = some ([x, y, z], ds1)) : gPar3 i j l f ds = some (.nx (((ds1.set i (some x)).set j (some y)).set l (some z))) := by unfold gPar3; rw [e]; rfl
theorem xTup_ev {f : XF S (List D)} {xs : List D} (e : f ds = some (xs, ds1)) (z : xs.length ≤ sizeLine) : xTup f ds = some (.tuple xs, ds1) := xb_ev e (xlift_ev (by rw [if_pos z]))
theorem xLst_ev {f : XF S (List D)} {xs : List D} (e : f ds = some (xs, ds1)) (z : xs.length ≤ sizeLine) : xLst f ds = some (.lst xs, ds1) := xb_ev e (xlift_ev (by rw [if_pos z]))
theorem xOp_ev {g : D → D → Option D} {a b : XF S D} {x y z : D} (e1 : a ds = some (x, ds1)) (e2 : b ds1 = some (y, ds2)) (e3 : g x y = some z) : xOp g a b ds = some (z, ds2) := xb_ev e1 (xb_ev e2 (xlift_ev e3))
theorem xCall_ev {f : XF S (List D)} {g : List D → Option D} {as : List D} {d : D} (e : f ds = some (as, ds1)) (e2 : g as = some d) : xCall f g ds = some (d, ds1) := xb_ev e (xlift_ev e2)
theorem xBool_ev {f : XF S D} {b : Bool} (e : f ds = some (.bool b, ds1)) : xBool f ds = some (b, ds1) := xb_ev e (xlift_ev rfl)
theorem xMt_ev {i : Nat} {g : List D → List D → Option (D × List D)} {f : XF S (List D)} {xs0 xs as ys : List D} {d : D} (e0 : lstAt ds i = some xs0) (e : f ds = some (as, ds1)) (e1 : lstAt ds1 i = some xs) (e2 : g xs as = some (d, ys)) : xMt i g f ds = some (d, ds1.set i (some (.lst ys))) := by
  unfold xMt; rw [e0, Option.bind_some]; exact xb_ev e (by rw [e1, Option.bind_some, e2]; rfl)
theorem callP_ev {n : Nat} {F : List D → Option (MO S)} {f : XF S (List D)} {as : List D} {m : MO S} (e : f ds = some (as, ds1)) (n1 : as.length = n) (e2 : F as = some m) : oCallP n F f ds = some (m, ds1) := xb_ev e (xlift_ev (by rw [if_pos n1]; exact e2))
theorem callS_ev {n i : Nat} {F : S → List D → Option (MO S × S)} {f : XF S (List D)} {s0 s s' : S} {as : List D} {m : MO S} (e0 : stAt ds i = some s0) (e : f ds = some (as, ds1)) (e1 : stAt ds1 i = some s) (n1 : as.length + 1 = n) (e2 : F s as = some (m, s')) : oCallS n i F f ds = some (m, ds1.set i (some (.st s'))) := by
  unfold oCallS; rw [e0, Option.bind_some]; exact xb_ev e (by rw [e1, Option.bind_some, if_pos n1, e2]; rfl)
/-! comprehensions -/
theorem lcRun_map {β : Type} {f : D → Option (Option D)} {enc : β → D} {h : β → Option D} : ∀ {es : List β}, (∀ e ∈ es, f (enc e) = some (h e)) → lcRun f (es.map enc) = some (es.filterMap h)
  | [], _ => rfl
  | e :: es, k => by
    rw [List.map_cons]
    unfold lcRun
    rw [k e (List.mem_cons_self ..), lcRun_map fun x hx => k x (List.mem_cons_of_mem _ hx)]
    simp only [Option.bind_some, List.filterMap_cons]
    cases h e <;> rfl
theorem Lc_ev {β : Type} {src : DS S → Option (List D)} {own : List Nat} {t : D → Option (List (Nat × D))} {h : DS S → Option Bool} {g : DS S → Option D} {es : List β} {enc : β → D} {k : β → Option D} (e : src ds = some (es.map enc)) (hk : ∀ b ∈ es, lcOne ds own t h g (enc b) = some (k b)) : gLc src own t h g ds = some (es.filterMap k) := by
  unfold gLc; rw [e]; exact lcRun_map hk
theorem One_ev {own : List Nat} {t : D → Option (List (Nat × D))} {h : DS S → Option Bool} {g : DS S → Option D} {x : D} {as : List (Nat × D)} {b : Bool} {y : D} (e1 : t x = some as) (e2 : h (setD (wipeD ds own) as) = some b) (e3 : b = true → g (setD (wipeD ds own) as) = some y) : lcOne ds own t h g x = some (if b then some y else none) := by
  unfold lcOne
  rw [e1, Option.bind_some, e2, Option.bind_some]
  cases b with
  | true => rw [if_pos rfl, e3 rfl]; rfl
  | false => rfl
/-- all are kept -/
theorem LcAll_ev {β : Type} {src : DS S → Option (List D)} {own : List Nat} {t : D → Option (List (Nat × D))} {g : DS S → Option D} {es : List β} {enc : β → D} {k : β → D} (e : src ds = some (es.map enc)) (ht : ∀ b ∈ es, ∃ as, t (enc b) = some as ∧ g (setD (wipeD ds own) as) = some (k b)) : gLc src own t gYes g ds = some (es.map k) := by
  rw [Lc_ev (k := fun b => some (k b)) e fun b hb => ?_]
  · rw [List.filterMap_eq_map']
  · obtain ⟨as, h1, h2⟩ := ht b hb
    exact One_ev (h := gYes) (b := true) h1 rfl fun _ => h2
/-- some are kept -/
theorem LcSome_ev {β : Type} {src : DS S → Option (List D)} {own : List Nat} {t : D → Option (List (Nat × D))} {h : DS S → Option Bool} {g : DS S → Option D} {es : List β} {enc : β → D} {p : β → Bool} {k : β → D} (e : src ds = some (es.map enc)) (ht : ∀ b ∈ es, ∃ as, t (enc b) = some as ∧ h (setD (wipeD ds own) as) = some (p b) ∧ (p b = true → g (setD (wipeD ds own) as) = some (k b))) : gLc src own t h g ds = some ((es.filter p).map k) := by
  rw [Lc_ev (k := fun b => if p b then some (k b) else none) e fun b hb => ?_]
  · clear ht e
    induction es with
    | nil => rfl
    | cons x xs ih =>
      rw [List.filterMap_cons, List.filter_cons]
      cases p x with
      | true => simp only [if_true, List.map_cons]; rw [Option.some.inj ih]
      | false => simp only [Bool.false_eq_true, if_false]; exact ih
  · obtain ⟨as, h1, h2, h3⟩ := ht b hb
    exact One_ev h1 h2 h3
end
end DL
set_option Elab.async false
set_option linter.all false
set_option maxRecDepth 100000
set_option maxHeartbeats 4000000
namespace LAW
open PySem PySem.Spec L2 DL PyProof.Rows
structure Pitch where
  name : Str
  size : Int
  marks : List Str
  sorts : List Str
def encP (p : Pitch) : D := .tuple [.str p.name, .int p.size, .tuple (p.marks.map .str), .tuple (p.sorts.map .str)]
structure Gd where
  ps : List Pitch
  close : List (Nat × Nat)
  bars : List D
def encC (p : Nat × Nat) : D := .tuple [.int p.1, .int p.2]
def encG (g : Gd) : D := .tuple [.tuple (g.ps.map encP), .tuple (g.close.map encC), .tuple g.bars]
inductive Ev where
  | shut (d : Int) (p : Str) (t : Int)
  | joined (d : Int) (a b : Str) (t : Int)
  | other (w : Str) (rest : List D)
def encE : Ev → D
  | .shut d p t => .tuple [.str "shut", .int d, .str p, .int t]
  | .joined d a b t => .tuple [.str "joined", .int d, .str a, .str b, .int t]
  | .other w rest => .tuple (.str w :: rest)
def okE : Ev → Prop
  | .other w _ => w ≠ ("shut" : Str) ∧ w ≠ ("joined" : Str)
  | _ => True
def nameD (p : Pitch) : D := .str p.name
theorem strNe {x y : Str} (h : x ≠ y) : (x == y) = false := by simpa using h
theorem at0 {x : D} {xs : List D} : ixD (.tuple (x :: xs)) (.int 0) = some x := by
  show atI (x :: xs) 0 = some x
  unfold atI ixN
  rw [if_pos (Int.le_refl 0), if_pos (by simp only [List.length_cons]; omega)]
  rfl
theorem leD_int (a b : Int) : leD (.int a) (.int b) = some (.bool (decide (a ≤ b))) := rfl
theorem anyEq_strs (x : Str) : ∀ ys : List Str, anyEq (.str x) (ys.map .str) = decide (x ∈ ys)
  | [] => rfl
  | y :: r => by
    show (y == x || anyEq (.str x) (r.map .str)) = _
    rw [anyEq_strs x r]
    by_cases h : y = x
    · subst h; simp
    · rw [strNe h]; simp [Ne.symm h]
theorem depth_strs : ∀ ys : List Str, PyData.depthAll (ys.map .str) ≤ 1
  | [] => by decide
  | y :: r => by
    have := depth_strs r
    simp only [List.map_cons, PyData.depthAll, PyData.depth]
    omega
theorem inT (x : Str) (ys : List Str) : inD (.str x) (.tuple (ys.map .str)) = some (.bool (decide (x ∈ ys))) := by
  show (if min (PyData.depthAll (ys.map .str)) (PyData.depth (.str x)) ≤ 64 then some (PyData.bool (anyEq (.str x) (ys.map .str))) else none) = _
  rw [if_pos (Nat.le_trans (Nat.min_le_left _ _) (Nat.le_trans (depth_strs ys) (by decide))), anyEq_strs]
theorem inL (x : Str) (ys : List Str) : inD (.str x) (.list (ys.map .str)) = some (.bool (decide (x ∈ ys))) := by
  show (if min (PyData.depthAll (ys.map .str)) (PyData.depth (.str x)) ≤ 64 then some (PyData.bool (anyEq (.str x) (ys.map .str))) else none) = _
  rw [if_pos (Nat.le_trans (Nat.min_le_left _ _) (Nat.le_trans (depth_strs ys) (by decide))), anyEq_strs]
theorem forListK {S σ β : Type} {t : D → Option (List (Nat × D))} {body : SF S} {enc : β → D} {step : σ → β → σ} (Rel : Nat → σ → DS S → Prop) : ∀ (es : List β) (k : Nat) (s : σ) (ds : DS S),
    (∀ n e, es[n]? = some e → ∀ s ds, Rel (k + n) s ds → ∃ as o, t (enc e) = some as ∧ body (setD ds as) = some o ∧ ∃ ds', (o = .nx ds' ∨ o = .ct ds') ∧ Rel (k + n + 1) (step s e) ds') → Rel k s ds → ∃ ds', forRun t body (es.map enc) ds = some (.nx ds') ∧ Rel (k + es.length) (es.foldl step s) ds'
  | [], k, s, ds, _, r => ⟨ds, rfl, r⟩
  | e :: es, k, s, ds, h, r => by
    obtain ⟨as, o, h1, h2, ds', h3, h4⟩ := h 0 e rfl s ds r
    obtain ⟨ds2, q1, q2⟩ := forListK Rel es (k + 1) (step s e) ds' (fun n x hx s ds r => by
      have e1 : k + (n + 1) = k + 1 + n := by omega
      have := h (n + 1) x (by simpa using hx) s ds (by rw [e1]; exact r)
      rw [e1] at this
      exact this) h4
    refine ⟨ds2, ?_, by rw [List.length_cons, show k + (es.length + 1) = k + 1 + es.length from by omega]; exact q2⟩
    rw [List.map_cons]
    unfold forRun
    rw [h1, Option.bind_some, h2, Option.bind_some]
    rcases h3 with rfl | rfl <;> exact q1
theorem forList {S σ β : Type} {t : D → Option (List (Nat × D))} {body : SF S} {enc : β → D} {step : σ → β → σ} (Rel : Nat → σ → DS S → Prop) (es : List β) (s : σ) (ds : DS S)
    (h : ∀ n e, es[n]? = some e → ∀ s ds, Rel n s ds → ∃ as o, t (enc e) = some as ∧ body (setD ds as) = some o ∧ ∃ ds', (o = .nx ds' ∨ o = .ct ds') ∧ Rel (n + 1) (step s e) ds') (r : Rel 0 s ds) : ∃ ds', forRun t body (es.map enc) ds = some (.nx ds') ∧ Rel es.length (es.foldl step s) ds' := by
  obtain ⟨ds', h1, h2⟩ := forListK Rel es 0 s ds (fun n e he s ds r => by rw [Nat.zero_add] at r ⊢; exact h n e he s ds r) r
  exact ⟨ds', h1, by rw [Nat.zero_add] at h2; exact h2⟩
theorem ixN_nat {n i : Nat} (h : i < n) : ixN n (i : Int) = some i := by
  unfold ixN
  rw [if_pos (by omega), if_pos (by omega)]
  rfl
theorem atI_nat' {xs : List D} {i : Nat} {x : D} (h : xs[i]? = some x) : atI xs (i : Int) = some x := by
  have hi := (List.getElem?_eq_some_iff.mp h).1
  unfold atI
  rw [ixN_nat hi, Option.bind_some]
  exact h
theorem ixT_nat {xs : List D} {i : Nat} {x : D} (h : xs[i]? = some x) : ixD (.tuple xs) (.int (i : Int)) = some x := atI_nat' h
theorem ixL_nat {xs : List D} {i : Nat} {x : D} (h : xs[i]? = some x) : ixD (.list xs) (.int (i : Int)) = some x := atI_nat' h
theorem layAll_strs : ∀ {ys : List Str}, (∀ y ∈ ys, PyData.strOk y = true) → PyData.canLayAll0 (ys.map .str) = true
  | [], _ => rfl
  | y :: r, h => by
    show (PyData.strOk y && PyData.canLayAll0 (r.map .str)) = true
    rw [h y (List.mem_cons_self ..), layAll_strs fun z hz => h z (List.mem_cons_of_mem _ hz)]
    rfl
theorem firstEq_strs (a : Str) : ∀ (ys : List Str) (k i : Nat), ys.Nodup → ys[i]? = some a → firstEq (.str a) (ys.map .str) k = some (k + i)
  | y :: r, k, 0, _, h => by
    cases h
    show (if (a == a) = true then some k else _) = _
    rw [if_pos (by simp)]
    rfl
  | y :: r, k, i + 1, hn, h => by
    have h' : r[i]? = some a := by simpa using h
    have ne : y ≠ a := fun z => by
      subst z
      exact (List.nodup_cons.mp hn).1 (List.mem_of_getElem? h')
    show (if (y == a) = true then some k else firstEq (.str a) (r.map .str) (k + 1)) = _
    rw [strNe ne, if_neg Bool.false_ne_true, firstEq_strs a r (k + 1) i (List.nodup_cons.mp hn).2 h']
    congr 1
    omega
theorem idx_str {ys : List Str} {a : Str} {i : Nat} (ok : ∀ y ∈ ys, PyData.strOk y = true) (hn : ys.Nodup) (h : ys[i]? = some a) : idxD (.list (ys.map .str)) (.str a) = some (.int (i : Int)) := by
  show (if SeqAt.shaped (.list (ys.map .str)) = true ∧ SeqAt.shaped (.str a) = true then (firstEq (.str a) (ys.map .str) 0).map (fun j => PyData.int (j : Nat)) else none) = _
  have h1 : SeqAt.shaped (.list (ys.map PyData.str)) = true := by
    unfold SeqAt.shaped
    rw [Bool.and_eq_true]
    refine ⟨by show PyData.canLayAll0 _ = true; exact layAll_strs ok, decide_eq_true ?_⟩
    have := depth_strs ys
    simp only [PyData.depth]
    omega
  have h2 : SeqAt.shaped (.str a) = true := by
    unfold SeqAt.shaped
    rw [Bool.and_eq_true]
    exact ⟨ok a (List.mem_of_getElem? h), rfl⟩
  rw [if_pos ⟨h1, h2⟩, firstEq_strs a ys 0 i hn h]
  simp
theorem neL_strs (l : List Str) : neD (.list (l.map .str)) (.list []) = some (.bool (!l.isEmpty)) := by
  unfold neD
  rw [if_pos (Nat.le_trans (Nat.min_le_right _ _) (by decide))]
  cases l with
  | nil => rfl
  | cons x r => rfl
def encN (p : Str × Nat) : D := .tuple [.int (p.2 : Nat), .str p.1]
theorem enumD_names : ∀ (ys : List Str) (k : Nat), enumD k (ys.map .str) = (ys.zipIdx k).map encN
  | [], _ => rfl
  | y :: r, k => by
    rw [List.map_cons, List.zipIdx_cons, List.map_cons, ← enumD_names r (k + 1)]
    rfl
theorem ninS (x : Str) (ys : List Str) : ninD (.str x) (.list (ys.map .str)) = some (.bool (!decide (x ∈ ys))) := by
  show (if min (PyData.depthAll (ys.map .str)) (PyData.depth (.str x)) ≤ 64 then some (PyData.bool (!anyEq (.str x) (ys.map .str))) else none) = _
  rw [if_pos (Nat.le_trans (Nat.min_le_left _ _) (Nat.le_trans (depth_strs ys) (by decide))), anyEq_strs]
theorem anyEq_ints (x : Int) : ∀ ys : List Int, anyEq (.int x) (ys.map .int) = decide (x ∈ ys)
  | [] => rfl
  | y :: r => by
    show (y == x || anyEq (.int x) (r.map .int)) = _
    rw [anyEq_ints x r]
    by_cases h : y = x
    · subst h; simp
    · have h' : (y == x) = false := by simpa using h
      rw [h']; simp [Ne.symm h]
theorem depth_ints : ∀ ys : List Int, PyData.depthAll (ys.map .int) ≤ 1
  | [] => by decide
  | y :: r => by
    have := depth_ints r
    simp only [List.map_cons, PyData.depthAll, PyData.depth]
    omega
theorem ninI (x : Int) (ys : List Int) : ninD (.int x) (.list (ys.map .int)) = some (.bool (!decide (x ∈ ys))) := by
  show (if min (PyData.depthAll (ys.map .int)) (PyData.depth (.int x)) ≤ 64 then some (PyData.bool (!anyEq (.int x) (ys.map .int))) else none) = _
  rw [if_pos (Nat.le_trans (Nat.min_le_left _ _) (Nat.le_trans (depth_ints ys) (by decide))), anyEq_ints]
theorem inI (x : Int) (ys : List Int) : inD (.int x) (.list (ys.map .int)) = some (.bool (decide (x ∈ ys))) := by
  show (if min (PyData.depthAll (ys.map .int)) (PyData.depth (.int x)) ≤ 64 then some (PyData.bool (anyEq (.int x) (ys.map .int))) else none) = _
  rw [if_pos (Nat.le_trans (Nat.min_le_left _ _) (Nat.le_trans (depth_ints ys) (by decide))), anyEq_ints]
theorem app_ev {xs : List D} {x : D} (h : xs.length < sizeLine) : appD xs [x] = some (.none, xs ++ [x]) := by
  unfold appD; dsimp only; rw [if_pos h]
theorem zip_get {ys : List Str} {x : Str} {q n : Nat} (h : ys.zipIdx[n]? = some (x, q)) : q = n ∧ ys[n]? = some x := by
  rw [List.getElem?_zipIdx] at h
  cases e : ys[n]? with
  | none => rw [e] at h; cases h
  | some y =>
    rw [e] at h
    simp only [Option.map_some, Option.some.injEq, Prod.mk.injEq] at h
    exact ⟨by omega, by rw [h.1]⟩
end LAW
set_option Elab.async false
set_option linter.all false
set_option maxRecDepth 100000
set_option maxHeartbeats 4000000
namespace LAW
open PySem PySem.Spec L2 DL PyProof.Rows
theorem mul_r {i j : Int} (h1 : -(2 ^ 64) < j) (h2 : j < 2 ^ 64) : mulD (.int i) (.int j) = some (.int (i * j)) := by unfold mulD; dsimp only; rw [if_pos (.inr ⟨h1, h2⟩)]
theorem mul_l {i j : Int} (h1 : -(2 ^ 64) < i) (h2 : i < 2 ^ 64) : mulD (.int i) (.int j) = some (.int (i * j)) := by unfold mulD; dsimp only; rw [if_pos (.inl ⟨h1, h2⟩)]
theorem div_ok {i j : Int} (h1 : 0 < j) (h2 : j < 2 ^ 100) : divD (.int i) (.int j) = some (.int (i / j)) := by
  have h3 : j.natAbs < 2 ^ 100 := by omega
  have h4 : j.natAbs.log2 < 100 := (Nat.log2_lt (by omega)).mpr h3
  have h5 : j.natAbs.log2 < 9000 := Nat.lt_trans h4 (by decide)
  unfold divD
  dsimp only
  rw [if_pos ⟨h1, h5⟩]
theorem mod_ok {i j : Int} (h1 : 0 < j) : modD (.int i) (.int j) = some (.int (i % j)) := by unfold modD; dsimp only; rw [if_pos h1]
theorem add_ii {i j : Int} : addA (.int i) (.int j) = some (.int (i + j)) := rfl
theorem sub_ii {i j : Int} : subD (.int i) (.int j) = some (.int (i - j)) := rfl
theorem mixed_ok (c k : Int) (h0 : 0 ≤ k) (h1 : k < 2 ^ 50) : ∃ r : Int, F_law_mixed [.int c, .int k] = some (.d (.int r)) := by
  unfold F_law_mixed g_law_mixed
  refine ⟨_, runP_ev (seq_ev (asg_ev (oX_ev (xP_ev (op_ev (op_ev rfl rfl (div_ok (by decide) (by decide))) (op_ev rfl rfl add_ii) (mul_r (by omega) (by omega)))))) (seq_ev (asg_ev (oX_ev (xP_ev (op_ev (op_ev (op_ev (op_ev (op_ev (op_ev rfl rfl add_ii) (op_ev (op_ev rfl rfl (mul_l (by decide) (by decide))) rfl (mul_r (by omega) (by omega))) add_ii) (op_ev rfl rfl (mul_l (by decide) (by decide))) add_ii) rfl add_ii) rfl (mul_r (by decide) (by decide))) rfl (mod_ok (by decide)))))) (ret_ev (oX_ev (xP_ev (op_ev (op_ev (op_ev rfl rfl (mul_r (by decide) (by decide))) rfl (mod_ok (by decide))) rfl (div_ok (by decide) (by decide)))))))) rfl⟩
/-- so many numbers may yet be drawn -/
def Wf (b : Nat) (s : St2) : Prop := ∃ cells left k, s = .draw cells left k ∧ cells.length = 61 ∧ left.length ≤ 1000 ∧ 0 ≤ k ∧ k + b ≤ 2 ^ 49
theorem Wf.mono {a b : Nat} {s : St2} (h : Wf b s) (l : a ≤ b) : Wf a s := by
  obtain ⟨c, lf, k, e, h1, h2, h3, h4⟩ := h
  exact ⟨c, lf, k, e, h1, h2, h3, by omega⟩
theorem atI_some {α : Type} {xs : List α} {i : Int} (h0 : 0 ≤ i) (h1 : i < xs.length) : ∃ x, atI xs i = some x ∧ xs[i.toNat]? = some x := by
  have hi : i.toNat < xs.length := by omega
  refine ⟨xs[i.toNat], ?_, List.getElem?_eq_getElem hi⟩
  unfold atI ixN
  rw [if_pos h0, if_pos h1]
  exact List.getElem?_eq_getElem hi
theorem cellsIx_ev {ds : DS2} {j : Nat} {g : DS2 → Option D} {c l : List Int} {k n z : Int} (e1 : drawAt ds j = some (c, l, k)) (e2 : g (hideDS ds) = some (.int n)) (e3 : atI c n = some z) : xCellsIx j g ds = some (.int z, ds) := by
  unfold xCellsIx; rw [e1, Option.bind_some, e2, Option.bind_some]; dsimp only; rw [e3]; rfl
theorem leftIx_ev {ds : DS2} {j : Nat} {g : DS2 → Option D} {c l : List Int} {k n z : Int} (e1 : drawAt ds j = some (c, l, k)) (e2 : g (hideDS ds) = some (.int n)) (e3 : atI l n = some z) : xLeftIx j g ds = some (.int z, ds) := by
  unfold xLeftIx; rw [e1, Option.bind_some, e2, Option.bind_some]; dsimp only; rw [e3]; rfl
theorem setAt_ev {ds ds1 : DS2} {j : Nat} {f : XF St2 D} {c l : List Int} {k n : Int} (e : f ds = some (.int n, ds1)) (e1 : drawAt ds1 j = some (c, l, k)) : gSetAt j f ds = some (.nx (ds1.set j (some (.st (.draw c l n))))) := by
  unfold gSetAt; rw [e, Option.bind_some]; dsimp only; rw [e1]; rfl
theorem setLeft_ev {ds ds1 : DS2} {j : Nat} {f : XF St2 D} {g : DS2 → Option D} {c l : List Int} {k n q : Int} {i : Nat} (e : f ds = some (.int n, ds1)) (e1 : drawAt ds1 j = some (c, l, k)) (e2 : g (hideDS ds1) = some (.int q)) (e3 : ixN l.length q = some i) : gSetLeft j f g ds = some (.nx (ds1.set j (some (.st (.draw c (l.set i n) k))))) := by
  unfold gSetLeft; rw [e, Option.bind_some]; dsimp only; rw [e1, Option.bind_some, e2, Option.bind_some]; dsimp only; rw [e3]; rfl
theorem leftNe_ev {ds : DS2} {j : Nat} {c l : List Int} {k : Int} (e1 : drawAt ds j = some (c, l, k)) (z : l.length ≤ sizeLine) : xLeftNe j ds = some (!l.isEmpty, ds) := by
  unfold xLeftNe; rw [e1, Option.bind_some]; dsimp only; rw [if_pos z]
theorem draw_last {k m : Int} {cells left : List Int} (hc : cells.length = 61) (hk : 0 ≤ k) (hk2 : k + 1 ≤ 2 ^ 49) (hm : 0 < m) (m3 m4 : Option (MO St2)) :
    ∃ r : Int, 0 ≤ r ∧ r < m ∧ gRet (oX (xOp modD (xO (oCallP 2 F_law_mixed (xCons (xO (oCallP 2 F_law_mixed (xCons (xOp addA (xCellsIx 0 (gOp modD (gVar 2) (gC (.int 61)))) (xP (gOp mulD (gC (.int 37)) (gOp divD (gVar 2) (gC (.int 61)))))) (xCons (xP (gVar 2)) xNil)))) (xCons (xP (gOp addA (gVar 2) (gC (.int 5)))) xNil)))) (xP (gVar 1)))) [some (.st (.draw cells left (k + 1))), some (.d (.int m)), some (.d (.int k)), m3, m4] = some (.rt (.d (.int r)) [some (.st (.draw cells left (k + 1))), some (.d (.int m)), some (.d (.int k)), m3, m4]) := by
  obtain ⟨z, hz, _⟩ := atI_some (xs := cells) (i := k % 61) (Int.emod_nonneg _ (by decide)) (by rw [hc]; exact Int.emod_lt_of_pos _ (by decide))
  obtain ⟨r1, h1⟩ := mixed_ok (z + 37 * (k / 61)) k hk (by omega)
  obtain ⟨r2, h2⟩ := mixed_ok r1 (k + 5) (by omega) (by omega)
  refine ⟨r2 % m, Int.emod_nonneg _ (by omega), Int.emod_lt_of_pos _ hm, ret_ev (oX_ev (xOp_ev (xOd_ev (callP_ev (xCons_ev (xOd_ev (callP_ev (xCons_ev (xOp_ev (cellsIx_ev rfl (op_ev rfl rfl (mod_ok (by decide))) hz) (xP_ev (op_ev rfl (op_ev rfl rfl (div_ok (by decide) (by decide))) (mul_l (by decide) (by decide)))) add_ii) (xCons_ev (xP_ev rfl) rfl)) rfl h1)) (xCons_ev (xP_ev (op_ev rfl rfl add_ii)) rfl)) rfl h2)) (xP_ev rfl) (mod_ok hm)))⟩
theorem draw_ok {b : Nat} {s : St2} {m : Int} (h : Wf (b + 1) s) (hm : 0 < m) (hm2 : m < 2 ^ 100) : ∃ (r : Int) (s' : St2), F_law_draw s [.int m] = some (.d (.int r), s') ∧ 0 ≤ r ∧ r < m ∧ Wf b s' := by
  obtain ⟨cells, left, k, rfl, hc, hl, hk, hb⟩ := h
  have sz : (1000 : Nat) ≤ sizeLine := by decide
  unfold F_law_draw g_law_draw
  by_cases hn : left = []
  · subst hn
    obtain ⟨r, r0, r1, e⟩ := draw_last (k := k) (left := []) hc hk (by omega) hm none none
    refine ⟨r, .draw cells [] (k + 1), runS_ev (seq_ev (asg_ev (oX_ev rfl)) (seq_ev (setAt_ev (xP_ev (op_ev rfl rfl add_ii)) rfl) (seq_ev (ifF_ev ((leftNe_ev rfl (by simp)).trans rfl) rfl) e))) rfl rfl, r0, r1, cells, [], k + 1, rfl, hc, by simp, by omega, by omega⟩
  · have ln : 0 < left.length := List.length_pos_iff.mpr hn
    have l1 : (!left.isEmpty) = true := by simpa using hn
    obtain ⟨z, hz, hz2⟩ := atI_some (xs := left) (i := k % (left.length : Nat)) (Int.emod_nonneg _ (by omega)) (Int.emod_lt_of_pos _ (by omega))
    by_cases hp : 0 < z
    · have gt : gtD (.int z) (.int 0) = some (.bool true) := by
        show some (PyData.bool (decide ((0 : Int) < z))) = _
        rw [decide_eq_true hp]
      obtain ⟨i, hi⟩ : ∃ i, ixN left.length (k % (left.length : Nat)) = some i := by
        unfold ixN
        rw [if_pos (Int.emod_nonneg _ (by omega)), if_pos (Int.emod_lt_of_pos _ (by omega))]
        exact ⟨_, rfl⟩
      refine ⟨z % m, .draw cells (left.set i (z / m)) (k + 1), runS_ev (seq_ev (asg_ev (oX_ev rfl)) (seq_ev (setAt_ev (xP_ev (op_ev rfl rfl add_ii)) rfl) (seq_rt (ifT_ev ((leftNe_ev rfl (by omega)).trans (by rw [l1])) (seq_ev (asg_ev (oX_ev (xOp_ev (xP_ev rfl) rfl (mod_ok (j := (left.length : Nat)) (by omega))))) (seq_ev (asg_ev (oX_ev (leftIx_ev rfl rfl hz))) (ifT_ev (xtP_ev (B_ev (op_ev rfl rfl gt))) (seq_ev (setLeft_ev (xP_ev (op_ev rfl rfl (div_ok hm hm2))) rfl rfl hi) (ret_ev (oX_ev (xP_ev (op_ev rfl rfl (mod_ok hm))))))))))))) rfl rfl, Int.emod_nonneg _ (by omega), Int.emod_lt_of_pos _ hm, cells, _, k + 1, rfl, hc, by rw [List.length_set]; exact hl, by omega, by omega⟩
    · have gt : gtD (.int z) (.int 0) = some (.bool false) := by
        show some (PyData.bool (decide ((0 : Int) < z))) = _
        rw [decide_eq_false hp]
      obtain ⟨r, r0, r1, e⟩ := draw_last (k := k) (left := left) hc hk (by omega) hm (some (.d (.int (k % (left.length : Nat))))) (some (.d (.int z)))
      refine ⟨r, .draw cells left (k + 1), runS_ev (seq_ev (asg_ev (oX_ev rfl)) (seq_ev (setAt_ev (xP_ev (op_ev rfl rfl add_ii)) rfl) (seq_ev (ifT_ev ((leftNe_ev rfl (by omega)).trans (by rw [l1])) (seq_ev (asg_ev (oX_ev (xOp_ev (xP_ev rfl) rfl (mod_ok (j := (left.length : Nat)) (by omega))))) (seq_ev (asg_ev (oX_ev (leftIx_ev rfl rfl hz))) (ifF_ev (xtP_ev (B_ev (op_ev rfl rfl gt))) rfl)))) e))) rfl rfl, r0, r1, cells, left, k + 1, rfl, hc, hl, by omega, by omega⟩
end LAW
set_option Elab.async false
set_option linter.all false
set_option maxRecDepth 100000
set_option maxHeartbeats 4000000
namespace LAW
open PySem PySem.Spec L2 DL PyProof.Rows
theorem setI_ev {ds ds1 : DS2} {j k : Nat} {f : XF St2 D} {gi : DS2 → Option D} {d : D} {n : Int} {xs : List D} (e : f ds = some (d, ds1)) (e2 : gi ds1 = some (.int n)) (e3 : lstAt ds1 j = some xs) (e4 : ixN xs.length n = some k) : gSetI j f gi ds = some (.nx (ds1.set j (some (.lst (xs.set k d))))) := by
  unfold gSetI; rw [e, Option.bind_some]; dsimp only; rw [e2, Option.bind_some]; dsimp only; rw [e3, Option.bind_some, e4]; rfl
theorem ixN_some {n : Nat} {i : Int} (h0 : 0 ≤ i) (h1 : i < n) : ixN n i = some i.toNat := by unfold ixN; rw [if_pos h0, if_pos h1]
theorem atI_map {xs : List Int} {i : Int} (h0 : 0 ≤ i) (h1 : i < xs.length) : ∃ z : Int, ixD (.list (xs.map .int)) (.int i) = some (.int z) := by
  obtain ⟨z, _, h2⟩ := atI_some h0 h1
  refine ⟨z, ?_⟩
  show atI (xs.map PyData.int) i = _
  unfold atI
  rw [List.length_map, ixN_some h0 h1, Option.bind_some, List.getElem?_map, h2]
  rfl
theorem intsOf_map : ∀ l : List Int, intsOf (l.map .int) = some l
  | [] => rfl
  | x :: r => by
    rw [List.map_cons]
    unfold intsOf
    rw [intsOf_map r]
    rfl
theorem set_map (l : List Int) (k : Nat) (v : Int) : (l.map PyData.int).set k (.int v) = (l.set k v).map .int := by rw [List.map_set]
def encNI (p : Int × Nat) : D := .tuple [.int (p.2 : Nat), .int p.1]
theorem enumD_ints : ∀ (ys : List Int) (k : Nat), enumD k (ys.map .int) = (ys.zipIdx k).map encNI
  | [], _ => rfl
  | y :: r, k => by
    rw [List.map_cons, List.zipIdx_cons, List.map_cons, ← enumD_ints r (k + 1)]
    rfl
theorem folded_ok (ns : List Int) (hn : ns.length ≤ 63) : ∃ found : List Int, found.length = 61 ∧ F_law_folded ns [] = some (.lst (found.map .int)) := by
  have sz : (1000 : Nat) ≤ sizeLine := by decide
  unfold F_law_folded g_law_folded
  let R0 : DS2 → Prop := fun ds => ∃ (found : List Int) (m2 m3 : Option (MO St2)), found.length = 61 ∧ ds = [some (.scr ns), some (.lst (found.map .int)), m2, m3]
  let st0 : List Int := (List.range 61).map fun (k : Nat) => 101 + 3 * ((0 : Int) + (k : Int))
  have e1 : gLc (gArgs (gCons (gC (.int 61)) gNil) rng1) [2] (asgN 2) gYes (gOp addA (gC (.int 101)) (gOp mulD (gC (.int 3)) (gVar 2))) (hideDS (startD 4 (.scr ns :: ([] : List D).map (MO.d (S := St2))))) = some (st0.map .int) := by
    show _ = some (((List.range 61).map fun (k : Nat) => 101 + 3 * ((0 : Int) + (k : Int))).map PyData.int)
    rw [List.map_map]
    refine LcAll_ev (es := List.range 61) (enc := fun (k : Nat) => .int ((0 : Int) + (k : Int))) (Args_ev rfl ?_) fun k _ => ⟨_, rfl, op_ev rfl (op_ev rfl rfl (mul_l (i := 3) (by decide) (by decide))) add_ii⟩
    show (if (61 : Int) ≤ sizeLine ∧ -(2 ^ 62) ≤ (61 : Int) then some (rngD 0 61) else none) = _
    rw [if_pos (by decide)]
    rfl
  have l0 : st0.length = 61 := by show ((List.range 61).map _).length = 61; rw [List.length_map, List.length_range]
  generalize st0 = a0 at e1 l0
  obtain ⟨ds1, f1, b1, m2, m3, lb1, rfl⟩ := forList (σ := Unit) (t := asgT [2, 3]) (enc := encNI) (step := fun _ _ => ()) (body := (gSetI 1 (xB (gOp modD (gOp addA (gOp mulD (gOp ixD (gVar 1) (gOp modD (gVar 2) (gC (.int 61)))) (gC (.int 40692))) (gVar 3)) (gC (.int 2305843009213693951)))) (gOp modD (gVar 2) (gC (.int 61))))) (fun _ _ ds => R0 ds) ns.zipIdx () [some (.scr ns), some (.lst (a0.map .int)), none, none] (fun n p _ _ ds ⟨b, m2, m3, lb, eds⟩ => by
    subst eds
    obtain ⟨c, q⟩ := p
    have q0 : (0 : Int) ≤ (q : Int) % 61 := Int.emod_nonneg _ (by decide)
    have q1 : (q : Int) % 61 < 61 := Int.emod_lt_of_pos _ (by decide)
    obtain ⟨z, hz⟩ := atI_map (xs := b) q0 (by rw [lb]; exact q1)
    refine ⟨_, _, rfl, setI_ev (xB_ev (op_ev (op_ev (op_ev (op_ev rfl (op_ev rfl rfl (mod_ok (by decide))) hz) rfl (mul_r (by decide) (by decide))) rfl add_ii) rfl (mod_ok (by decide))) rfl) (op_ev rfl rfl (mod_ok (by decide))) rfl (ixN_some q0 (by rw [List.length_map, lb]; exact q1)), _, .inl rfl, b.set ((q : Int) % 61).toNat ((z * 40692 + c) % 2305843009213693951), some (.d (.int (q : Nat))), some (.d (.int c)), by rw [List.length_set]; exact lb, ?_⟩
    rw [← set_map]
    rfl) ⟨a0, none, none, l0, rfl⟩
  have e2 : rng2 [.int 1, .int 61] = some ((List.range 60).map fun (k : Nat) => PyData.int ((1 : Int) + (k : Int))) := by
    show (if (61 : Int) - 1 ≤ sizeLine ∧ -(2 ^ 62) ≤ (1 : Int) ∧ (1 : Int) < 2 ^ 62 ∧ -(2 ^ 62) ≤ (61 : Int) ∧ (61 : Int) < 2 ^ 62 then some (rngD 1 60) else none) = _
    rw [if_pos (by decide)]
    rfl
  obtain ⟨ds2, f2, b2, m2', m3', lb2, rfl⟩ := forList (σ := Unit) (t := asgN 2) (enc := fun (k : Nat) => PyData.int ((1 : Int) + (k : Int))) (step := fun _ _ => ()) (body := (gSetI 1 (xB (gOp modD (gOp addA (gOp ixD (gVar 1) (gVar 2)) (gOp mulD (gOp ixD (gVar 1) (gOp subD (gVar 2) (gC (.int 1)))) (gC (.int 39373)))) (gC (.int 2305843009213693951)))) (gVar 2))) (fun _ _ ds => R0 ds) (List.range 60) () [some (.scr ns), some (.lst (b1.map .int)), m2, m3] (fun n k hk _ ds ⟨b, m2, m3, lb, eds⟩ => by
    subst eds
    have k60 : k < 60 := by have := List.mem_of_getElem? hk; exact List.mem_range.mp this
    obtain ⟨z1, h1⟩ := atI_map (xs := b) (i := (1 : Int) + (k : Int)) (by omega) (by omega)
    obtain ⟨z2, h2⟩ := atI_map (xs := b) (i := (1 : Int) + (k : Int) - 1) (by omega) (by omega)
    refine ⟨_, _, rfl, setI_ev (xB_ev (op_ev (op_ev (op_ev rfl rfl h1) (op_ev (op_ev rfl (op_ev rfl rfl sub_ii) h2) rfl (mul_r (by decide) (by decide))) add_ii) rfl (mod_ok (by decide))) rfl) rfl rfl (ixN_some (i := (1 : Int) + (k : Int)) (by omega) (by rw [List.length_map]; omega)), _, .inl rfl, b.set ((1 : Int) + (k : Int)).toNat ((z1 + z2 * 39373) % 2305843009213693951), some (.d (.int ((1 : Int) + (k : Int)))), m3, by rw [List.length_set]; exact lb, ?_⟩
    rw [← set_map]
    rfl) ⟨b1, m2, m3, lb1, rfl⟩
  have en : xEnS (S := St2) 0 [some (.scr ns), some (.lst (a0.map .int)), none, none] = some ((ns.zipIdx).map encNI, [some (.scr ns), some (.lst (a0.map .int)), none, none]) := by
    unfold xEnS
    show (if ns.length ≤ sizeLine then some (enumD 0 (ns.map .int), _) else none) = _
    rw [if_pos (by omega), enumD_ints]
  exact ⟨b2, lb2, runC_ev (seq_ev (asg_ev (oP_ev e1)) (seq_ev (DL.for_ev en f1) (seq_ev (DL.for_ev (xiP_ev (Args_ev rfl e2)) f2) (ret_ev rfl)))) rfl⟩
theorem newDraw_ev {ds ds1 : DS2} {f : XF St2 (MO St2)} {ns : List Int} (e : f ds = some (.lst (ns.map .int), ds1)) : oNewDraw f ds = some (.st (.draw ns [] 0), ds1) := by
  unfold oNewDraw; rw [e, Option.bind_some]; dsimp only; rw [intsOf_map]; rfl
theorem setLeftL_ev {ds ds1 : DS2} {j : Nat} {f : XF St2 (MO St2)} {c l ns : List Int} {k : Int} (e : f ds = some (.lst (ns.map .int), ds1)) (e1 : drawAt ds1 j = some (c, l, k)) : gSetLeftL j f ds = some (.nx (ds1.set j (some (.st (.draw c ns k))))) := by
  unfold gSetLeftL; rw [e, Option.bind_some]; dsimp only; rw [intsOf_map, Option.bind_some, e1]; rfl
theorem callC_ev {n i : Nat} {F : List Int → List D → Option (MO St2)} {f : XF St2 (List D)} {ds ds1 : DS2} {ns : List Int} {as : List D} {m : MO St2} (e0 : scrAt ds i = some ns) (e : f ds = some (as, ds1)) (n1 : as.length + 1 = n) (e2 : F ns as = some m) : oCallC n i F f ds = some (m, ds1) := by
  unfold oCallC; rw [e0, Option.bind_some]; exact xb_ev e (by rw [if_pos n1, e2]; rfl)
theorem begun_ok (ns : List Int) (hn : ns.length ≤ 63) : ∃ s : St2, F_law_begun ns [] = some (.st s) ∧ Wf (2 ^ 49) s := by
  obtain ⟨found, lf, ef⟩ := folded_ok ns hn
  have sz : (1000 : Nat) ≤ sizeLine := by decide
  unfold F_law_begun g_law_begun
  let D0 : DS2 := [some (.scr ns), some (.st (.draw found [] 0)), none]
  have run : ∀ l : List Int, ∃ ys : List Int, ys.length = l.length ∧ lcRunX (lcOneX [2] (asgN 2) xYes (xP (gIf (gB (gOp geD (gVar 2) (gOp powD (gC (.int 10)) (gC (.int 18))))) (gVar 2) (gC (.int 0))))) (l.map .int) D0 = some (ys.map .int, D0) := by
    intro l
    induction l with
    | nil => exact ⟨[], rfl, rfl⟩
    | cons z r ih =>
      obtain ⟨ys, h1, h2⟩ := ih
      refine ⟨(if (10 : Int) ^ 18 ≤ z then z else 0) :: ys, by rw [List.length_cons, List.length_cons, h1], ?_⟩
      have one : lcOneX [2] (asgN 2) xYes (xP (gIf (gB (gOp geD (gVar 2) (gOp powD (gC (.int 10)) (gC (.int 18))))) (gVar 2) (gC (.int 0)))) (.int z) D0 = some (some (.int (if (10 : Int) ^ 18 ≤ z then z else 0)), D0) := by
        have tst : (gIf (gB (gOp geD (gVar 2) (gOp powD (gC (.int 10)) (gC (.int 18))))) (gVar 2) (gC (.int 0))) ([some (.scr ns), some (.st (.draw found [] 0)), some (.d (.int z))] : DS2) = some (.int (if (10 : Int) ^ 18 ≤ z then z else 0)) := by
          refine If_ev (k := decide ((10 : Int) ^ 18 ≤ z)) (B_ev (op_ev rfl (op_ev rfl rfl (by show (if 0 ≤ (18 : Int) ∧ (18 : Int) ≤ 1000000 ∧ (10 : Int).natAbs < 2 ^ 64 then some (PyData.int ((10 : Int) ^ 18)) else none) = _; rw [if_pos (by decide)])) rfl)) (fun h => ?_) (fun h => ?_)
          · rw [if_pos (of_decide_eq_true h)]; rfl
          · rw [if_neg (of_decide_eq_false h)]; rfl
        show ((xP _ ([some (.scr ns), some (.st (.draw found [] 0)), some (.d (.int z))] : DS2)).bind _) = _
        rw [xP_ev (d := .int (if (10 : Int) ^ 18 ≤ z then z else 0)) tst]
        rfl
      rw [List.map_cons]
      unfold lcRunX
      rw [one, Option.bind_some, h2]
      rfl
  obtain ⟨ys, ly, ey⟩ := run ns
  have src : xSc 0 D0 = some (ns.map .int, D0) := by
    show (if ns.length ≤ sizeLine then some (ns.map PyData.int, D0) else none) = _
    rw [if_pos (by omega)]
  have lc : xLc (xSc 0) [2] (asgN 2) xYes (xP (gIf (gB (gOp geD (gVar 2) (gOp powD (gC (.int 10)) (gC (.int 18))))) (gVar 2) (gC (.int 0)))) D0 = some (.lst (ys.map .int), D0) := xb_ev src (by rw [ey]; rfl)
  exact ⟨.draw found ys 0, runC_ev (seq_ev (asg_ev (newDraw_ev (callC_ev rfl rfl rfl ef))) (seq_ev (setLeftL_ev lc rfl) (ret_ev rfl))) rfl, found, ys, 0, rfl, lf, by omega, by omega, by omega⟩
end LAW
set_option Elab.async false
set_option linter.all false
set_option maxRecDepth 100000
set_option maxHeartbeats 4000000
namespace LAW
open PySem PySem.Spec L2 DL PyProof.Rows
/-! ### comprehensions that draw -/
theorem oneT_ev {own : List Nat} {t : D → Option (List (Nat × D))} {h : XF St2 Bool} {g : XF St2 D} {x y : D} {as : List (Nat × D)} {ds ds1 ds2 : DS2} (e1 : t x = some as) (e2 : h (setD (wipeD ds own) as) = some (true, ds1)) (e3 : g ds1 = some (y, ds2)) : lcOneX own t h g x ds = some (some y, mergeD ds own ds2) := by
  unfold lcOneX; rw [e1, Option.bind_some, e2, Option.bind_some, if_pos rfl, e3]; rfl
theorem oneF_ev {own : List Nat} {t : D → Option (List (Nat × D))} {h : XF St2 Bool} {g : XF St2 D} {x : D} {as : List (Nat × D)} {ds ds1 : DS2} (e1 : t x = some as) (e2 : h (setD (wipeD ds own) as) = some (false, ds1)) : lcOneX own t h g x ds = some (none, mergeD ds own ds1) := by
  unfold lcOneX; rw [e1, Option.bind_some, e2, Option.bind_some]; rfl
theorem lcX_run {own : List Nat} {t : D → Option (List (Nat × D))} {h : XF St2 Bool} {g : XF St2 D} {P : D → D → Prop} (I : Nat → DS2 → Prop) : ∀ (xs : List D) (ds : DS2), (∀ x ∈ xs, ∀ n ds, I (n + 1) ds → ∃ o ds', lcOneX own t h g x ds = some (o, ds') ∧ I n ds' ∧ ∀ y, o = some y → P x y) → I xs.length ds →
    ∃ ys ds', lcRunX (lcOneX own t h g) xs ds = some (ys, ds') ∧ I 0 ds' ∧ (∀ y ∈ ys, ∃ x ∈ xs, P x y) ∧ ys.length ≤ xs.length
  | [], ds, _, i => ⟨[], ds, rfl, i, (fun y z => by cases z), Nat.le_refl _⟩
  | x :: xs, ds, k, i => by
    obtain ⟨o, ds1, e1, i1, p1⟩ := k x (by simp) xs.length ds i
    obtain ⟨ys, ds2, e2, i2, p2, l2⟩ := lcX_run I xs ds1 (fun z hz => k z (List.mem_cons_of_mem _ hz)) i1
    cases o with
    | none => exact ⟨ys, ds2, by unfold lcRunX; rw [e1, Option.bind_some, e2]; rfl, i2, fun y hy => let ⟨z, h1, h2⟩ := p2 y hy; ⟨z, List.mem_cons_of_mem _ h1, h2⟩, Nat.le_succ_of_le l2⟩
    | some y0 =>
      refine ⟨y0 :: ys, ds2, by unfold lcRunX; rw [e1, Option.bind_some, e2]; rfl, i2, fun y hy => ?_, Nat.succ_le_succ l2⟩
      rcases List.mem_cons.mp hy with z | z
      · exact ⟨x, by simp, p1 y (by rw [z])⟩
      · obtain ⟨w, h1, h2⟩ := p2 y z
        exact ⟨w, List.mem_cons_of_mem _ h1, h2⟩
theorem lcX_ev {own : List Nat} {t : D → Option (List (Nat × D))} {h : XF St2 Bool} {g : XF St2 D} {src : XF St2 (List D)} {xs ys : List D} {ds ds1 ds2 : DS2} (e : src ds = some (xs, ds1)) (e2 : lcRunX (lcOneX own t h g) xs ds1 = some (ys, ds2)) : xLc src own t h g ds = some (.lst ys, ds2) := xb_ev e (by rw [e2]; rfl)
theorem xArgs_ev {f : XF St2 (List D)} {g : List D → Option (List D)} {as xs : List D} {ds ds1 : DS2} (e : f ds = some (as, ds1)) (e2 : g as = some xs) : xArgs f g ds = some (xs, ds1) := xb_ev e (xlift_ev e2)
theorem rng1_ok {n : Nat} (h : n ≤ 1000) : rng1 [.int (n : Int)] = some ((List.range n).map fun (k : Nat) => PyData.int ((0 : Int) + (k : Int))) := by
  show (if (n : Int) ≤ sizeLine ∧ -(2 ^ 62) ≤ (n : Int) then some (rngD 0 (n : Int).toNat) else none) = _
  have sz : (1000 : Nat) ≤ sizeLine := by decide
  rw [if_pos ⟨by omega, by omega⟩, Int.toNat_natCast]
  rfl
theorem split_ev {ds : DS2} {ga gb : DS2 → Option D} {x y : D} {xs : List D} (e1 : ga ds = some x) (e2 : gb ds = some y) (e3 : splitD x y = some xs) : gSplit ga gb ds = some xs := by unfold gSplit; rw [e1, Option.bind_some, e2]; exact e3
/-! ### the words -/
def wordsA : Str := "own lent last rank draw ring out pitch comer holds beside bars row bar new come held home a b"
def wordsB : Str := " ab ba paper day none form fits lend give line rules"
def S31 : List Str := ["own", "lent", "last", "rank", "draw", "ring", "out", "pitch", "comer", "holds", "beside", "bars", "row", "bar", "new", "come", "held", "home", "a", "b", "ab", "ba", "paper", "day", "none", "form", "fits", "lend", "give", "line", "rules"]
def zEnd (x : Str) : Prop := x.cps.toList.getLast? = some 122
theorem split31 : Txt.split (wordsA ++ wordsB) " " = S31 := by decide +kernel
theorem nod31 : S31.Nodup := by decide +kernel
theorem ok31 : ∀ x ∈ S31, x.length ≤ 8 ∧ PyData.strOk x = true ∧ x.cps.toList.getLast? ≠ some 122 := by decide +kernel
theorem spl : splitD (.str (wordsA ++ wordsB)) (.str " ") = some (S31.map .str) := by
  unfold splitD
  dsimp only
  rw [split31, if_pos (by decide +kernel)]
def GoodS (x : Str) : Prop := x.length ≤ 8 ∧ PyData.strOk x = true
abbrev codes (cs : List Nat) : Str := ⟨cs.toArray⟩
theorem joinL_one : ∀ cs : List Nat, TL.joinL [] (cs.map fun c => [c]) = cs
  | [] => rfl
  | [c] => rfl
  | c :: d :: r => by
    show [c] ++ ([] ++ TL.joinL [] ((d :: r).map fun c => [c])) = _
    rw [joinL_one (d :: r)]
    rfl
theorem join_codes (cs : List Nat) : Txt.join "" (cs.map fun c => (⟨#[c]⟩ : Str)) = codes cs := by
  have h := SX.join_S [] (cs.map fun c => [c])
  rw [joinL_one, List.map_map] at h
  exact h
theorem strOk_codes {cs : List Nat} (h : ∀ c ∈ cs, c < 128) : PyData.strOk (codes cs) = true := by
  unfold PyData.strOk
  rw [Array.all_eq_true_iff_forall_mem]
  intro c hc
  have := h c (by simpa using hc)
  simp
  omega
theorem app_len (x y : Str) : (x ++ y).length = x.length + y.length := by
  show (x.cps ++ y.cps).size = _
  rw [Array.size_append]
  rfl
theorem app_ok {x y : Str} (h1 : PyData.strOk x = true) (h2 : PyData.strOk y = true) : PyData.strOk (x ++ y) = true := by
  unfold PyData.strOk at *
  show (x.cps ++ y.cps).all _ = true
  rw [Array.all_append, h1, h2]
  rfl
theorem app_z (x : Str) : zEnd (x ++ ("z" : Str)) := by
  unfold zEnd
  show (x.cps ++ ("z" : Str).cps).toList.getLast? = _
  rw [Array.toList_append]
  simp
  exact .inl (by decide +kernel)
theorem strsOf_map : ∀ l : List Str, strsOf (l.map .str) = some l
  | [] => rfl
  | x :: r => by
    rw [List.map_cons]
    unfold strsOf
    rw [strsOf_map r]
    rfl
theorem letters : ∀ r : Int, 0 ≤ r → r < 26 → ∃ c : Nat, c < 128 ∧ ixD (.str "abcdefghijklmnopqrstuvwxyz") (.int r) = some (.str ⟨#[c]⟩) := by
  intro r h0 h1
  obtain ⟨n, rfl⟩ : ∃ n : Nat, r = (n : Int) := ⟨r.toNat, by omega⟩
  have hn : n < 26 := by omega
  have key : ∀ n : Fin 26, ∃ c : Fin 128, ("abcdefghijklmnopqrstuvwxyz" : Str).cps.toList[n.val]? = some c.val := by decide +kernel
  obtain ⟨c, hc⟩ := key ⟨n, hn⟩
  refine ⟨c.val, c.isLt, ?_⟩
  show (atI ("abcdefghijklmnopqrstuvwxyz" : Str).cps.toList (n : Int)).map (fun c => PyData.str ⟨#[c]⟩) = _
  unfold atI
  have hl : ("abcdefghijklmnopqrstuvwxyz" : Str).cps.toList.length = 26 := by decide +kernel
  rw [hl, ixN_nat hn, Option.bind_some]
  dsimp only at hc
  rw [hc]
  rfl
theorem nodup_set {w : Str} : ∀ {l : List Str} {i : Nat}, l.Nodup → w ∉ l → (l.set i w).Nodup
  | [], _, _, _ => by simp
  | x :: r, 0, h, n => by
    rw [List.set_cons_zero, List.nodup_cons]
    exact ⟨fun z => n (List.mem_cons_of_mem _ z), (List.nodup_cons.mp h).2⟩
  | x :: r, i + 1, h, n => by
    rw [List.set_cons_succ, List.nodup_cons]
    refine ⟨fun z => ?_, nodup_set (List.nodup_cons.mp h).2 fun z => n (List.mem_cons_of_mem _ z)⟩
    rcases List.mem_or_eq_of_mem_set z with h1 | h1
    · exact (List.nodup_cons.mp h).1 h1
    · exact n (by rw [h1]; simp)
theorem steps31 : ∀ t : Fin 30, ∀ i j : Fin 13, ((t.val + 1) * i.val) % 31 = ((t.val + 1) * j.val) % 31 → i = j := by decide +kernel
def wAt (a t : Nat) (k : Nat) : Str := S31.getD ((a + t * k) % 31) ""
theorem wAt_mem (a t k : Nat) : S31[(a + t * k) % 31]? = some (wAt a t k) := by
  have h : (a + t * k) % 31 < S31.length := Nat.mod_lt _ (by decide)
  unfold wAt
  rw [List.getD_eq_getElem?_getD, List.getElem?_eq_getElem h]
  rfl
theorem found_nodup {a t m : Nat} (ht : 1 ≤ t) (ht2 : t ≤ 30) (hm : m ≤ 13) : ((List.range m).map (wAt a t)).Nodup := by
  rw [List.Nodup, List.pairwise_map]
  refine List.Pairwise.imp_of_mem ?_ List.nodup_range
  intro i j hi hj ne e
  have hi' := List.mem_range.mp hi
  have hj' := List.mem_range.mp hj
  have e1 := wAt_mem a t i
  have e2 := wAt_mem a t j
  rw [e, ← e2] at e1
  have h1 : (a + t * i) % 31 < S31.length := Nat.mod_lt _ (by decide)
  have h2 : (a + t * j) % 31 < S31.length := Nat.mod_lt _ (by decide)
  rw [List.getElem?_eq_getElem h1, List.getElem?_eq_getElem h2] at e1
  have e3 := (List.getElem_inj nod31).mp (Option.some.inj e1)
  have e4 : (t * i) % 31 = (t * j) % 31 := by omega
  have := steps31 ⟨t - 1, by omega⟩ ⟨i, by omega⟩ ⟨j, by omega⟩ (by
    dsimp only
    rw [show t - 1 + 1 = t from by omega]
    exact e4)
  exact ne (by simpa using this)
end LAW
set_option Elab.async false
set_option linter.all false
set_option maxRecDepth 100000
set_option maxHeartbeats 4000000
namespace LAW
open PySem PySem.Spec L2 DL PyProof.Rows
/-- the call of the draw in a frame whose slot 0 is the state -/
theorem drawCall {b : Nat} {s : St2} {m : Int} {ds : DS2} {g : DS2 → Option D} (h : Wf (b + 1) s) (e0 : stAt ds 0 = some s) (e : g (hideDS ds) = some (.int m)) (hm : 0 < m) (hm2 : m < 2 ^ 100) :
    ∃ (r : Int) (s' : St2), xO (oCallS 2 0 F_law_draw (xCons (xP g) xNil)) ds = some (.int r, ds.set 0 (some (.st s'))) ∧ 0 ≤ r ∧ r < m ∧ Wf b s' := by
  obtain ⟨r, s', h1, h2, h3, h4⟩ := draw_ok h hm hm2
  exact ⟨r, s', xOd_ev (callS_ev e0 (xCons_ev (xP_ev e) rfl) e0 rfl h1), h2, h3, h4⟩
/-- the letters of a word -/
theorem word_ok {b : Nat} {s : St2} {d1 d2 d3 d4 d6 d7 d8 : Option (MO St2)} (h : Wf (b + 7) s) : ∃ (cs : List Nat) (s' : St2), cs.length ≤ 6 ∧ (∀ c ∈ cs, c < 128) ∧ Wf b s' ∧
    xOp addA (xOp joinD (xP (gC (.str ""))) (xO (xLc (xArgs (xCons (xO (oCallS 2 0 F_law_draw (xCons (xP (gC (.int 7))) xNil))) xNil) rng1) [9] (asgN 9) xYes (xOp ixD (xP (gVar 5)) (xO (oCallS 2 0 F_law_draw (xCons (xP (gC (.int 26))) xNil))))))) (xP (gC (.str "z"))) [some (.st s), d1, d2, d3, d4, some (.d (.str "abcdefghijklmnopqrstuvwxyz")), d6, d7, d8, none] = some (.str (codes cs ++ ("z" : Str)), [some (.st s'), d1, d2, d3, d4, some (.d (.str "abcdefghijklmnopqrstuvwxyz")), d6, d7, d8, none]) := by
  obtain ⟨r, s1, e1, r0, r1, w1⟩ := drawCall (b := b + 6) (m := 7) (ds := [some (.st s), d1, d2, d3, d4, some (.d (.str "abcdefghijklmnopqrstuvwxyz")), d6, d7, d8, none]) (g := gC (.int 7)) h rfl rfl (by decide) (by decide)
  obtain ⟨n, rfl⟩ : ∃ n : Nat, r = (n : Int) := ⟨r.toNat, by omega⟩
  obtain ⟨ys, ds', e2, ⟨s2, w2, rfl⟩, p2, l2⟩ := lcX_run (own := [9]) (t := asgN 9) (h := xYes) (g := xOp ixD (xP (gVar 5)) (xO (oCallS 2 0 F_law_draw (xCons (xP (gC (.int 26))) xNil)))) (P := fun _ y => ∃ c : Nat, c < 128 ∧ y = .str ⟨#[c]⟩) (fun k ds => ∃ s', Wf (b + k) s' ∧ ds = [some (.st s'), d1, d2, d3, d4, some (.d (.str "abcdefghijklmnopqrstuvwxyz")), d6, d7, d8, none])
    ((List.range n).map fun (k : Nat) => PyData.int ((0 : Int) + (k : Int))) [some (.st s1), d1, d2, d3, d4, some (.d (.str "abcdefghijklmnopqrstuvwxyz")), d6, d7, d8, none] (fun x _ k ds ⟨s', w', eds⟩ => by
      subst eds
      obtain ⟨q, s3, e3, q0, q1, w3⟩ := drawCall (b := b + k) (m := 26) (ds := [some (.st s'), d1, d2, d3, d4, some (.d (.str "abcdefghijklmnopqrstuvwxyz")), d6, d7, d8, some (.d x)]) (g := gC (.int 26)) w' rfl rfl (by decide) (by decide)
      obtain ⟨c, hc, ec⟩ := letters q q0 q1
      exact ⟨_, _, oneT_ev rfl rfl (xOp_ev (xP_ev rfl) e3 ec), ⟨s3, w3, rfl⟩, fun y hy => ⟨c, hc, (Option.some.inj hy).symm⟩⟩) ⟨s1, by rw [List.length_map, List.length_range]; exact w1.mono (by omega), rfl⟩
  have hcs : ∃ cs : List Nat, ys = (cs.map fun c => (⟨#[c]⟩ : Str)).map .str ∧ ∀ c ∈ cs, c < 128 := by
    clear e2 l2
    induction ys with
    | nil => exact ⟨[], rfl, fun c z => by cases z⟩
    | cons y r ih =>
      obtain ⟨cs, h1, h2⟩ := ih fun z hz => p2 z (List.mem_cons_of_mem _ hz)
      obtain ⟨_, _, c, hc, hy⟩ := p2 y (by simp)
      refine ⟨c :: cs, by rw [hy, h1]; rfl, fun d hd => ?_⟩
      rcases List.mem_cons.mp hd with z | z
      · rw [z]; exact hc
      · exact h2 d z
  obtain ⟨cs, rfl, hc⟩ := hcs
  rw [List.length_map, List.length_map, List.length_map, List.length_range] at l2
  have l6 : cs.length ≤ 6 := by omega
  refine ⟨cs, s2, l6, hc, w2.mono (by omega), ?_⟩
  have len : (codes cs).length = cs.length := by show cs.toArray.size = _; rw [List.size_toArray]
  have sum : (((cs.map fun c => (⟨#[c]⟩ : Str)).map (·.length)).sum) = cs.length := by
    clear e2 l2 l6 hc len p2
    induction cs with
    | nil => rfl
    | cons c r ih => rw [List.map_cons, List.map_cons, List.sum_cons, ih, List.length_cons]; show 1 + r.length = _; omega
  have sz : (1000 : Nat) ≤ sizeLine := by decide
  have c0 : ("" : Str).length = 0 := rfl
  have c1 : cs.length + (cs.map fun c => (⟨#[c]⟩ : Str)).length * ("" : Str).length ≤ 16777216 := by rw [c0, Nat.mul_zero]; omega
  have c2 : (codes cs).length ≤ sizeLine := by rw [len]; omega
  have ej : joinD (.str "") (.list ((cs.map fun c => (⟨#[c]⟩ : Str)).map .str)) = some (.str (codes cs)) := by
    unfold joinD
    dsimp only
    rw [strsOf_map, Option.bind_some, join_codes, sum, if_pos ⟨c1, c2, strOk_codes hc⟩]
  have cz : ("z" : Str).length = 1 := rfl
  have c3 : (codes cs).length + ("z" : Str).length ≤ sizeLine := by rw [len, cz]; omega
  have ez : addA (.str (codes cs)) (.str "z") = some (.str (codes cs ++ ("z" : Str))) := by
    show (if (codes cs).length + ("z" : Str).length ≤ sizeLine then some (PyData.str (codes cs ++ ("z" : Str))) else none) = _
    rw [if_pos c3]
  exact xOp_ev (xOp_ev (xP_ev rfl) (xOl_ev (lcX_ev (xArgs_ev (xCons_ev e1 rfl) (rng1_ok (by omega))) e2)) ej) (xP_ev rfl) ez
end LAW
set_option Elab.async false
set_option linter.all false
set_option maxRecDepth 100000
set_option maxHeartbeats 4000000
namespace LAW
open PySem PySem.Spec L2 DL PyProof.Rows
theorem runS_rt {n : Nat} {g : SF St2} {s s' : St2} {as : List D} {m : MO St2} {ds1 : DS2} (h : g (startD n (.st s :: as.map .d)) = some (.rt m ds1)) (e2 : stAt ds1 0 = some s') : runS n g s as = some (m, s') := runS_ev (p := (m, ds1)) h rfl e2
theorem ix_strs {xs : List Str} {i : Nat} {x : Str} (h : xs[i]? = some x) : ixD (.list (xs.map .str)) (.int (i : Int)) = some (.str x) := ixL_nat (by rw [List.getElem?_map, h]; rfl)
theorem ixN_back {n : Nat} {i : Int} (h0 : 0 ≤ i) (h1 : i < n) : ∃ k, k < n ∧ ixN n (i - 1) = some k := by
  by_cases h : 1 ≤ i
  · exact ⟨(i - 1).toNat, by omega, ixN_some (by omega) (by omega)⟩
  · have : i = 0 := by omega
    subst this
    refine ⟨n - 1, by omega, ?_⟩
    unfold ixN
    rw [if_neg (by omega), if_pos (by omega)]
    congr 1
    omega
theorem ix_back {xs : List Str} {i : Int} (h0 : 0 ≤ i) (h1 : i < xs.length) : ∃ (k : Nat) (x : Str), k < xs.length ∧ ixN xs.length (i - 1) = some k ∧ xs[k]? = some x ∧ ixD (.list (xs.map .str)) (.int (i - 1)) = some (.str x) := by
  obtain ⟨k, hk, e⟩ := ixN_back h0 h1
  refine ⟨k, xs[k], hk, e, List.getElem?_eq_getElem hk, ?_⟩
  show atI (xs.map PyData.str) (i - 1) = _
  unfold atI
  rw [List.length_map, e, Option.bind_some, List.getElem?_map, List.getElem?_eq_getElem hk]
  rfl
theorem noListS : ∀ l : List Str, noListAll (l.map .str) = true
  | [] => rfl
  | x :: r => by
    show (true && noListAll (r.map .str)) = true
    rw [noListS r]
    rfl
theorem names_ok {b : Nat} {s : St2} {m : Nat} (h : Wf (b + 12) s) (m1 : 1 ≤ m) (m2 : m ≤ 12) : ∃ (xs : List Str) (s' : St2), F_law_names s [.int (m : Int)] = some (.lst (xs.map .str), s') ∧ xs.length = m ∧ xs.Nodup ∧ (∀ x ∈ xs, GoodS x) ∧ Wf b s' := by
  unfold F_law_names g_law_names
  have sz : (1000 : Nat) ≤ sizeLine := by decide
  let WD : D := .list (S31.map .str)
  let LT : D := .str "abcdefghijklmnopqrstuvwxyz"
  obtain ⟨r1, s1, e1, r10, r11, w1⟩ := drawCall (b := b + 11) (m := 31) (ds := [some (.st s), some (.d (.int (m : Int))), some (.d WD), none, none, none, none, none, none, none]) (g := gC (.int 31)) h rfl rfl (by decide) (by decide)
  obtain ⟨r2, s2, e2, r20, r21, w2⟩ := drawCall (b := b + 10) (m := 30) (ds := [some (.st s1), some (.d (.int (m : Int))), some (.d WD), none, none, none, none, none, none, none]) (g := gC (.int 30)) w1 rfl rfl (by decide) (by decide)
  obtain ⟨a, rfl⟩ : ∃ a : Nat, r1 = (a : Int) := ⟨r1.toNat, by omega⟩
  obtain ⟨t, ht⟩ : ∃ t : Nat, 1 + r2 = (t : Int) := ⟨(1 + r2).toNat, by omega⟩
  have t1 : 1 ≤ t := by omega
  have t2 : t ≤ 30 := by omega
  have nd0 := found_nodup (a := a) t1 t2 (m := m) (by omega)
  have ok0 : ∀ x ∈ (List.range m).map (wAt a t), x ∈ S31 := fun x hx => by
    obtain ⟨k, _, rfl⟩ := List.mem_map.mp hx
    exact List.mem_of_getElem? (wAt_mem a t k)
  have l0 : ((List.range m).map (wAt a t)).length = m := by rw [List.length_map, List.length_range]
  have e6 : gLc (gArgs (gCons (gVar 1) gNil) rng1) [9] (asgN 9) gYes (gOp ixD (gVar 2) (gOp modD (gOp addA (gVar 3) (gOp mulD (gVar 4) (gVar 9))) (gC (.int 31)))) (hideDS ([some (.st s2), some (.d (.int (m : Int))), some (.d WD), some (.d (.int (a : Int))), some (.d (.int (t : Int))), some (.d LT), none, none, none, none] : DS2)) = some (((List.range m).map (wAt a t)).map .str) := by
    rw [List.map_map]
    refine LcAll_ev (es := List.range m) (enc := fun (k : Nat) => .int ((0 : Int) + (k : Int))) (Args_ev rfl (rng1_ok (by omega))) fun k hk => ⟨_, rfl, op_ev rfl (op_ev (op_ev rfl (op_ev rfl rfl (mul_l (by omega) (by omega))) add_ii) rfl (mod_ok (by decide))) ?_⟩
    have ei : ((a : Int) + (t : Int) * ((0 : Int) + (k : Int))) % 31 = (((a + t * k) % 31 : Nat) : Int) := by
      rw [Int.zero_add, ← Int.natCast_mul, ← Int.natCast_add]
      omega
    rw [ei]
    exact ix_strs (wAt_mem a t k)
  generalize (List.range m).map (wAt a t) = f0 at nd0 ok0 l0 e6
  obtain ⟨cs, s3, cl, cc, w3, e7⟩ := word_ok (b := b + 3) (d1 := some (.d (.int (m : Int)))) (d2 := some (.d WD)) (d3 := some (.d (.int (a : Int)))) (d4 := some (.d (.int (t : Int)))) (d6 := some (.lst (f0.map .str))) (d7 := none) (d8 := none) w2
  have lenC : (codes cs).length = cs.length := by show cs.toArray.size = _; rw [List.size_toArray]
  have cz : ("z" : Str).length = 1 := rfl
  have okz : PyData.strOk ("z" : Str) = true := by decide +kernel
  have wl : (codes cs ++ ("z" : Str)).length = cs.length + 1 := by rw [app_len, lenC, cz]
  have wok : PyData.strOk (codes cs ++ ("z" : Str)) = true := app_ok (strOk_codes cc) okz
  have wz := app_z (codes cs)
  generalize codes cs ++ ("z" : Str) = w at wl wok wz e7
  have w2l : (w ++ ("z" : Str)).length = cs.length + 2 := by rw [app_len, wl, cz]
  have w2ok : PyData.strOk (w ++ ("z" : Str)) = true := app_ok wok okz
  have w2z := app_z w
  have e8a : gOp addA (gOp mulD (gC (.int 2)) (gVar 1)) (gC (.int 1)) (hideDS ([some (.st s3), some (.d (.int (m : Int))), some (.d WD), some (.d (.int (a : Int))), some (.d (.int (t : Int))), some (.d LT), some (.lst (f0.map .str)), some (.d (.str w)), none, none] : DS2)) = some (.int (2 * (m : Int) + 1)) := op_ev (op_ev rfl rfl (mul_l (by decide) (by decide))) rfl add_ii
  obtain ⟨r4, s4, e8, r40, r41, w4⟩ := drawCall (b := b + 2) (m := 2 * (m : Int) + 1) (ds := [some (.st s3), some (.d (.int (m : Int))), some (.d WD), some (.d (.int (a : Int))), some (.d (.int (t : Int))), some (.d LT), some (.lst (f0.map .str)), some (.d (.str w)), none, none]) w3 rfl e8a (by omega) (by omega)
  have good0 : ∀ x ∈ f0, GoodS x := fun x hx => let z := ok31 x (ok0 x hx); ⟨z.1, z.2.1⟩
  have adW : addA (.str wordsA) (.str wordsB) = some (.str (wordsA ++ wordsB)) := by
    show (if wordsA.length + wordsB.length ≤ sizeLine then some (PyData.str (wordsA ++ wordsB)) else none) = _
    rw [if_pos (by decide +kernel)]
  have wn0 : w ∉ f0 := fun z => (ok31 w (ok0 w z)).2.2 wz
  have tail : ∃ (xs : List Str) (s' : St2) (dsf : DS2), (gSeq (gIfS (xtP (gB (gOp ltD (gVar 8) (gVar 1))))
  (gSeq (gSetI 6 (xP (gVar 7)) (gVar 8))
  (gSetI 6 (xOp ixD (xO (oB (gLst (gCons (gOp addA (gVar 7) (gC (.str "z"))) (gCons (gOp ixD (gVar 6) (gOp subD (gVar 8) (gC (.int 1)))) gNil))))) (xOp mulD (xO (oCallS 2 0 F_law_draw (xCons (xP (gC (.int 2))) xNil))) (xP (gCall (gCons (gOp gtD (gVar 1) (gC (.int 1))) gNil) intD)))) (gOp subD (gVar 8) (gC (.int 1)))))
  gNext)
  (gRet (oMove 6))) ([some (.st s4), some (.d (.int (m : Int))), some (.d WD), some (.d (.int (a : Int))), some (.d (.int (t : Int))), some (.d LT), some (.lst (f0.map .str)), some (.d (.str w)), some (.d (.int r4)), none] : DS2) = some (.rt (.lst (xs.map .str)) dsf) ∧ stAt dsf 0 = some s' ∧ xs.length = m ∧ xs.Nodup ∧ (∀ x ∈ xs, GoodS x) ∧ Wf b s' := by
    by_cases hlt : r4 < m
    · have tst : gB (gOp ltD (gVar 8) (gVar 1)) ([some (.st s4), some (.d (.int (m : Int))), some (.d WD), some (.d (.int (a : Int))), some (.d (.int (t : Int))), some (.d LT), some (.lst (f0.map .str)), some (.d (.str w)), some (.d (.int r4)), none] : DS2) = some true := B_ev (op_ev rfl rfl (by show some (PyData.bool (decide (r4 < (m : Int)))) = _; rw [decide_eq_true hlt]))
      have i4 : ixN (f0.map PyData.str).length r4 = some r4.toNat := ixN_some r40 (by rw [List.length_map, l0]; exact hlt)
      have f1l : (f0.set r4.toNat w).length = m := by rw [List.length_set]; exact l0
      have f1n : (f0.set r4.toNat w).Nodup := nodup_set nd0 wn0
      have f1g : ∀ x ∈ f0.set r4.toNat w, GoodS x ∧ x ≠ w ++ ("z" : Str) := fun x hx => by
        rcases List.mem_or_eq_of_mem_set hx with z | z
        · exact ⟨good0 x z, fun y => (ok31 x (ok0 x z)).2.2 (by rw [y]; exact w2z)⟩
        · subst z
          exact ⟨⟨by omega, wok⟩, fun y => by have := congrArg Str.length y; omega⟩
      have sm : (f0.map PyData.str).set r4.toNat (.str w) = (f0.set r4.toNat w).map .str := by rw [List.map_set]
      generalize f0.set r4.toNat w = f1 at f1l f1n f1g sm
      obtain ⟨k, y, kl, ek, ey, ei⟩ := ix_back (xs := f1) (i := r4) r40 (by rw [f1l]; exact hlt)
      obtain ⟨r5, s5, e9, r50, r51, w5⟩ := drawCall (b := b + 1) (m := 2) (ds := [some (.st s4), some (.d (.int (m : Int))), some (.d WD), some (.d (.int (a : Int))), some (.d (.int (t : Int))), some (.d LT), some (.lst (f1.map .str)), some (.d (.str w)), some (.d (.int r4)), none]) (g := gC (.int 2)) w4 rfl rfl (by decide) (by decide)
      have az : addA (.str w) (.str "z") = some (.str (w ++ ("z" : Str))) := by
        show (if w.length + ("z" : Str).length ≤ sizeLine then some (PyData.str (w ++ ("z" : Str))) else none) = _
        rw [if_pos (by rw [wl, cz]; omega)]
      have em : ∃ q : Nat, q < 2 ∧ xOp mulD (xO (oCallS 2 0 F_law_draw (xCons (xP (gC (.int 2))) xNil))) (xP (gCall (gCons (gOp gtD (gVar 1) (gC (.int 1))) gNil) intD)) ([some (.st s4), some (.d (.int (m : Int))), some (.d WD), some (.d (.int (a : Int))), some (.d (.int (t : Int))), some (.d LT), some (.lst (f1.map .str)), some (.d (.str w)), some (.d (.int r4)), none] : DS2) = some (.int (q : Int), [some (.st s5), some (.d (.int (m : Int))), some (.d WD), some (.d (.int (a : Int))), some (.d (.int (t : Int))), some (.d LT), some (.lst (f1.map .str)), some (.d (.str w)), some (.d (.int r4)), none]) := by
        have hb : ∃ v : Int, (v = 0 ∨ v = 1) ∧ intD [.bool (decide ((1 : Int) < (m : Int)))] = some (.int v) := by
          cases decide ((1 : Int) < (m : Int))
          · exact ⟨0, .inl rfl, rfl⟩
          · exact ⟨1, .inr rfl, rfl⟩
        obtain ⟨v, hv, ev⟩ := hb
        obtain ⟨q, hq⟩ : ∃ q : Nat, r5 * v = (q : Int) := by
          rcases hv with rfl | rfl
          · exact ⟨0, by simp⟩
          · exact ⟨r5.toNat, by omega⟩
        refine ⟨q, ?_, xOp_ev e9 (xP_ev (Call_ev (Cons_ev (op_ev rfl rfl rfl) rfl) ev)) ((mul_r (by omega) (by omega)).trans (by rw [hq]))⟩
        rcases hv with rfl | rfl <;> omega
      obtain ⟨q, q2, em⟩ := em
      have pick : ∃ v : Str, (v = w ++ ("z" : Str) ∨ v = y) ∧ ixD (.list [.str (w ++ ("z" : Str)), .str y]) (.int (q : Int)) = some (.str v) := by
        have : q = 0 ∨ q = 1 := by omega
        rcases this with rfl | rfl
        · exact ⟨_, .inl rfl, rfl⟩
        · exact ⟨_, .inr rfl, rfl⟩
      obtain ⟨v, hv, ev⟩ := pick
      have eL : xO (oB (gLst (gCons (gOp addA (gVar 7) (gC (.str "z"))) (gCons (gOp ixD (gVar 6) (gOp subD (gVar 8) (gC (.int 1)))) gNil)))) ([some (.st s4), some (.d (.int (m : Int))), some (.d WD), some (.d (.int (a : Int))), some (.d (.int (t : Int))), some (.d LT), some (.lst (f1.map .str)), some (.d (.str w)), some (.d (.int r4)), none] : DS2) = some (.list [.str (w ++ ("z" : Str)), .str y], [some (.st s4), some (.d (.int (m : Int))), some (.d WD), some (.d (.int (a : Int))), some (.d (.int (t : Int))), some (.d LT), some (.lst (f1.map .str)), some (.d (.str w)), some (.d (.int r4)), none]) :=
        xOl_ev (oB_ev (Lst_ev (Cons_ev (op_ev rfl rfl az) (Cons_ev (op_ev rfl (op_ev rfl rfl sub_ii) ei) rfl)) (by show 2 ≤ sizeLine; decide)) rfl)
      have i5 : ixN (f1.map PyData.str).length (r4 - 1) = some k := by rw [List.length_map]; exact ek
      have sm2 : (f1.map PyData.str).set k (.str v) = (f1.set k v).map .str := by rw [List.map_set]
      refine ⟨f1.set k v, s5, [some (.st s5), some (.d (.int (m : Int))), some (.d WD), some (.d (.int (a : Int))), some (.d (.int (t : Int))), some (.d LT), none, some (.d (.str w)), some (.d (.int r4)), none], seq_ev (ifT_ev (xtP_ev tst) (seq_ev (setI_ev (xP_ev rfl) rfl rfl i4) (setI_ev (d := .str v) (xOp_ev ?_ em ev) (op_ev rfl rfl sub_ii) rfl i5))) (ret_ev ?_), rfl, by rw [List.length_set]; exact f1l, ?_, ?_, w5.mono (by omega)⟩
      · rw [sm]; exact eL
      · show _ = some (MO.lst ((f1.set k v).map .str), _)
        rw [← sm2]
        rfl
      · rcases hv with rfl | rfl
        · exact nodup_set f1n fun z => (f1g _ z).2 rfl
        · rw [← (List.getElem?_eq_some_iff.mp ey).2, List.set_getElem_self]; exact f1n
      · intro x hx
        rcases List.mem_or_eq_of_mem_set hx with z | z
        · exact (f1g x z).1
        · subst z
          rcases hv with rfl | rfl
          · exact ⟨by omega, w2ok⟩
          · exact (f1g _ (List.mem_of_getElem? ey)).1
    · have tst : gB (gOp ltD (gVar 8) (gVar 1)) ([some (.st s4), some (.d (.int (m : Int))), some (.d WD), some (.d (.int (a : Int))), some (.d (.int (t : Int))), some (.d LT), some (.lst (f0.map .str)), some (.d (.str w)), some (.d (.int r4)), none] : DS2) = some false := B_ev (op_ev rfl rfl (by show some (PyData.bool (decide (r4 < (m : Int)))) = _; rw [decide_eq_false hlt]))
      exact ⟨f0, s4, _, seq_ev (ifF_ev (xtP_ev tst) rfl) (ret_ev rfl), rfl, l0, nd0, good0, w4.mono (by omega)⟩
  obtain ⟨xs, s', dsf, et, es, p1, p2, p3, p4⟩ := tail
  have ht2 : addA (.int 1) (.int r2) = some (.int (t : Int)) := by rw [← ht]; rfl
  exact ⟨xs, s', runS_rt (seq_ev (asg_ev (oX_ev (xP_ev rfl))) (seq_ev (asg_ev (oX_ev (xP_ev (L_ev (split_ev (op_ev rfl rfl adW) rfl spl))))) (seq_ev (parN_ev (ms := [.d (.int (a : Int)), .d (.int (t : Int)), .d LT]) (oCons_ev (oX_ev e1) (oCons_ev (oX_ev (xOp_ev (xP_ev rfl) e2 ht2)) (oCons_ev (oX_ev (xP_ev rfl)) rfl))) rfl (by show 3 ≤ sizeLine; decide)) (seq_ev (asg_ev (oP_ev e6)) (seq_ev (asg_ev (oX_ev e7)) (seq_ev (asg_ev (oX_ev e8)) et)))))) es, p1, p2, p3, p4⟩
end LAW
set_option Elab.async false
set_option linter.all false
set_option maxRecDepth 100000
set_option maxHeartbeats 4000000
namespace LAW
open PySem PySem.Spec L2 DL PyProof.Rows
theorem strs_of {l : List Str} : ∀ {ys : List D}, (∀ y ∈ ys, ∃ x ∈ l, y = .str x) → ∃ l' : List Str, ys = l'.map .str ∧ ∀ x ∈ l', x ∈ l
  | [], _ => ⟨[], rfl, fun x z => by cases z⟩
  | y :: r, h => by
    obtain ⟨x, hx, e⟩ := h y (by simp)
    obtain ⟨l', e2, h2⟩ := strs_of fun z hz => h z (List.mem_cons_of_mem _ hz)
    refine ⟨x :: l', by rw [e, e2]; rfl, fun z hz => ?_⟩
    rcases List.mem_cons.mp hz with q | q
    · rw [q]; exact hx
    · exact h2 z q
/-- the loop's takings are a part of what is walked, in order -/
theorem lcX_sub {own : List Nat} {t : D → Option (List (Nat × D))} {h : XF St2 Bool} {g : XF St2 D} {kf : D → D} (I : Nat → DS2 → Prop) : ∀ (xs : List D) (ds : DS2), (∀ x ∈ xs, ∀ n ds, I (n + 1) ds → ∃ o ds', lcOneX own t h g x ds = some (o, ds') ∧ I n ds' ∧ ∀ y, o = some y → y = kf x) → I xs.length ds →
    ∃ (zs : List D) (ds' : DS2), lcRunX (lcOneX own t h g) xs ds = some (zs.map kf, ds') ∧ I 0 ds' ∧ zs.Sublist xs
  | [], ds, _, i => ⟨[], ds, rfl, i, .slnil⟩
  | x :: xs, ds, k, i => by
    obtain ⟨o, ds1, e1, i1, p1⟩ := k x (by simp) xs.length ds i
    obtain ⟨zs, ds2, e2, i2, p2⟩ := lcX_sub I xs ds1 (fun z hz => k z (List.mem_cons_of_mem _ hz)) i1
    cases o with
    | none => exact ⟨zs, ds2, by unfold lcRunX; rw [e1, Option.bind_some, e2]; rfl, i2, p2.cons _⟩
    | some y0 =>
      refine ⟨x :: zs, ds2, by unfold lcRunX; rw [e1, Option.bind_some, e2, p1 y0 rfl]; rfl, i2, p2.cons₂ _⟩
def unS : D → Str
  | .str x => x
  | _ => ""
theorem unS_map (l : List Str) : (l.map PyData.str).map unS = l := by
  induction l with
  | nil => rfl
  | cons x r ih => rw [List.map_cons, List.map_cons, ih]; rfl
theorem strs_perm {l l' : List Str} (h : (l.map PyData.str).Perm (l'.map PyData.str)) : l.Perm l' := by
  have := h.map unS
  rwa [unS_map, unS_map] at this
theorem sub_strs {l : List Str} {zs : List D} (h : zs.Sublist (l.map PyData.str)) : ∃ l' : List Str, zs = l'.map .str ∧ l'.Sublist l := by
  obtain ⟨l', h1, h2⟩ := List.sublist_map_iff.mp h
  exact ⟨l', h2, h1⟩
theorem cutD_sub {xs : List D} {lo hi : Option Int} : (DL.cutD xs lo hi).Sublist xs := (List.take_sublist _ _).trans (List.drop_sublist _ _)
/-- texts that stand in order -/
def Sd (l : List Str) : Prop := sortD (l.map .str) = l.map .str
theorem sort_strs_perm {l l' : List Str} (h : l.Perm l') : sortD (l.map .str) = sortD (l'.map .str) := by
  have e : ∀ l : List Str, l.map PyData.str = (l.map fun x => (Sum.inr x : Key)).map kD := fun l => by rw [List.map_map]; rfl
  rw [e, e]
  refine sortD_perm (h.map _) fun a ha b hb => ?_
  obtain ⟨x, _, rfl⟩ := List.mem_map.mp ha
  obtain ⟨y, _, rfl⟩ := List.mem_map.mp hb
  rfl
theorem cutD_mem {xs : List D} {lo hi : Option Int} : ∀ x ∈ DL.cutD xs lo hi, x ∈ xs := fun x hx => List.mem_of_mem_drop (List.mem_of_mem_take hx)
theorem alike_strs (l : List Str) : allAlikeB (l.map .str) = true := by
  unfold allAlikeB
  rw [List.all_eq_true]
  intro a ha
  obtain ⟨x, _, rfl⟩ := List.mem_map.mp ha
  rw [List.all_eq_true]
  intro b hb
  obtain ⟨y, _, rfl⟩ := List.mem_map.mp hb
  rfl
theorem sortable_strs (l : List Str) : sortableB (l.map .str) = true := by
  unfold sortableB
  rw [Bool.or_eq_true]
  right
  rw [List.all_eq_true]
  intro a ha
  obtain ⟨x, _, rfl⟩ := List.mem_map.mp ha
  rfl
theorem sorted_strs' (l : List Str) : ∃ l' : List Str, sortedD [.list (l.map .str)] = some (l'.map .str) ∧ l'.Perm l ∧ Sd l' := by
  have hd := depth_strs l
  have e : sortedD [.list (l.map .str)] = some (sortD (l.map .str)) := by
    unfold sortedD
    dsimp only
    rw [if_pos ⟨alike_strs l, sortable_strs l, by omega⟩]
  have pm : (sortD (l.map .str)).Perm (l.map .str) := List.mergeSort_perm _ _
  obtain ⟨l', e2, h2⟩ := strs_of (l := l) (ys := sortD (l.map .str)) fun y hy => by
    obtain ⟨x, hx, rfl⟩ := List.mem_map.mp (pm.mem_iff.mp hy)
    exact ⟨x, hx, rfl⟩
  have pl : l'.Perm l := strs_perm (by rw [← e2]; exact pm)
  exact ⟨l', by rw [e, e2], pl, by unfold Sd; rw [sort_strs_perm pl, e2]⟩
theorem sorted_strs (l : List Str) : ∃ l' : List Str, sortedD [.list (l.map .str)] = some (l'.map .str) ∧ (∀ x ∈ l', x ∈ l) ∧ l'.length = l.length := by
  obtain ⟨l', h1, h2, _⟩ := sorted_strs' l
  exact ⟨l', h1, fun x hx => h2.mem_iff.mp hx, h2.length_eq⟩
theorem orV_ev {ds : DS2} {a b : DS2 → Option D} {x y : D} {t : Bool} (e1 : a ds = some x) (e2 : truD x = some t) (e3 : t = true → y = x) (e4 : t = false → b ds = some y) : gOrV a b ds = some y := by
  unfold gOrV
  rw [e1, Option.bind_some, e2, Option.bind_some]
  cases t with
  | true => rw [if_pos rfl, e3 rfl]
  | false => rw [if_neg Bool.false_ne_true, e4 rfl]
theorem xSl3_ev {ds ds1 ds2 ds3 : DS2} {f : XF St2 D} {l h : XF St2 (Option Int)} {g : D → Option Int → Option Int → Option D} {x d : D} {lo hi : Option Int} (e : f ds = some (x, ds1)) (e1 : l ds1 = some (lo, ds2)) (e2 : h ds2 = some (hi, ds3)) (e3 : g x lo hi = some d) : xSl3 f l h g ds = some (d, ds3) := xb_ev e (xb_ev e1 (xb_ev e2 (xlift_ev e3)))
theorem xPart_ev {ds ds1 : DS2} {f : XF St2 D} {i : Int} (e : f ds = some (.int i, ds1)) : xPart f ds = some (some i, ds1) := xb_ev e (xlift_ev rfl)
theorem cut1 (x : D) (xs : List D) : DL.cutD (x :: xs) none (some ((1 : Nat) : Int)) ≠ [] := by
  unfold DL.cutD
  rw [HT.sIx_nat]
  simp [HT.sIx]
theorem cutD_len {xs : List D} {lo hi : Option Int} : (DL.cutD xs lo hi).length ≤ xs.length := by
  unfold DL.cutD
  rw [List.length_take, List.length_drop]
  omega
theorem some_ok {b : Nat} {s : St2} {xs : List Str} {least most : Nat} (h : Wf (b + xs.length) s) (l1 : least = 0 ∨ least = 1) : ∃ (ys : List Str) (s' : St2), F_law_some s [.list (xs.map .str), .int (least : Int), .int (most : Int)] = some (.d (.tuple (ys.map .str)), s') ∧ (∀ y ∈ ys, y ∈ xs) ∧ ys.length ≤ xs.length ∧ (least = 1 → xs ≠ [] → ys ≠ []) ∧ (xs.Nodup → ys.Nodup) ∧ Sd ys ∧ Wf b s' := by
  unfold F_law_some g_law_some
  obtain ⟨zs, ds', e2, ⟨s2, w2, rfl⟩, p2⟩ := lcX_sub (own := [5]) (t := asgN 5) (h := xBool (xOp eqD (xO (oCallS 2 0 F_law_draw (xCons (xP (gC (.int 3))) xNil))) (xP (gC (.int 0))))) (g := xP (gVar 5)) (kf := id) (fun k ds => ∃ s', Wf (b + k) s' ∧ ds = [some (.st s'), some (.d (.list (xs.map .str))), some (.d (.int (least : Int))), some (.d (.int (most : Int))), none, none])
    (xs.map .str) [some (.st s), some (.d (.list (xs.map .str))), some (.d (.int (least : Int))), some (.d (.int (most : Int))), none, none] (fun x _ k ds ⟨s', w', eds⟩ => by
      subst eds
      obtain ⟨q, s3, e3, q0, q1, w3⟩ := drawCall (b := b + k) (m := 3) (ds := [some (.st s'), some (.d (.list (xs.map .str))), some (.d (.int (least : Int))), some (.d (.int (most : Int))), none, some (.d x)]) (g := gC (.int 3)) w' rfl rfl (by decide) (by decide)
      have et : xBool (xOp eqD (xO (oCallS 2 0 F_law_draw (xCons (xP (gC (.int 3))) xNil))) (xP (gC (.int 0)))) ([some (.st s'), some (.d (.list (xs.map .str))), some (.d (.int (least : Int))), some (.d (.int (most : Int))), none, some (.d x)] : DS2) = some (q == 0, [some (.st s3), some (.d (.list (xs.map .str))), some (.d (.int (least : Int))), some (.d (.int (most : Int))), none, some (.d x)]) := xBool_ev (xOp_ev e3 (xP_ev rfl) rfl)
      cases hq : (q == 0) with
      | true => rw [hq] at et; exact ⟨_, _, oneT_ev rfl et (xP_ev rfl), ⟨s3, w3, rfl⟩, fun y hy => (Option.some.inj hy).symm⟩
      | false => rw [hq] at et; exact ⟨_, _, oneF_ev rfl et, ⟨s3, w3, rfl⟩, fun y hy => by cases hy⟩) ⟨s, by rw [List.length_map]; exact h, rfl⟩
  rw [List.map_id] at e2
  obtain ⟨l0, e0, h0s⟩ := sub_strs (l := xs) (zs := DL.cutD zs none (some (most : Int))) (cutD_sub.trans p2)
  have h0 : ∀ x ∈ l0, x ∈ xs := fun x hx => h0s.subset hx
  have l0l : l0.length ≤ xs.length := h0s.length_le
  have e4 : xSl3 (xO (xLc (xiP (gSrc (gVar 1))) [5] (asgN 5) (xBool (xOp eqD (xO (oCallS 2 0 F_law_draw (xCons (xP (gC (.int 3))) xNil))) (xP (gC (.int 0))))) (xP (gVar 5)))) xNoPart (xPart (xP (gVar 3))) slA ([some (.st s), some (.d (.list (xs.map .str))), some (.d (.int (least : Int))), some (.d (.int (most : Int))), none, none] : DS2) = some (.list (l0.map .str), [some (.st s2), some (.d (.list (xs.map .str))), some (.d (.int (least : Int))), some (.d (.int (most : Int))), none, none]) :=
    xSl3_ev (xOl_ev (lcX_ev (xiP_ev (Src_ev rfl rfl)) e2)) rfl (xPart_ev (xP_ev rfl)) (by show some (PyData.list (DL.cutD zs none (some (most : Int)))) = _; rw [e0])
  obtain ⟨lw, ew, hws⟩ := sub_strs (l := xs) (zs := DL.cutD (xs.map .str) none (some (least : Int))) cutD_sub
  have hw : ∀ x ∈ lw, x ∈ xs := fun x hx => hws.subset hx
  have lwl : lw.length ≤ xs.length := hws.length_le
  let pick : List Str := if l0.isEmpty then lw else l0
  have pm : ∀ x ∈ pick, x ∈ xs := by
    intro x hx
    by_cases z : l0.isEmpty = true
    · simp only [pick, if_pos z] at hx; exact hw x hx
    · simp only [pick, if_neg z] at hx; exact h0 x hx
  have pl : pick.length ≤ xs.length := by
    by_cases z : l0.isEmpty = true
    · simp only [pick, if_pos z]; exact lwl
    · simp only [pick, if_neg z]; exact l0l
  have pd : pick.Sublist xs := by
    by_cases z : l0.isEmpty = true
    · simp only [pick, if_pos z]; exact hws
    · simp only [pick, if_neg z]; exact h0s
  have pn : least = 1 → xs ≠ [] → pick ≠ [] := by
    intro h1 h2
    by_cases z : l0.isEmpty = true
    · simp only [pick, if_pos z]
      intro q
      rw [q] at ew
      cases xs with
      | nil => exact h2 rfl
      | cons x r =>
        rw [h1] at ew
        exact cut1 _ _ ew
    · simp only [pick, if_neg z]
      intro q
      rw [q] at z
      exact z rfl
  have eo : gOrV (gVar 4) (gSlA (gVar 1) gNoPart (gPart (gVar 2))) (hideDS ([some (.st s2), some (.d (.list (xs.map .str))), some (.d (.int (least : Int))), some (.d (.int (most : Int))), some (.d (.list (l0.map .str))), none] : DS2)) = some (.list (pick.map .str)) := by
    refine orV_ev (x := .list (l0.map .str)) (t := !l0.isEmpty) rfl (by show some (!(l0.map PyData.str).isEmpty) = _; cases l0 <;> rfl) (fun z => ?_) (fun z => ?_)
    · have z' : ¬ l0.isEmpty = true := by simpa using z
      simp only [pick, if_neg z']
    · have z' : l0.isEmpty = true := by simpa using z
      simp only [pick, if_pos z']
      exact SlA_ev rfl rfl rfl (by show some (PyData.list (DL.cutD (xs.map .str) none (some (least : Int)))) = _; rw [ew])
  obtain ⟨so, es, sp, sd⟩ := sorted_strs' pick
  have sm : ∀ x ∈ so, x ∈ pick := fun x hx => sp.mem_iff.mp hx
  have sl := sp.length_eq
  refine ⟨so, s2, runS_rt (seq_ev (asg_ev (oX_ev e4)) (ret_ev (oX_ev (xP_ev (Call_ev (Cons_ev (L_ev (Args_ev (Cons_ev eo rfl) es)) rfl) rfl))))) rfl, fun y hy => pm y (sm y hy), by omega, fun h1 h2 z => ?_, fun h => sp.nodup_iff.mpr (pd.nodup h), sd, w2.mono (by omega)⟩
  rw [z] at sl
  exact pn h1 h2 (List.length_eq_zero_iff.mp sl.symm)
end LAW
set_option Elab.async false
set_option linter.all false
set_option maxRecDepth 100000
set_option maxHeartbeats 4000000
namespace LAW
open PySem PySem.Spec L2 DL PyProof.Rows
/-- a comprehension of which only so much is known -/
theorem LcEx_ev {ds : DS2} {src : DS2 → Option (List D)} {own : List Nat} {t : D → Option (List (Nat × D))} {g : DS2 → Option D} {P : D → D → Prop} {xs : List D} (e : src ds = some xs) (h : ∀ x ∈ xs, ∃ as d, t x = some as ∧ g (setD (wipeD ds own) as) = some d ∧ P x d) : ∃ ys, gLc src own t gYes g ds = some ys ∧ ys.length = xs.length ∧ ∀ y ∈ ys, ∃ x ∈ xs, P x y := by
  have key : ∃ ys, lcRun (lcOne ds own t gYes g) xs = some ys ∧ ys.length = xs.length ∧ ∀ y ∈ ys, ∃ x ∈ xs, P x y := by
    clear e
    induction xs with
    | nil => exact ⟨[], rfl, rfl, fun y z => by cases z⟩
    | cons x r ih =>
      obtain ⟨ys, h1, h2, h3⟩ := ih fun z hz => h z (List.mem_cons_of_mem _ hz)
      obtain ⟨as, d, h4, h5, h6⟩ := h x (by simp)
      have one : lcOne ds own t gYes g x = some (some d) := One_ev (h := gYes) (b := true) h4 rfl fun _ => h5
      refine ⟨d :: ys, by unfold lcRun; rw [one, Option.bind_some, h1]; rfl, by rw [List.length_cons, List.length_cons, h2], fun y hy => ?_⟩
      rcases List.mem_cons.mp hy with z | z
      · exact ⟨x, by simp, by rw [z]; exact h6⟩
      · obtain ⟨w, hw, pw⟩ := h3 y z
        exact ⟨w, List.mem_cons_of_mem _ hw, pw⟩
  obtain ⟨ys, h1, h2⟩ := key
  exact ⟨ys, by unfold gLc; rw [e]; exact h1, h2⟩
theorem namesCall {b : Nat} {s : St2} {m : Nat} {ds : DS2} {g : DS2 → Option D} (h : Wf (b + 12) s) (e0 : stAt ds 0 = some s) (e : g (hideDS ds) = some (.int (m : Int))) (m1 : 1 ≤ m) (m2 : m ≤ 12) :
    ∃ (xs : List Str) (s' : St2), xO (oCallS 2 0 F_law_names (xCons (xP g) xNil)) ds = some (.list (xs.map .str), ds.set 0 (some (.st s'))) ∧ xs.length = m ∧ xs.Nodup ∧ (∀ x ∈ xs, GoodS x) ∧ Wf b s' := by
  obtain ⟨xs, s', h1, h2, h3, h4, h5⟩ := names_ok h m1 m2
  exact ⟨xs, s', xOl_ev (callS_ev e0 (xCons_ev (xP_ev e) rfl) e0 rfl h1), h2, h3, h4, h5⟩
theorem someCall {b : Nat} {s : St2} {xs : List Str} {least most : Nat} {ds : DS2} {g : DS2 → Option D} (h : Wf (b + xs.length) s) (l1 : least = 0 ∨ least = 1) (e0 : stAt ds 0 = some s) (e : g (hideDS ds) = some (.list (xs.map .str))) :
    ∃ (ys : List Str) (s' : St2), xO (oCallS 4 0 F_law_some (xCons (xP g) (xCons (xP (gC (.int (least : Int)))) (xCons (xP (gC (.int (most : Int)))) xNil)))) ds = some (.tuple (ys.map .str), ds.set 0 (some (.st s'))) ∧ (∀ y ∈ ys, y ∈ xs) ∧ ys.length ≤ xs.length ∧ (least = 1 → xs ≠ [] → ys ≠ []) ∧ (xs.Nodup → ys.Nodup) ∧ Sd ys ∧ Wf b s' := by
  obtain ⟨ys, s', h1, h2, h3, h4, h5⟩ := some_ok (most := most) h l1
  exact ⟨ys, s', xOd_ev (callS_ev e0 (xCons_ev (xP_ev e) (xCons_ev (xP_ev rfl) (xCons_ev (xP_ev rfl) rfl))) e0 rfl h1), h2, h3, h4, h5⟩
theorem andV_ev {ds : DS2} {a b : DS2 → Option D} {p q : Bool} (e1 : a ds = some (.bool p)) (e2 : b ds = some (.bool q)) : gAndV a b ds = some (.bool (p && q)) := by
  unfold gAndV
  rw [e1, Option.bind_some]
  cases p with
  | true => exact e2
  | false => rfl
theorem orV_b {ds : DS2} {a b : DS2 → Option D} {p q : Bool} (e1 : a ds = some (.bool p)) (e2 : b ds = some (.bool q)) : gOrV a b ds = some (.bool (p || q)) := by
  unfold gOrV
  rw [e1, Option.bind_some]
  cases p with
  | true => rfl
  | false => exact e2
theorem meet_ok (x y : Str) (p q : Pitch) : ∃ v : Bool, F_law_meet [.tuple [.str x, .str y], encP p, encP q] = some (.d (.bool v)) := by
  unfold F_law_meet g_law_meet
  exact ⟨_, runP_ev (ret_ev (oX_ev (xP_ev (orV_b (andV_ev (op_ev rfl rfl (inT x p.sorts)) (op_ev rfl rfl (inT y q.sorts))) (andV_ev (op_ev rfl rfl (inT y p.sorts)) (op_ev rfl rfl (inT x q.sorts))))))) rfl⟩
def GP (p : Pitch) : Prop := GoodS p.name ∧ 1 ≤ p.size ∧ p.size ≤ 4 ∧ (∀ x ∈ p.marks, GoodS x) ∧ p.marks.length ≤ 4 ∧ (∀ x ∈ p.sorts, GoodS x) ∧ p.sorts.length ≤ 4 ∧ p.sorts ≠ []
def IsPair (d : D) : Prop := ∃ a b : Str, d = .tuple [.str a, .str b] ∧ GoodS a ∧ GoodS b
theorem noListP : ∀ ps : List Pitch, noListAll (ps.map encP) = true
  | [] => rfl
  | p :: r => by
    show ((true && (true && (noListAll (p.marks.map .str) && (noListAll (p.sorts.map .str) && true)))) && noListAll (r.map encP)) = true
    rw [noListS, noListS, noListP r]
    rfl
theorem noListC : ∀ cs : List (Nat × Nat), noListAll (cs.map encC) = true
  | [] => rfl
  | c :: r => by
    show ((true && (true && true)) && noListAll (r.map encC)) = true
    rw [noListC r]
    rfl
theorem noListB : ∀ {bs : List D}, (∀ d ∈ bs, IsPair d) → noListAll bs = true
  | [], _ => rfl
  | d :: r, h => by
    obtain ⟨a, b, rfl, _⟩ := h d (by simp)
    show ((true && (true && true)) && noListAll r) = true
    rw [noListB fun z hz => h z (List.mem_cons_of_mem _ hz)]
    rfl
theorem depthB : ∀ {bs : List D}, (∀ d ∈ bs, IsPair d) → PyData.depthAll bs ≤ 3
  | [], _ => by decide
  | d :: r, h => by
    obtain ⟨a, b, rfl, _⟩ := h d (by simp)
    have := depthB fun z hz => h z (List.mem_cons_of_mem _ hz)
    simp only [PyData.depthAll, PyData.depth] at this ⊢
    omega
theorem sorted_pairs {bs : List D} (h : ∀ d ∈ bs, IsPair d) : ∃ bs', sortedD [.list bs] = some bs' ∧ (∀ d ∈ bs', IsPair d) ∧ bs'.length = bs.length := by
  have c1 : allAlikeB bs = true := by
    unfold allAlikeB
    rw [List.all_eq_true]
    intro x hx
    obtain ⟨a, b, rfl, _⟩ := h x hx
    rw [List.all_eq_true]
    intro y hy
    obtain ⟨c, d, rfl, _⟩ := h y hy
    rfl
  have c2 : sortableB bs = true := by
    unfold sortableB
    rw [Bool.or_eq_true]
    left
    rw [List.all_eq_true]
    intro x hx
    obtain ⟨a, b, rfl, _⟩ := h x hx
    rfl
  have c3 : PyData.depthAll bs ≤ 64 := Nat.le_trans (depthB h) (by decide)
  have e : sortedD [.list bs] = some (sortD bs) := by
    unfold sortedD
    dsimp only
    rw [if_pos ⟨c1, c2, c3⟩]
  have pm : (sortD bs).Perm bs := List.mergeSort_perm _ _
  exact ⟨_, e, fun d hd => h d (pm.mem_iff.mp hd), pm.length_eq⟩
theorem rng2_ok {i j : Nat} (hi : i ≤ 1000) (hj : j ≤ 1000) : rng2 [.int (i : Int), .int (j : Int)] = some ((List.range (j - i)).map fun (k : Nat) => PyData.int ((i : Int) + (k : Int))) := by
  show (if (j : Int) - i ≤ sizeLine ∧ -(2 ^ 62) ≤ (i : Int) ∧ (i : Int) < 2 ^ 62 ∧ -(2 ^ 62) ≤ (j : Int) ∧ (j : Int) < 2 ^ 62 then some (rngD i ((j : Int) - i).toNat) else none) = _
  have sz : (1000 : Nat) ≤ sizeLine := by decide
  rw [if_pos ⟨by omega, by omega, by omega, by omega, by omega⟩]
  have : ((j : Int) - i).toNat = j - i := by omega
  rw [this]
  rfl
theorem bools_all {ys : List D} (h : ∀ y ∈ ys, ∃ v : Bool, y = .bool v) : ∃ v : Bool, anyD [.list ys] = some (.bool v) := by
  have : ∃ bs, boolsOf ys = some bs := by
    induction ys with
    | nil => exact ⟨[], rfl⟩
    | cons y r ih =>
      obtain ⟨v, rfl⟩ := h y (by simp)
      obtain ⟨bs, hb⟩ := ih fun z hz => h z (List.mem_cons_of_mem _ hz)
      exact ⟨v :: bs, by unfold boolsOf; rw [hb]; rfl⟩
  obtain ⟨bs, hb⟩ := this
  exact ⟨_, by unfold anyD; dsimp only; rw [hb]; rfl⟩
end LAW
set_option Elab.async false
set_option linter.all false
set_option maxRecDepth 100000
set_option maxHeartbeats 4000000
namespace LAW
open PySem PySem.Spec L2 DL PyProof.Rows
/-- a pitch's marks and sorts stand in order, each once -/
def PM (p : Pitch) : Prop := (p.marks.Nodup ∧ Sd p.marks ∧ p.marks.length ≤ 3) ∧ p.sorts.Nodup ∧ Sd p.sorts
/-- the order of pairs -/
def Lx (a b : Nat × Nat) : Prop := a.1 < b.1 ∨ (a.1 = b.1 ∧ a.2 < b.2)
def gnames (g : Gd) : List Str := g.ps.map (·.name)
structure GG (g : Gd) : Prop where
  nd : (gnames g).Nodup
  len : 1 ≤ g.ps.length
  len2 : g.ps.length ≤ 8
  gp : ∀ p ∈ g.ps, GP p
  cl : ∀ c ∈ g.close, c.1 < c.2 ∧ c.2 < g.ps.length
  cl2 : g.close.length ≤ 64
  br : ∀ d ∈ g.bars, IsPair d
  br2 : g.bars.length ≤ 6
  pm : ∀ p ∈ g.ps, PM p
  cp : g.close.Pairwise Lx
theorem closes_of' {N : Nat} {one : Nat} : ∀ {ys : List D}, (∀ y ∈ ys, ∃ x ∈ (List.range (N - (one + 1))).map (fun (k : Nat) => PyData.int (((one + 1 : Nat) : Int) + (k : Int))), y = .tuple [.int (one : Int), x]) → ∃ cs : List (Nat × Nat), ys = cs.map encC ∧ ∀ c ∈ cs, c.1 < c.2 ∧ c.2 < N
  | [], _ => ⟨[], rfl, fun c z => by cases z⟩
  | y :: r, h => by
    obtain ⟨x, hx, e⟩ := h y (by simp)
    obtain ⟨k, hk, rfl⟩ := List.mem_map.mp hx
    have hk' := List.mem_range.mp hk
    obtain ⟨cs, e2, h2⟩ := closes_of' (N := N) (one := one) fun z hz => h z (List.mem_cons_of_mem _ hz)
    refine ⟨(one, one + 1 + k) :: cs, ?_, fun c hc => ?_⟩
    · rw [e, e2, List.map_cons]
      unfold encC
      dsimp only
      rw [show (((one + 1 + k : Nat)) : Int) = ((one + 1 : Nat) : Int) + (k : Int) from by omega]
    · rcases List.mem_cons.mp hc with z | z
      · rw [z]; dsimp only; omega
      · exact h2 c z
theorem closes_of {N one : Nat} {zs : List D} (h : zs.Sublist ((List.range (N - (one + 1))).map (fun (k : Nat) => PyData.int (((one + 1 : Nat) : Int) + (k : Int))))) : ∃ cs : List (Nat × Nat), zs.map (fun x => PyData.tuple [.int (one : Int), x]) = cs.map encC ∧ (∀ c ∈ cs, c.1 = one ∧ c.1 < c.2 ∧ c.2 < N) ∧ cs.Pairwise Lx ∧ cs.length ≤ N - (one + 1) := by
  obtain ⟨ks, h1, rfl⟩ := List.sublist_map_iff.mp h
  have h1l := h1.length_le
  rw [List.length_range] at h1l
  refine ⟨ks.map fun k => (one, one + 1 + k), ?_, fun c hc => ?_, ?_, by rw [List.length_map]; exact h1l⟩
  · rw [List.map_map, List.map_map]
    refine List.map_congr_left fun k _ => ?_
    show PyData.tuple [.int (one : Int), .int (((one + 1 : Nat) : Int) + (k : Int))] = PyData.tuple [.int (one : Int), .int (((one + 1 + k : Nat)) : Int)]
    rw [show (((one + 1 + k : Nat)) : Int) = ((one + 1 : Nat) : Int) + (k : Int) from by omega]
  · obtain ⟨k, hk, rfl⟩ := List.mem_map.mp hc
    have := List.mem_range.mp (h1.subset hk)
    refine ⟨rfl, ?_, ?_⟩ <;> dsimp only <;> omega
  · have p := List.pairwise_lt_range.sublist h1
    rw [List.pairwise_map]
    exact p.imp fun {a b} hab => .inr ⟨rfl, by dsimp only; omega⟩
theorem addL_l {xs ys : List D} (h : xs.length + ys.length ≤ sizeLine) : addA (.list xs) (.list ys) = some (.list (xs ++ ys)) := by
  show (addL (.list xs) (.list ys)).map PyData.list = _
  unfold addL
  dsimp only
  rw [if_pos h]
  rfl
theorem ground_ok {b : Nat} {s : St2} {M : Nat} (M1 : 1 ≤ M) (M8 : M ≤ 8) (h : Wf (b + 600) s) : ∃ (g : Gd) (s' : St2), F_law_ground s [.int (M : Int)] = some (.d (encG g), s') ∧ (GG g ∧ g.ps.length ≤ M) ∧ Wf b s' := by
  unfold F_law_ground g_law_ground
  have sz : (1000 : Nat) ≤ sizeLine := by decide
  let D7 : Option (MO St2) := some (.d (.int (M : Int)))
  obtain ⟨r1, s1, e1, r10, r11, w1⟩ := drawCall (b := b + 599) (m := (M : Int)) (ds := [some (.st s), D7, none, none, none, none, none, none, none, none, none, none, none, none, none]) (g := gVar 1) h rfl rfl (by omega) (by omega)
  obtain ⟨N, hN⟩ : ∃ N : Nat, 1 + r1 = (N : Int) := ⟨(1 + r1).toNat, by omega⟩
  have N1 : 1 ≤ N := by omega
  have N7 : N ≤ 8 := by omega
  obtain ⟨so, s2, e2, so4, son, sog, w2⟩ := namesCall (b := b + 587) (m := 4) (ds := [some (.st s1), D7, none, none, none, none, none, none, none, none, none, none, none, none, none]) (g := gC (.int 4)) w1 rfl rfl (by decide) (by decide)
  obtain ⟨mk, s3, e3, mk3, mkn, mkg, w3⟩ := namesCall (b := b + 575) (m := 3) (ds := [some (.st s2), D7, none, none, none, none, none, none, none, none, none, none, none, none, none]) (g := gC (.int 3)) w2 rfl rfl (by decide) (by decide)
  let DN : Option (MO St2) := some (.d (.int (N : Int)))
  let DS : Option (MO St2) := some (.d (.list (so.map .str)))
  let DM : Option (MO St2) := some (.d (.list (mk.map .str)))
  obtain ⟨nm, s4, e4, nmN, nmn, nmg, w4⟩ := namesCall (b := b + 563) (m := N) (ds := [some (.st s3), D7, DN, DS, DM, some (.lst []), none, none, none, none, none, none, none, none, none]) (g := gVar 2) w3 rfl rfl N1 (by omega)
  obtain ⟨dsP, f1, s5, ps, m6, w5, psn, psg, rfl⟩ := forList (σ := Unit) (t := asgN 6) (enc := .str) (step := fun _ _ => ()) (body := (gDrop (xMt 5 appD (xCons (xTup (xCons (xP (gVar 6)) (xCons (xOp addA (xP (gC (.int 1))) (xO (oCallS 2 0 F_law_draw (xCons (xP (gC (.int 4))) xNil)))) (xCons (xO (oCallS 4 0 F_law_some (xCons (xP (gVar 4)) (xCons (xP (gC (.int 0))) (xCons (xP (gC (.int 3))) xNil))))) (xCons (xO (oCallS 4 0 F_law_some (xCons (xP (gVar 3)) (xCons (xP (gC (.int 1))) (xCons (xP (gC (.int 4))) xNil))))) xNil))))) xNil))))
    (fun k _ ds => ∃ s ps m6, Wf (b + 400 + 8 * (N - k)) s ∧ ps.map (·.name) = nm.take k ∧ (∀ p ∈ ps, GP p ∧ PM p) ∧ ds = [some (.st s), D7, DN, DS, DM, some (.lst (ps.map encP)), m6, none, none, none, none, none, none, none, none]) nm () [some (.st s4), D7, DN, DS, DM, some (.lst []), none, none, none, none, none, none, none, none, none] (fun k x hk _ ds ⟨s, ps, m6, w, pn, pg, eds⟩ => by
      subst eds
      have hkN : k < N := by have := (List.getElem?_eq_some_iff.mp hk).1; omega
      have psl : ps.length = k := by
        have := congrArg List.length pn
        rw [List.length_map, List.length_take, nmN] at this
        omega
      obtain ⟨r, sa, ea, r0, r4, wa⟩ := drawCall (b := b + 400 + 8 * (N - (k + 1)) + 7) (m := 4) (ds := [some (.st s), D7, DN, DS, DM, some (.lst (ps.map encP)), some (.d (.str x)), none, none, none, none, none, none, none, none]) (g := gC (.int 4)) (w.mono (by omega)) rfl rfl (by decide) (by decide)
      obtain ⟨ma, sb, eb, ma1, ma2, _, mand, masd, wb⟩ := someCall (b := b + 400 + 8 * (N - (k + 1)) + 4) (xs := mk) (least := 0) (most := 3) (ds := [some (.st sa), D7, DN, DS, DM, some (.lst (ps.map encP)), some (.d (.str x)), none, none, none, none, none, none, none, none]) (g := gVar 4) (wa.mono (by omega)) (.inl rfl) rfl rfl
      obtain ⟨sr, sc, ec, sr1, sr2, sr3, srnd, srsd, wc⟩ := someCall (b := b + 400 + 8 * (N - (k + 1))) (xs := so) (least := 1) (most := 4) (ds := [some (.st sb), D7, DN, DS, DM, some (.lst (ps.map encP)), some (.d (.str x)), none, none, none, none, none, none, none, none]) (g := gVar 3) (wb.mono (by omega)) (.inr rfl) rfl rfl
      have gp : GP ⟨x, 1 + r, ma, sr⟩ := ⟨nmg x (List.mem_of_getElem? hk), by show 1 ≤ 1 + r; omega, by show 1 + r ≤ 4; omega, fun y hy => mkg y (ma1 y hy), by show ma.length ≤ 4; omega, fun y hy => sog y (sr1 y hy), by show sr.length ≤ 4; omega, sr3 rfl (fun z => by rw [z] at so4; cases so4)⟩
      refine ⟨_, _, rfl, drop_ev (xMt_ev (xs := ps.map encP) rfl (xCons_ev (xTup_ev (xCons_ev (xP_ev rfl) (xCons_ev (xOp_ev (xP_ev rfl) ea add_ii) (xCons_ev eb (xCons_ev ec rfl)))) (by show 4 ≤ sizeLine; decide)) rfl) rfl (app_ev (by rw [List.length_map]; omega))), _, .inl rfl, sc, ps ++ [⟨x, 1 + r, ma, sr⟩], some (.d (.str x)), wc, ?_, ?_, ?_⟩
      · rw [List.map_append, pn, List.take_add_one, hk]; rfl
      · intro p hp
        rcases List.mem_append.mp hp with z | z
        · exact pg p z
        · rw [List.mem_singleton.mp z]; exact ⟨gp, ⟨mand mkn, masd, by show ma.length ≤ 3; omega⟩, srnd son, srsd⟩
      · rw [List.map_append]; rfl) ⟨s4, [], none, w4.mono (by omega), by simp, (fun p z => by cases z), rfl⟩
  rw [nmN, List.take_of_length_le (by omega)] at psn
  have psl : ps.length = N := by
    have := congrArg List.length psn
    rw [List.length_map] at this
    omega
  -- which stand beside one another
  obtain ⟨dsC, f2, s6, cl, m8, w6, ⟨clb, _, clp⟩, cll, rfl⟩ := forList (σ := Unit) (t := asgN 8) (enc := fun (k : Nat) => PyData.int ((0 : Int) + (k : Int))) (step := fun _ _ => ()) (body := (gAsg 7 (oX (xOp addA (xP (gVar 7)) (xO (xLc (xiP (gArgs (gCons (gOp addA (gVar 8) (gC (.int 1))) (gCons (gVar 2) gNil)) rng2)) [12] (asgN 12) (xBool (xOp eqD (xO (oCallS 2 0 F_law_draw (xCons (xP (gC (.int 4))) xNil))) (xP (gC (.int 0))))) (xP (gTup (gCons (gVar 8) (gCons (gVar 12) gNil))))))))))
    (fun k _ ds => ∃ s cl m8, Wf (b + 200 + 8 * (N - k)) s ∧ ((∀ c ∈ cl, c.1 < c.2 ∧ c.2 < N) ∧ (∀ c ∈ cl, c.1 < k) ∧ cl.Pairwise Lx) ∧ cl.length ≤ 7 * k ∧ ds = [some (.st s), D7, DN, DS, DM, some (.lst (ps.map encP)), m6, some (.d (.list (cl.map encC))), m8, none, none, none, none, none, none]) (List.range N) () [some (.st s5), D7, DN, DS, DM, some (.lst (ps.map encP)), m6, some (.d (.list [])), none, none, none, none, none, none, none] (fun k q hk _ ds ⟨s, cl, m8, w, ⟨cb, cbk, cbp⟩, clen, eds⟩ => by
      subst eds
      obtain ⟨hkN, hq⟩ := List.getElem?_eq_some_iff.mp hk
      rw [List.length_range] at hkN
      rw [List.getElem_range] at hq
      subst hq
      obtain ⟨zs, ds', e5, ⟨s2, w2, rfl⟩, p2⟩ := lcX_sub (own := [12]) (t := asgN 12) (h := xBool (xOp eqD (xO (oCallS 2 0 F_law_draw (xCons (xP (gC (.int 4))) xNil))) (xP (gC (.int 0))))) (g := xP (gTup (gCons (gVar 8) (gCons (gVar 12) gNil)))) (kf := fun x => .tuple [.int (k : Int), x]) (fun n ds => ∃ s', Wf (b + 200 + 8 * (N - (k + 1)) + n) s' ∧ ds = [some (.st s'), D7, DN, DS, DM, some (.lst (ps.map encP)), m6, some (.d (.list (cl.map encC))), some (.d (.int ((0 : Int) + (k : Int)))), none, none, none, none, none, none])
        ((List.range (N - (k + 1))).map fun (j : Nat) => PyData.int (((k + 1 : Nat) : Int) + (j : Int))) [some (.st s), D7, DN, DS, DM, some (.lst (ps.map encP)), m6, some (.d (.list (cl.map encC))), some (.d (.int ((0 : Int) + (k : Int)))), none, none, none, none, none, none] (fun x _ n ds ⟨s', w', eds⟩ => by
          subst eds
          obtain ⟨q, s3, e3, q0, q1, w3⟩ := drawCall (b := b + 200 + 8 * (N - (k + 1)) + n) (m := 4) (ds := [some (.st s'), D7, DN, DS, DM, some (.lst (ps.map encP)), m6, some (.d (.list (cl.map encC))), some (.d (.int ((0 : Int) + (k : Int)))), none, none, none, some (.d x), none, none]) (g := gC (.int 4)) w' rfl rfl (by decide) (by decide)
          have et : xBool (xOp eqD (xO (oCallS 2 0 F_law_draw (xCons (xP (gC (.int 4))) xNil))) (xP (gC (.int 0)))) ([some (.st s'), D7, DN, DS, DM, some (.lst (ps.map encP)), m6, some (.d (.list (cl.map encC))), some (.d (.int ((0 : Int) + (k : Int)))), none, none, none, some (.d x), none, none] : DS2) = some (q == 0, [some (.st s3), D7, DN, DS, DM, some (.lst (ps.map encP)), m6, some (.d (.list (cl.map encC))), some (.d (.int ((0 : Int) + (k : Int)))), none, none, none, some (.d x), none, none]) := xBool_ev (xOp_ev e3 (xP_ev rfl) rfl)
          cases hq : (q == 0) with
          | true =>
            rw [hq] at et
            exact ⟨some (.tuple [.int (k : Int), x]), _, oneT_ev rfl et (xP_ev (Tup_ev (Cons_ev (by show some (PyData.int ((0 : Int) + (k : Int))) = _; rw [Int.zero_add]) (Cons_ev rfl rfl)) (by show 2 ≤ sizeLine; decide))), ⟨s3, w3, rfl⟩, fun y hy => (Option.some.inj hy).symm⟩
          | false => rw [hq] at et; exact ⟨_, _, oneF_ev rfl et, ⟨s3, w3, rfl⟩, fun y hy => by cases hy⟩) ⟨s, by rw [List.length_map, List.length_range]; exact w.mono (by omega), rfl⟩
      obtain ⟨cs, ecs, hcs, csp, len2⟩ := closes_of (N := N) (one := k) p2
      rw [ecs] at e5
      refine ⟨_, _, rfl, asg_ev (oX_ev (xOp_ev (xP_ev rfl) (xOl_ev (lcX_ev (xiP_ev (Args_ev (Cons_ev (op_ev rfl rfl add_ii) (Cons_ev rfl rfl)) (by rw [show (0 : Int) + (k : Int) + 1 = ((k + 1 : Nat) : Int) from by omega]; exact rng2_ok (by omega) (by omega)))) e5)) (addL_l (by rw [List.length_map, List.length_map]; omega)))), _, .inl rfl, s2, cl ++ cs, some (.d (.int ((0 : Int) + (k : Int)))), w2, ⟨?_, ?_, ?_⟩, ?_, ?_⟩
      · intro c hc
        rcases List.mem_append.mp hc with z | z
        · exact cb c z
        · exact (hcs c z).2
      · intro c hc
        rcases List.mem_append.mp hc with z | z
        · have := cbk c z; omega
        · have := (hcs c z).1; omega
      · refine List.pairwise_append.mpr ⟨cbp, csp, fun c hc d hd => .inl ?_⟩
        have := cbk c hc
        have := (hcs d hd).1
        omega
      · rw [List.length_append]; omega
      · rw [List.map_append]; rfl) ⟨s5, [], none, w5.mono (by omega), ⟨(fun c z => by cases z), (fun c z => by cases z), .nil⟩, by simp, rfl⟩
  rw [List.length_range] at cll w6
  -- the pairs of sorts
  have get : ∀ i : Nat, i < 4 → ∃ x : Str, so[i]? = some x ∧ GoodS x := fun i hi => ⟨so[i]'(by omega), List.getElem?_eq_getElem _, sog _ (List.getElem_mem _)⟩
  obtain ⟨pr, e6, pr6, prp⟩ := LcEx_ev (ds := hideDS [some (.st s6), D7, DN, DS, DM, some (.lst (ps.map encP)), m6, some (.d (.list (cl.map encC))), m8, none, none, none, none, none, none]) (own := [13]) (t := asgN 13) (src := gSrc (gTup (gCons (gC (.int 0)) (gCons (gC (.int 1)) (gCons (gC (.int 2)) (gCons (gC (.int 6)) (gCons (gC (.int 11)) (gCons (gC (.int 15)) gNil)))))))) (g := gL (gArgs (gCons (gL (gLst (gCons (gOp ixD (gVar 3) (gOp divD (gVar 13) (gC (.int 4)))) (gCons (gOp ixD (gVar 3) (gOp modD (gVar 13) (gC (.int 4)))) gNil)))) gNil) sortedD)) (P := fun _ y => ∃ a b : Str, y = .list [.str a, .str b] ∧ GoodS a ∧ GoodS b) (xs := ([0, 1, 2, 6, 11, 15] : List Nat).map fun (k : Nat) => PyData.int (k : Int)) rfl (fun x hx => by
      obtain ⟨k, hk, rfl⟩ := List.mem_map.mp hx
      have k16 : k < 16 := by
        have : ∀ k ∈ ([0, 1, 2, 6, 11, 15] : List Nat), k < 16 := by decide
        exact this k hk
      obtain ⟨x1, g1, o1⟩ := get (k / 4) (by omega)
      obtain ⟨x2, g2, o2⟩ := get (k % 4) (by omega)
      obtain ⟨l', es, hm, hl⟩ := sorted_strs [x1, x2]
      match l', hl with
      | [a, b], _ =>
        have good : ∀ z ∈ [x1, x2], GoodS z := fun z hz => by
          rcases List.mem_cons.mp hz with q | q
          · rw [q]; exact o1
          · rw [List.mem_singleton.mp q]; exact o2
        refine ⟨_, _, rfl, L_ev (Args_ev (Cons_ev (L_ev (Lst_ev (Cons_ev (op_ev rfl (op_ev rfl rfl ((div_ok (by decide) (by decide)).trans (by rw [show (k : Int) / 4 = ((k / 4 : Nat) : Int) from by omega]))) (ix_strs g1)) (Cons_ev (op_ev rfl (op_ev rfl rfl ((mod_ok (by decide)).trans (by rw [show (k : Int) % 4 = ((k % 4 : Nat) : Int) from by omega]))) (ix_strs g2)) rfl)) (by show 2 ≤ sizeLine; decide))) rfl) es), a, b, rfl, good a (hm a (by simp)), good b (hm b (by simp))⟩)
  let DC : Option (MO St2) := some (.d (.list (cl.map encC)))
  let DP : Option (MO St2) := some (.lst (ps.map encP))
  obtain ⟨bs0, ds', e7, ⟨s7, w7, rfl⟩, p7, len7⟩ := lcX_run (own := [14]) (t := asgN 14) (h := xBool (xOp eqD (xO (oCallS 2 0 F_law_draw (xCons (xP (gC (.int 2))) xNil))) (xP (gC (.int 0))))) (g := xP (gCall (gCons (gVar 14) gNil) tupleD)) (P := fun _ y => IsPair y) (fun n ds => ∃ s', Wf (b + 100 + n) s' ∧ ds = [some (.st s'), D7, DN, DS, DM, DP, m6, DC, m8, some (.d (.list pr)), some (.lst []), none, none, none, none])
    pr [some (.st s6), D7, DN, DS, DM, DP, m6, DC, m8, some (.d (.list pr)), some (.lst []), none, none, none, none] (fun x hx n ds ⟨s', w', eds⟩ => by
      subst eds
      obtain ⟨_, _, a, b0, rfl, ga, gb⟩ := prp x hx
      obtain ⟨q, s3, e3, q0, q1, w3⟩ := drawCall (b := b + 100 + n) (m := 2) (ds := [some (.st s'), D7, DN, DS, DM, DP, m6, DC, m8, some (.d (.list pr)), some (.lst []), none, none, none, some (.d (.list [.str a, .str b0]))]) (g := gC (.int 2)) w' rfl rfl (by decide) (by decide)
      have et : xBool (xOp eqD (xO (oCallS 2 0 F_law_draw (xCons (xP (gC (.int 2))) xNil))) (xP (gC (.int 0)))) ([some (.st s'), D7, DN, DS, DM, DP, m6, DC, m8, some (.d (.list pr)), some (.lst []), none, none, none, some (.d (.list [.str a, .str b0]))] : DS2) = some (q == 0, [some (.st s3), D7, DN, DS, DM, DP, m6, DC, m8, some (.d (.list pr)), some (.lst []), none, none, none, some (.d (.list [.str a, .str b0]))]) := xBool_ev (xOp_ev e3 (xP_ev rfl) rfl)
      cases hq : (q == 0) with
      | true => rw [hq] at et; exact ⟨_, _, oneT_ev rfl et (xP_ev (Call_ev (Cons_ev rfl rfl) rfl)), ⟨s3, w3, rfl⟩, fun y hy => ⟨a, b0, (Option.some.inj hy).symm, ga, gb⟩⟩
      | false => rw [hq] at et; exact ⟨_, _, oneF_ev rfl et, ⟨s3, w3, rfl⟩, fun y hy => by cases hy⟩) ⟨s6, w6.mono (by rw [pr6]; show b + 100 + 6 ≤ _; omega), rfl⟩
  have bsP : ∀ d ∈ bs0, IsPair d := fun d hd => let ⟨_, _, h⟩ := p7 d hd; h
  have bs6 : bs0.length ≤ 6 := by rw [pr6] at len7; exact len7
  obtain ⟨dsB, f3, bars, m11, brP, brl, rfl⟩ := forList (σ := Unit) (t := asgN 11) (enc := id) (step := fun _ _ => ()) (body := (gIfS (xtP (gNot (gTr (gCall (gCons (gL (gLc (gSrc (gVar 7)) [8, 12] (asgT [8, 12]) gYes (gCallP 3 F_law_meet (gCons (gVar 11) (gCons (gOp ixD (gVar 5) (gVar 8)) (gCons (gOp ixD (gVar 5) (gVar 12)) gNil)))))) gNil) anyD))))
  (gDrop (xMt 10 appD (xCons (xP (gVar 11)) xNil)))
  gNext)) (fun k _ ds => ∃ bars m11, (∀ d ∈ bars, IsPair d) ∧ bars.length ≤ k ∧ ds = [some (.st s7), D7, DN, DS, DM, DP, m6, DC, m8, some (.d (.list pr)), some (.lst bars), m11, none, none, none]) bs0 () [some (.st s7), D7, DN, DS, DM, DP, m6, DC, m8, some (.d (.list pr)), some (.lst []), none, none, none, none] (fun k x hk _ ds ⟨bars, m11, bp, bl, eds⟩ => by
      subst eds
      have hx := List.mem_of_getElem? hk
      have hk6 : k < 6 := by have := (List.getElem?_eq_some_iff.mp hk).1; omega
      have ipx := bsP x hx
      obtain ⟨a, b0, rfl, ga, gb⟩ := id ipx
      obtain ⟨vs, e8, _, pv⟩ := LcEx_ev (ds := [some (.st s7), D7, DN, DS, DM, DP, m6, DC, m8, some (.d (.list pr)), some (.lst bars), some (.d (.tuple [.str a, .str b0])), none, none, none]) (own := [8, 12]) (t := asgT [8, 12]) (src := gSrc (gVar 7)) (g := gCallP 3 F_law_meet (gCons (gVar 11) (gCons (gOp ixD (gVar 5) (gVar 8)) (gCons (gOp ixD (gVar 5) (gVar 12)) gNil)))) (P := fun _ y => ∃ v : Bool, y = .bool v) (xs := cl.map encC) rfl (fun y hy => by
        obtain ⟨c, hc, rfl⟩ := List.mem_map.mp hy
        obtain ⟨c1, c2⟩ := clb c hc
        have g1 : (ps.map encP)[c.1]? = some (encP (ps[c.1]'(by omega))) := by rw [List.getElem?_map, List.getElem?_eq_getElem (by omega)]; rfl
        have g2 : (ps.map encP)[c.2]? = some (encP (ps[c.2]'(by omega))) := by rw [List.getElem?_map, List.getElem?_eq_getElem (by omega)]; rfl
        obtain ⟨v, ev⟩ := meet_ok a b0 (ps[c.1]'(by omega)) (ps[c.2]'(by omega))
        exact ⟨_, .bool v, rfl, CallP_ev (Cons_ev rfl (Cons_ev (op_ev rfl rfl (ixL_nat g1)) (Cons_ev (op_ev rfl rfl (ixL_nat g2)) rfl))) rfl ev rfl, v, rfl⟩)
      obtain ⟨v, ev⟩ := bools_all (ys := vs) fun y hy => let ⟨_, _, h⟩ := pv y hy; h
      have tst : (gNot (gTr (gCall (gCons (gL (gLc (gSrc (gVar 7)) [8, 12] (asgT [8, 12]) gYes (gCallP 3 F_law_meet (gCons (gVar 11) (gCons (gOp ixD (gVar 5) (gVar 8)) (gCons (gOp ixD (gVar 5) (gVar 12)) gNil)))))) gNil) anyD))) ([some (.st s7), D7, DN, DS, DM, DP, m6, DC, m8, some (.d (.list pr)), some (.lst bars), some (.d (.tuple [.str a, .str b0])), none, none, none] : DS2) = some (!v) := Not_ev (Tr_ev (Call_ev (Cons_ev (L_ev e8) rfl) ev) rfl)
      cases hv : v with
      | false =>
        rw [hv] at tst
        refine ⟨_, _, rfl, ifT_ev (xtP_ev tst) (drop_ev (xMt_ev (xs := bars) rfl (xCons_ev (xP_ev rfl) rfl) rfl (app_ev (by omega)))), _, .inl rfl, bars ++ [.tuple [.str a, .str b0]], some (.d (.tuple [.str a, .str b0])), fun d hd => ?_, by rw [List.length_append]; simp; omega, rfl⟩
        rcases List.mem_append.mp hd with z | z
        · exact bp d z
        · rw [List.mem_singleton.mp z]; exact ipx
      | true =>
        rw [hv] at tst
        exact ⟨_, _, rfl, ifF_ev (xtP_ev tst) rfl, _, .inl rfl, bars, some (.d (.tuple [.str a, .str b0])), bp, by omega, rfl⟩) ⟨[], none, (fun d z => by cases z), Nat.le_refl _, rfl⟩
  rw [List.map_id] at f3
  obtain ⟨bars', eb, bp', bl'⟩ := sorted_pairs brP
  have src : (xiP (gArgs (gCons (gVar 2) gNil) rng1)) ([some (.st s5), D7, DN, DS, DM, DP, m6, some (.d (.list [])), none, none, none, none, none, none, none] : DS2) = some ((List.range N).map fun (k : Nat) => PyData.int ((0 : Int) + (k : Int)), [some (.st s5), D7, DN, DS, DM, DP, m6, some (.d (.list [])), none, none, none, none, none, none, none]) := xiP_ev (Args_ev rfl (rng1_ok (by omega)))
  have aN : addA (.int 1) (.int r1) = some (.int (N : Int)) := by rw [← hN]; rfl
  refine ⟨⟨ps, cl, bars'⟩, s7, runS_rt (seq_ev (parN_ev (ms := [.d (.int (N : Int)), .d (.list (so.map .str)), .d (.list (mk.map .str))]) (oCons_ev (oX_ev (xOp_ev (xP_ev rfl) e1 aN)) (oCons_ev (oX_ev e2) (oCons_ev (oX_ev e3) rfl))) rfl (by show 3 ≤ sizeLine; decide)) (seq_ev (asg_ev (oP_ev (Lst_ev rfl (by show 0 ≤ sizeLine; decide)))) (seq_ev (DL.for_ev (xb_ev e4 rfl) f1) (seq_ev (asg_ev (oX_ev (xP_ev (L_ev (Lst_ev rfl (by show 0 ≤ sizeLine; decide)))))) (seq_ev (DL.for_ev src f2) (seq_ev (asg_ev (oX_ev (xP_ev (L_ev e6)))) (seq_ev (asg_ev (oP_ev (Lst_ev rfl (by show 0 ≤ sizeLine; decide)))) (seq_ev (DL.for_ev (xb_ev (xOl_ev (lcX_ev (xiP_ev rfl) e7)) rfl) f3) (ret_ev (oX_ev (xB_ev (Tup_ev (Cons_ev (Call_ev (Cons_ev rfl rfl) rfl) (Cons_ev (Call_ev (Cons_ev rfl rfl) rfl) (Cons_ev (Call_ev (Cons_ev (L_ev (Args_ev (Cons_ev rfl rfl) eb)) rfl) rfl) rfl))) (by show 3 ≤ sizeLine; decide)) ?_))))))))))) rfl, ⟨⟨?_, ?_, ?_, fun p hp => (psg p hp).1, ?_, ?_, bp', ?_, fun p hp => (psg p hp).2, clp⟩, ?_⟩, w7.mono (by omega)⟩
  · show (noListAll (ps.map encP) && (noListAll (cl.map encC) && (noListAll bars' && true))) = true
    rw [noListP, noListC, noListB bp']
    rfl
  · show (ps.map (·.name)).Nodup
    rw [psn]; exact nmn
  · show 1 ≤ ps.length; omega
  · show ps.length ≤ 8; omega
  · intro c hc; show c.1 < c.2 ∧ c.2 < ps.length; rw [psl]; exact clb c hc
  · show cl.length ≤ 64; omega
  · show bars'.length ≤ 6; omega
  · show ps.length ≤ M; omega
end LAW
set_option Elab.async false
set_option linter.all false
set_option maxRecDepth 100000
set_option maxHeartbeats 4000000
namespace LAW
open PySem PySem.Spec L2 DL PyProof.Rows
/-! ### what a shown text is -/
theorem ok_iff {x : Str} : PyData.strOk x = true ↔ ∀ c ∈ x.cps.toList, c < 0x110000 := by
  unfold PyData.strOk
  rw [Array.all_eq_true_iff_forall_mem]
  constructor
  · intro h c hc
    simpa using h c (by simpa using hc)
  · intro h c hc
    simpa using h c (by simpa using hc)
theorem char_lt (c : Char) : c.toNat < 0x110000 := by
  rcases c.valid with h | h
  · have : c.toNat < 0xd800 := h
    omega
  · exact h.2
theorem ok_of (s : String) : PyData.strOk (Str.ofString s) = true := by
  rw [ok_iff, Str.ofString_eq_toList]
  intro c hc
  simp at hc
  obtain ⟨ch, _, rfl⟩ := hc
  exact char_lt ch
theorem ok_char (q c : Nat) (hc : c < 0x110000) : ∀ d ∈ Builtin.Str.reprChar q c, d < 0x110000 := by
  have hx : ∀ (n : Nat) (d : Nat), d ∈ (List.replicate n 48 ++ (Nat.toDigits 16 c).map Char.toNat) → d < 0x110000 := by
    intro n d hd
    rcases List.mem_append.mp hd with z | z
    · rw [(List.mem_replicate.mp z).2]; omega
    · obtain ⟨ch, _, rfl⟩ := List.mem_map.mp z
      exact char_lt ch
  intro d hd
  unfold Builtin.Str.reprChar at hd
  dsimp only at hd
  have two : ∀ a b : Nat, a < 0x110000 → b < 0x110000 → d ∈ [a, b] → d < 0x110000 := by
    intro a b ha hb h
    simp at h
    omega
  split at hd
  · exact two _ _ (by omega) hc hd
  · split at hd
    · exact two _ _ (by omega) (by omega) hd
    · split at hd
      · exact two _ _ (by omega) (by omega) hd
      · split at hd
        · exact two _ _ (by omega) (by omega) hd
        · split at hd
          · simp at hd; omega
          · split at hd
            · rcases List.mem_append.mp hd with z | z
              · exact two _ _ (by omega) (by omega) z
              · exact hx _ _ z
            · split at hd
              · rcases List.mem_append.mp hd with z | z
                · exact two _ _ (by omega) (by omega) z
                · exact hx _ _ z
              · rcases List.mem_append.mp hd with z | z
                · exact two _ _ (by omega) (by omega) z
                · exact hx _ _ z
theorem ok_repr {x : Str} (h : PyData.strOk x = true) : PyData.strOk (reprText x) = true := by
  have hq : reprQuote x < 0x110000 := by
    unfold reprQuote
    split <;> omega
  have key : ∀ (l : List Nat) (acc : Array Nat), (∀ c ∈ l, c < 0x110000) → (∀ c ∈ acc.toList, c < 0x110000) → ∀ c ∈ (l.foldl (fun out c => out ++ (Builtin.Str.reprChar (reprQuote x) c).toArray) acc).toList, c < 0x110000 := by
    intro l
    induction l with
    | nil => intro acc _ ha; exact ha
    | cons z r ih =>
      intro acc hl ha
      rw [List.foldl_cons]
      refine ih _ (fun c hc => hl c (List.mem_cons_of_mem _ hc)) fun c hc => ?_
      rw [Array.toList_append] at hc
      rcases List.mem_append.mp hc with y | y
      · exact ha c y
      · exact ok_char _ z (hl z (by simp)) c (by simpa using y)
  rw [ok_iff] at h ⊢
  intro c hc
  unfold reprText at hc
  rw [← Array.foldl_toList] at hc
  simp only [Array.toList_push, List.mem_append, List.mem_singleton] at hc
  rcases hc with z | z
  · exact key _ _ h (fun c hc => by simp at hc; omega) c z
  · omega
theorem ok_app {x y : Str} (h1 : PyData.strOk x = true) (h2 : PyData.strOk y = true) : PyData.strOk (x ++ y) = true := app_ok h1 h2
theorem ok_join (sep : Str) (hs : PyData.strOk sep = true) : ∀ ts : List Str, (∀ t ∈ ts, PyData.strOk t = true) → PyData.strOk (Str.join sep ts) = true
  | [], _ => by show PyData.strOk Str.empty = true; decide +kernel
  | [x], h => h x (by simp)
  | x :: y :: r, h => app_ok (app_ok (h x (by simp)) hs) (ok_join sep hs (y :: r) fun t ht => h t (List.mem_cons_of_mem _ ht))
theorem ok_from : ∀ (ts : List Str) (k : Nat) (acc : Str), PyData.strOk acc = true → (∀ t ∈ ts, PyData.strOk t = true) → PyData.strOk (textFrom k acc ts) = true
  | [], _, _, h, _ => h
  | t :: ts, k, acc, h, ht => ok_from ts (k + 1) _ (app_ok (app_ok h (ok_of _)) (ht t (by simp))) fun z hz => ht z (List.mem_cons_of_mem _ hz)
mutual
theorem ok_shown : ∀ d : D, d.canLay0 = true → PyData.strOk d.shown = true
  | .none, _ => ok_of _
  | .bool b, _ => by cases b <;> exact ok_of _
  | .int i, _ => ok_of _
  | .str x, h => ok_repr h
  | .list xs, h => app_ok (ok_from _ _ _ (ok_of _) (ok_shownAll xs h)) (ok_of _)
  | .tuple xs, h => app_ok (app_ok (ok_of _) (ok_join _ (ok_of _) _ (ok_shownAll xs h))) (ok_of _)
  | .dict _, h => by cases h
theorem ok_shownAll : ∀ ds : List D, PyData.canLayAll0 ds = true → ∀ t ∈ PyData.shownAll ds, PyData.strOk t = true
  | [], _ => fun t z => by cases z
  | x :: xs, h => by
    have h' : (x.canLay0 && PyData.canLayAll0 xs) = true := h
    obtain ⟨h1, h2⟩ := Bool.and_eq_true_iff.mp h'
    intro t ht
    rcases List.mem_cons.mp (show t ∈ x.shown :: PyData.shownAll xs from ht) with z | z
    · rw [z]; exact ok_shown x h1
    · exact ok_shownAll xs h2 t z
end
/-! ### data that can be shown -/
structure Nc (k w : Nat) (d : D) : Prop where
  lay : d.canLay0 = true
  dep : d.depth ≤ k
  wt : d.weight ≤ w
  sh : d.intsShort 20 = true
  ok : d.showable = true
theorem Nc.mono {k k' w w' : Nat} {d : D} (h : Nc k w d) (h1 : k ≤ k') (h2 : w ≤ w') : Nc k' w' d := ⟨h.lay, Nat.le_trans h.dep h1, Nat.le_trans h.wt h2, h.sh, h.ok⟩
theorem nc_int {i : Int} (h : i.natAbs < 10 ^ 19) : Nc 0 70 (.int i) := by
  have l : i.natAbs ≠ 0 → i.natAbs.log2 < 64 := fun z => (Nat.log2_lt z).mpr (by omega)
  have l2 : i.natAbs.log2 < 64 := by
    by_cases z : i.natAbs = 0
    · rw [z]; decide
    · exact l z
  refine ⟨rfl, Nat.le_refl _, ?_, ?_, ?_⟩
  · show (if i == 0 then 0 else i.natAbs.log2 + 1) ≤ 70
    split <;> omega
  · have e := int_text_length_le10 (a := i) (k := 19) (by decide) h
    show decide ((Str.ofString (toString i)).length ≤ 20) = true
    rw [PySem.ofString_length]
    exact decide_eq_true e
  · show decide (i.natAbs.log2 < 1920) = true
    exact decide_eq_true (by omega)
theorem nc_str {x : Str} (h : GoodS x) : Nc 0 8 (.str x) := ⟨h.2, Nat.le_refl _, h.1, rfl, rfl⟩
theorem nc_all {k w : Nat} : ∀ {xs : List D}, (∀ x ∈ xs, Nc k w x) → PyData.canLayAll0 xs = true ∧ PyData.depthAll xs ≤ k + 1 ∧ PyData.weightAll xs ≤ xs.length * (w + 1) ∧ PyData.intsShortAll 20 xs = true ∧ PyData.showableAll xs = true
  | [], _ => ⟨rfl, by simp [PyData.depthAll], by simp [PyData.weightAll], rfl, rfl⟩
  | x :: r, h => by
    obtain ⟨h1, h2, h3, h4, h5⟩ := nc_all fun z hz => h z (List.mem_cons_of_mem _ hz)
    have hx := h x (by simp)
    refine ⟨?_, ?_, ?_, ?_, ?_⟩
    · show (x.canLay0 && PyData.canLayAll0 r) = true; rw [hx.lay, h1]; rfl
    · have := hx.dep
      simp only [PyData.depthAll] at h2 ⊢
      omega
    · have := hx.wt
      show x.weight + 1 + PyData.weightAll r ≤ (r.length + 1) * (w + 1)
      rw [Nat.add_mul]
      omega
    · show (x.intsShort 20 && PyData.intsShortAll 20 r) = true; rw [hx.sh, h4]; rfl
    · show (x.showable && PyData.showableAll r) = true; rw [hx.ok, h5]; rfl
theorem nc_tup {k w n : Nat} {xs : List D} (h : ∀ x ∈ xs, Nc k w x) (l : xs.length ≤ n) : Nc (k + 2) (n * (w + 1)) (.tuple xs) := by
  obtain ⟨h1, h2, h3, h4, h5⟩ := nc_all h
  exact ⟨h1, by simp only [PyData.depth]; omega, Nat.le_trans h3 (Nat.mul_le_mul_right _ l), h4, h5⟩
theorem nc_lst {k w n : Nat} {xs : List D} (h : ∀ x ∈ xs, Nc k w x) (l : xs.length ≤ n) : Nc (k + 2) (n * (w + 1)) (.list xs) := by
  obtain ⟨h1, h2, h3, h4, h5⟩ := nc_all h
  exact ⟨h1, by simp only [PyData.depth]; omega, Nat.le_trans h3 (Nat.mul_le_mul_right _ l), h4, h5⟩
theorem repr_ok {d : D} (h : Nc 60 700000 d) : reprD [d] = some (.str d.shown) := by
  have l := PyData.shown_le 20 (by decide) d (PyData.leavesShort_of_canLay0 20 d h.lay h.sh)
  have z : d.shown.length ≤ sizeLine := by
    rw [sizeLine_eq]
    have h2 := h.wt
    omega
  unfold reprD
  dsimp only
  rw [if_pos ⟨h.ok, Nat.le_trans h.dep (by decide), z, ok_shown d h.lay⟩]
end LAW
set_option Elab.async false
set_option linter.all false
set_option maxRecDepth 100000
set_option maxHeartbeats 4000000
namespace LAW
open PySem PySem.Spec L2 DL PyProof.Rows
theorem nc_strs {l : List Str} (h : ∀ x ∈ l, GoodS x) (n : l.length ≤ 4) : Nc 2 36 (.tuple (l.map .str)) := by
  refine nc_tup (k := 0) (w := 8) (n := 4) (fun y hy => ?_) (by rw [List.length_map]; exact n)
  obtain ⟨z, hz, rfl⟩ := List.mem_map.mp hy
  exact nc_str (h z hz)
/-- a pitch that can be shown -/
def SP (p : Pitch) : Prop := GoodS p.name ∧ 0 ≤ p.size ∧ p.size ≤ 4 ∧ ((∀ x ∈ p.marks, GoodS x) ∧ p.marks.length ≤ 4) ∧ (∀ x ∈ p.sorts, GoodS x) ∧ p.sorts.length ≤ 4
theorem sp_gp {p : Pitch} (h : GP p) : SP p := by
  obtain ⟨p1, p2, p3, p4, p5, p6, p7, _⟩ := h
  exact ⟨p1, by omega, p3, ⟨p4, p5⟩, p6, p7⟩
theorem nc_P {p : Pitch} (h : SP p) : Nc 4 284 (encP p) := by
  obtain ⟨p1, p2, p3, ⟨p4, p5⟩, p6, p7⟩ := h
  refine nc_tup (k := 2) (w := 70) (n := 4) (fun z hz => ?_) (by show 4 ≤ 4; decide)
  simp only [List.mem_cons, List.not_mem_nil, or_false] at hz
  rcases hz with rfl | rfl | rfl | rfl
  · exact (nc_str p1).mono (by omega) (by omega)
  · exact (nc_int (by omega)).mono (by omega) (by omega)
  · exact (nc_strs p4 p5).mono (by omega) (by omega)
  · exact (nc_strs p6 p7).mono (by omega) (by omega)
theorem nc_C {cs : List (Nat × Nat)} (h : ∀ c ∈ cs, c.1 < 1000 ∧ c.2 < 1000) (l : cs.length ≤ 64) : Nc 4 9152 (.tuple (cs.map encC)) := by
  refine (nc_tup (k := 2) (w := 142) (n := 64) (fun y hy => ?_) (by rw [List.length_map]; exact l)).mono (by omega) (by omega)
  obtain ⟨c, hc, rfl⟩ := List.mem_map.mp hy
  obtain ⟨c1, c2⟩ := h c hc
  refine nc_tup (k := 0) (w := 70) (n := 2) (fun z hz => ?_) (by show 2 ≤ 2; decide)
  simp only [List.mem_cons, List.not_mem_nil, or_false] at hz
  rcases hz with rfl | rfl
  · exact nc_int (by omega)
  · exact nc_int (by omega)
theorem nc_B {bs : List D} (h : ∀ d ∈ bs, IsPair d) (l : bs.length ≤ 6) : Nc 4 9152 (.tuple bs) := by
  refine (nc_tup (k := 2) (w := 18) (n := 6) (fun y hy => ?_) l).mono (by omega) (by omega)
  obtain ⟨a, b, rfl, ga, gb⟩ := h y hy
  refine nc_tup (k := 0) (w := 8) (n := 2) (fun z hz => ?_) (by show 2 ≤ 2; decide)
  simp only [List.mem_cons, List.not_mem_nil, or_false] at hz
  rcases hz with rfl | rfl
  · exact nc_str ga
  · exact nc_str gb
/-- three parts of a ground, each shown -/
theorem nc_3 {ps : List D} {cs : List (Nat × Nat)} {bs : List D} (hp : ∀ p ∈ ps, Nc 4 284 p) (lp : ps.length ≤ 8) (hc : ∀ c ∈ cs, c.1 < 1000 ∧ c.2 < 1000) (lc : cs.length ≤ 64) (hb : ∀ d ∈ bs, IsPair d) (lb : bs.length ≤ 6) : Nc 8 27459 (.tuple [.tuple ps, .tuple (cs.map encC), .tuple bs]) := by
  refine nc_tup (k := 6) (w := 9152) (n := 3) (fun d hd => ?_) (by show 3 ≤ 3; decide)
  simp only [List.mem_cons, List.not_mem_nil, or_false] at hd
  rcases hd with rfl | rfl | rfl
  · exact (nc_tup (k := 4) (w := 284) (n := 8) hp lp).mono (by omega) (by omega)
  · exact (nc_C hc lc).mono (by omega) (by omega)
  · exact (nc_B hb lb).mono (by omega) (by omega)
theorem nc_G {g : Gd} (gg : GG g) : Nc 8 27459 (encG g) := by
  refine nc_3 (fun p hp => ?_) (by rw [List.length_map]; exact gg.len2) (fun c hc => ?_) gg.cl2 gg.br gg.br2
  · obtain ⟨p', hp', rfl⟩ := List.mem_map.mp hp
    exact nc_P (sp_gp (gg.gp p' hp'))
  · have := gg.cl c hc
    have := gg.len2
    omega
end LAW
set_option Elab.async false
set_option linter.all false
set_option maxRecDepth 100000
set_option maxHeartbeats 4000000
namespace LAW
open PySem PySem.Spec L2 DL PyProof.Rows
def both (p q : Pitch) : List Str := p.sorts.filter fun x => decide (x ∈ q.sorts)
theorem both_let_ok (p q : Pitch) : F_both_let [encP p, encP q] = some (.lst ((both p q).map .str)) := by
  unfold F_both_let g_both_let
  exact runP_ev (ret_ev (oP_ev (LcSome_ev (es := p.sorts) (enc := .str) (p := fun x => decide (x ∈ q.sorts)) (k := .str) rfl fun x _ => ⟨_, rfl, B_ev (op_ev rfl (op_ev rfl rfl rfl) (inT x q.sorts)), fun _ => rfl⟩))) rfl
theorem common_ok (p q : Pitch) : F_law_common [encP p, encP q] = some (.lst ((both p q).map .str)) := by
  unfold F_law_common g_law_common
  exact runP_ev (ret_ev (oP_ev (LcSome_ev (es := p.sorts) (enc := .str) (p := fun x => decide (x ∈ q.sorts)) (k := .str) rfl fun x _ => ⟨_, rfl, B_ev (op_ev rfl (op_ev rfl rfl rfl) (inT x q.sorts)), fun _ => rfl⟩))) rfl
/-- the marks of two, each once -/
def marks2 (p q : Pitch) : List Str := p.marks ++ q.marks.filter fun x => !decide (x ∈ p.marks)
theorem marks2_nodup {p q : Pitch} (hp : PM p) (hq : PM q) : (marks2 p q).Nodup := by
  unfold marks2
  refine List.nodup_append.mpr ⟨hp.1.1, hq.1.1.filter _, fun a ha b hb e => ?_⟩
  subst e
  have := (List.mem_filter.mp hb).2
  simp [ha] at this
theorem at1 {a b : D} {r : List D} : ixD (.tuple (a :: b :: r)) (.int 1) = some b := ixT_nat (xs := a :: b :: r) (i := 1) rfl
theorem at2 {a b c : D} {r : List D} : ixD (.tuple (a :: b :: c :: r)) (.int 2) = some c := ixT_nat (xs := a :: b :: c :: r) (i := 2) rfl
theorem distK_nodup (ks : List Key) : (distK ks).Nodup := by
  unfold distK
  suffices h : ∀ (ks acc : List Key), acc.Nodup → (ks.foldl addK acc).Nodup from h ks [] .nil
  intro ks
  induction ks with
  | nil => intro acc h; exact h
  | cons k r ih =>
    intro acc h
    rw [List.foldl_cons]
    refine ih _ ?_
    unfold addK
    by_cases hk : hasK acc k = true
    · rw [if_pos hk]; exact h
    · rw [if_neg hk]
      refine List.nodup_append.mpr ⟨h, by simp, fun a ha b hb e => ?_⟩
      rw [List.mem_singleton.mp hb] at e
      subst e
      apply hk
      unfold hasK
      rw [List.any_eq_true]
      exact ⟨a, ha, decide_eq_true rfl⟩
def iR (l : List Str) : List Key := l.map fun x => Sum.inr x
theorem iR_kD (l : List Str) : (iR l).map kD = l.map PyData.str := by unfold iR; rw [List.map_map]; rfl
theorem keysD_strs : ∀ l : List Str, keysD (l.map .str) = some (iR l)
  | [] => rfl
  | x :: r => by
    rw [List.map_cons]
    unfold keysD
    rw [keysD_strs r]
    rfl
theorem iR_nodup {l : List Str} (h : l.Nodup) : (iR l).Nodup := by
  unfold iR
  exact List.pairwise_map.mpr (h.imp fun {a b} hab e => hab (Sum.inr.inj e))
theorem alikeR (l : List Str) : alikeK (iR l) = true := by
  unfold alikeK iR
  rw [List.all_eq_true]
  intro a ha
  obtain ⟨x, _, rfl⟩ := List.mem_map.mp ha
  rw [List.all_eq_true]
  intro b hb
  obtain ⟨y, _, rfl⟩ := List.mem_map.mp hb
  rfl
end LAW
set_option Elab.async false
set_option linter.all false
set_option maxRecDepth 100000
set_option maxHeartbeats 4000000
namespace LAW
open PySem PySem.Spec L2 DL PyProof.Rows
theorem sortedD_strs (l : List Str) : sortedD [.list (l.map .str)] = some (sortD (l.map .str)) := by
  unfold sortedD
  dsimp only
  rw [if_pos ⟨alike_strs l, sortable_strs l, Nat.le_trans (depth_strs l) (by decide)⟩]
/-- texts put in order -/
def srt (l : List Str) : List Str := (sortD (l.map .str)).map unS
theorem srt_eq (l : List Str) : sortD (l.map .str) = (srt l).map .str := by
  obtain ⟨l', h1, h2, h3⟩ := sorted_strs' l
  rw [sortedD_strs] at h1
  unfold srt
  rw [Option.some.inj h1, unS_map]
theorem srt_perm (l : List Str) : (srt l).Perm l := by
  refine strs_perm ?_
  rw [← srt_eq]
  exact List.mergeSort_perm _ _
theorem srt_self {l : List Str} (h : Sd l) : srt l = l := by
  unfold srt
  rw [h, unS_map]
theorem cut_take (xs : List D) (n : Nat) : DL.cutD xs none (some (n : Int)) = xs.take n := by
  unfold DL.cutD
  rw [HT.sIx_nat]
  show (xs.drop 0).take (min n xs.length - 0) = _
  rw [List.drop_zero, Nat.sub_zero]
  rcases Nat.le_total n xs.length with h | h
  · rw [Nat.min_eq_left h]
  · rw [Nat.min_eq_right h, List.take_of_length_le h, List.take_of_length_le (Nat.le_refl _)]
def join2 (p q : Pitch) : Pitch := ⟨p.name, min 4 (p.size + q.size), (srt (marks2 p q)).take 3, both p q⟩
theorem setsort_ok {p q : Pitch} (hp : PM p) (hq : PM q) : sortSetD (.tuple ((p.marks ++ q.marks).map .str)) = some ((srt (marks2 p q)).map .str) := by
  have perm : (distK (iR (p.marks ++ q.marks))).Perm (iR (marks2 p q)) := by
    refine (List.perm_ext_iff_of_nodup (distK_nodup _) (iR_nodup (marks2_nodup hp hq))).mpr fun k => ?_
    rw [mem_distK]
    unfold iR
    simp only [List.mem_map, List.mem_append, marks2, List.mem_filter]
    refine ⟨fun ⟨x, hx, e⟩ => ⟨x, ?_, e⟩, fun ⟨x, hx, e⟩ => ⟨x, hx.imp_right (·.1), e⟩⟩
    rcases hx with h | h
    · exact .inl h
    · by_cases z : x ∈ p.marks
      · exact .inl z
      · exact .inr ⟨h, by simp [z]⟩
  have al : alikeK (distK (iR (p.marks ++ q.marks))) = true := by
    unfold alikeK
    rw [List.all_eq_true]
    intro a ha
    rw [List.all_eq_true]
    intro b hb
    obtain ⟨x, _, rfl⟩ := List.mem_map.mp (mem_distK.mp ha)
    obtain ⟨y, _, rfl⟩ := List.mem_map.mp (mem_distK.mp hb)
    rfl
  have l1 := hp.1.2.2
  have l2 := hq.1.2.2
  unfold sortSetD onKeys
  dsimp only
  rw [keysD_strs, Option.bind_some, if_pos ⟨by unfold iR; rw [List.length_map, List.length_append]; omega, al⟩]
  rw [sortD_perm perm fun a ha b hb => ?_, iR_kD, srt_eq]
  · unfold alikeK at al
    rw [List.all_eq_true] at al
    have := al a ha
    rw [List.all_eq_true] at this
    exact this b hb
theorem addT {xs ys : List D} (h : xs.length + ys.length ≤ sizeLine) : addA (.tuple xs) (.tuple ys) = some (.tuple (xs ++ ys)) := by
  show (if xs.length + ys.length ≤ sizeLine then some (PyData.tuple (xs ++ ys)) else none) = _
  rw [if_pos h]
theorem gp_at {g : Gd} {n : Nat} {p : Pitch} (h : g.ps[n]? = some p) : ixD (.tuple (g.ps.map encP)) (.int (n : Int)) = some (encP p) := ixT_nat (by rw [List.getElem?_map, h]; rfl)
theorem together1 {g : Gd} {n : Nat} {p : Pitch} (h : g.ps[n]? = some p) : F_put_together [encG g, .tuple [.int (n : Int)]] = some (.d (encP p)) := by
  unfold F_put_together g_put_together
  exact runP_ev (seq_rt (ifT_ev (xtP_ev (B_ev (op_ev (Call_ev (Cons_ev rfl rfl) rfl) rfl rfl))) (ret_ev (oX_ev (xP_ev (op_ev (op_ev rfl rfl rfl) (op_ev rfl rfl at0) (gp_at h))))))) rfl
theorem at3 {a b c d : D} {r : List D} : ixD (.tuple (a :: b :: c :: d :: r)) (.int 3) = some d := ixT_nat (xs := a :: b :: c :: d :: r) (i := 3) rfl
theorem together2 {g : Gd} {n m : Nat} {p q : Pitch} (h : g.ps[n]? = some p) (h2 : g.ps[m]? = some q) (hp : PM p) (hq : PM q) : F_put_together [encG g, .tuple [.int (n : Int), .int (m : Int)]] = some (.d (encP (join2 p q))) := by
  unfold F_put_together g_put_together
  have lc : ∀ ds : DS2, ds = [some (.d (encG g)), some (.d (.tuple [.int (n : Int), .int (m : Int)])), none, none, none, none] → gLc (gSrc (gVar 1)) [5] (asgN 5) gYes (gOp ixD (gOp ixD (gVar 0) (gC (.int 0))) (gVar 5)) ds = some [encP p, encP q] := by
    rintro _ rfl
    exact LcAll_ev (es := [(n, p), (m, q)]) (enc := fun z => .int (z.1 : Nat)) (k := fun z => encP z.2) rfl fun z hz => ⟨_, rfl, by
      simp only [List.mem_cons, List.not_mem_nil, or_false] at hz
      rcases hz with rfl | rfl
      · exact op_ev (op_ev rfl rfl rfl) rfl (gp_at h)
      · exact op_ev (op_ev rfl rfl rfl) rfl (gp_at h2)⟩
  have sz : (1000 : Nat) ≤ sizeLine := by decide
  have l1 := hp.1.2.2
  have l2 := hq.1.2.2
  have mm : min2 [.int 4, .int (p.size + q.size)] = some (.int (min 4 (p.size + q.size))) := by
    show some (PyData.int (if p.size + q.size < 4 then p.size + q.size else 4)) = _
    congr 2
    rw [Int.min_def]
    split <;> split <;> omega
  refine runP_ev (seq_ev (ifF_ev (xtP_ev (B_ev (op_ev (Call_ev (Cons_ev rfl rfl) rfl) rfl rfl))) rfl) (seq_ev (asgT_ev (xP_ev (L_ev (lc _ rfl))) rfl) (seq_ev (asg_ev (m := .d (.list ((srt (marks2 p q)).take 3 |>.map .str))) (oX_ev (xP_ev (SlA_ev (x := .list ((srt (marks2 p q)).map .str)) (L_ev ?_) rfl rfl ?_)))) (ret_ev (oX_ev (xP_ev (Tup_ev (Cons_ev (op_ev rfl rfl at0) (Cons_ev (Call_ev (Cons_ev rfl (Cons_ev (op_ev (op_ev rfl rfl at1) (op_ev rfl rfl at1) add_ii) rfl)) mm) (Cons_ev (Call_ev (Cons_ev rfl rfl) rfl) (Cons_ev (Call_ev (Cons_ev (CallP_ev (Cons_ev rfl (Cons_ev rfl rfl)) rfl (both_let_ok p q) rfl) rfl) rfl) rfl)))) (by show 4 ≤ sizeLine; decide)))))))) rfl
  · unfold gSortSet
    rw [op_ev (x := .tuple (p.marks.map .str)) (y := .tuple (q.marks.map .str)) (z := .tuple ((p.marks ++ q.marks).map .str)) (op_ev rfl rfl at2) (op_ev rfl rfl at2) (by rw [List.map_append]; exact addT (by rw [List.length_map, List.length_map]; omega))]
    exact setsort_ok hp hq
  · show some (PyData.list (DL.cutD ((srt (marks2 p q)).map .str) none (some ((3 : Nat) : Int)))) = _
    rw [cut_take, List.map_take]
end LAW
set_option Elab.async false
set_option linter.all false
set_option maxRecDepth 100000
set_option maxHeartbeats 4000000
namespace LAW
open PySem PySem.Spec L2 DL PyProof.Rows
abbrev MS := List Str × List Str
def stepP (s : MS) (p : Pitch) : MS := (s.1 ++ p.marks.filter fun x => !decide (x ∈ s.1), s.2.filter fun x => decide (x ∈ p.sorts))
theorem noListAllS (l : List Str) : noListAll (l.map .str) = true := noListS l
/-- the law's own putting together -/
theorem law_pitch_ok {g : Gd} {l : List (Nat × Pitch)} {p0 : Nat × Pitch} {t : List (Nat × Pitch)} (el : l = p0 :: t) (hl : l.length ≤ 4) (hg : ∀ z ∈ l, g.ps[z.1]? = some z.2) (hm : ∀ z ∈ l, PM z.2) :
    F_law_pitch [encG g, .tuple (l.map fun z => .int (z.1 : Nat))] = some (.d (encP ⟨p0.2.name, min 4 ((l.map (·.2.size)).sum), (srt (((l.map (·.2)).foldl stepP ([], p0.2.sorts)).1)).take 3, ((l.map (·.2)).foldl stepP ([], p0.2.sorts)).2⟩)) := by
  unfold F_law_pitch g_law_pitch
  have sz : (1000 : Nat) ≤ sizeLine := by decide
  let DG : Option (MO St2) := some (.d (encG g))
  let DT : Option (MO St2) := some (.d (.tuple (l.map fun z => .int (z.1 : Nat))))
  let DL1 : Option (MO St2) := some (.d (.list ((l.map (·.2)).map encP)))
  have lc : gLc (gSrc (gVar 1)) [6] (asgN 6) gYes (gOp ixD (gOp ixD (gVar 0) (gC (.int 0))) (gVar 6)) (hideDS ([DG, DT, none, none, none, none, none, none, none] : DS2)) = some ((l.map (·.2)).map encP) := by
    rw [List.map_map]
    exact LcAll_ev (es := l) (enc := fun z => .int (z.1 : Nat)) (k := fun z => encP z.2) rfl fun z hz => ⟨_, rfl, op_ev (op_ev rfl rfl rfl) rfl (gp_at (hg z hz))⟩
  have first : ixD (.list ((l.map (·.2)).map encP)) (.int 0) = some (encP p0.2) := by
    subst el
    exact ixL_nat (i := 0) rfl
  obtain ⟨ds', f1, m5, ml, rfl⟩ := forList (σ := MS) (t := asgN 5) (enc := encP) (step := stepP) (body := (gSeq (gDrop (xMt 3 extBD (xCons (xO (oB (gLc (gSrc (gOp ixD (gVar 5) (gC (.int 2)))) [7] (asgN 7) (gB (gOp ninD (gVar 7) (gVar 3))) (gVar 7)))) xNil)))
  (gAsg 4 (oX (xP (gL (gLc (gSrc (gVar 4)) [8] (asgN 8) (gB (gOp inD (gVar 8) (gOp ixD (gVar 5) (gC (.int 3))))) (gVar 8))))))))
    (fun k s ds => ∃ m5, s.1.length ≤ 4 * k ∧ ds = [DG, DT, DL1, some (.lst (s.1.map .str)), some (.d (.list (s.2.map .str))), m5, none, none, none]) (l.map (·.2)) ([], p0.2.sorts) [DG, DT, DL1, some (.lst []), some (.d (.list (p0.2.sorts.map .str))), none, none, none, none] (fun k p hk s ds ⟨m5, ml, eds⟩ => by
      subst eds
      obtain ⟨z, hz, rfl⟩ := List.mem_map.mp (List.mem_of_getElem? hk)
      have hk4 : k < 4 := by have := (List.getElem?_eq_some_iff.mp hk).1; rw [List.length_map] at this; omega
      have pm := hm z hz
      have fl : (z.2.marks.filter fun x => !decide (x ∈ s.1)).length ≤ 3 := Nat.le_trans (List.length_filter_le _ _) pm.1.2.2
      refine ⟨_, _, rfl, seq_ev (drop_ev (d := .none) (xMt_ev (xs := s.1.map .str) (as := [.list ((z.2.marks.filter fun x => !decide (x ∈ s.1)).map .str)]) (ys := (stepP s z.2).1.map .str) rfl (xCons_ev (xOl_ev (oB_ev (LcSome_ev (es := z.2.marks) (enc := .str) (p := fun x => !decide (x ∈ s.1)) (k := .str) (Src_ev (op_ev rfl rfl at2) rfl) fun x _ => ⟨_, rfl, B_ev (op_ev rfl rfl (ninS x s.1)), fun _ => rfl⟩) (noListAllS _))) rfl) rfl ?_)) (asg_ev (m := .d (.list ((stepP s z.2).2.map .str))) (oX_ev (xP_ev (L_ev (LcSome_ev (es := s.2) (enc := .str) (p := fun x => decide (x ∈ z.2.sorts)) (k := .str) rfl fun x _ => ⟨_, rfl, B_ev (op_ev rfl (op_ev rfl rfl at3) (inT x z.2.sorts)), fun _ => rfl⟩))))), _, .inl rfl, some (.d (encP z.2)), ?_, rfl⟩
      · show extD (s.1.map .str) [.list ((z.2.marks.filter fun x => !decide (x ∈ s.1)).map .str)] = _
        show (if (s.1.map PyData.str).length + ((z.2.marks.filter fun x => !decide (x ∈ s.1)).map PyData.str).length ≤ sizeLine then some (PyData.none, s.1.map PyData.str ++ (z.2.marks.filter fun x => !decide (x ∈ s.1)).map PyData.str) else none) = _
        rw [if_pos (by rw [List.length_map, List.length_map]; omega), ← List.map_append]
        rfl
      · show (s.1 ++ _).length ≤ _
        rw [List.length_append]
        omega) ⟨none, by simp, rfl⟩
  rw [List.length_map] at ml
  have sums : gL (gLc (gSrc (gVar 2)) [5] (asgN 5) gYes (gOp ixD (gVar 5) (gC (.int 1)))) ([DG, DT, DL1, some (.lst ((List.foldl stepP ([], p0.2.sorts) (l.map (·.2))).1.map .str)), some (.d (.list ((List.foldl stepP ([], p0.2.sorts) (l.map (·.2))).2.map .str))), m5, none, none, none] : DS2) = some (.list ((l.map (·.2.size)).map .int)) := by
    refine L_ev ?_
    have := LcAll_ev (ds := ([DG, DT, DL1, some (.lst ((List.foldl stepP ([], p0.2.sorts) (l.map (·.2))).1.map .str)), some (.d (.list ((List.foldl stepP ([], p0.2.sorts) (l.map (·.2))).2.map .str))), m5, none, none, none] : DS2)) (own := [5]) (t := asgN 5) (src := gSrc (gVar 2)) (g := gOp ixD (gVar 5) (gC (.int 1))) (es := l.map (·.2)) (enc := encP) (k := fun p => .int p.size) rfl fun z hz => ⟨_, rfl, op_ev rfl rfl at1⟩
    rw [this, List.map_map, List.map_map]
    rfl
  have mm : min2 [.int 4, .int ((l.map (·.2.size)).sum)] = some (.int (min 4 ((l.map (·.2.size)).sum))) := by
    show some (PyData.int (if (l.map (·.2.size)).sum < 4 then (l.map (·.2.size)).sum else 4)) = _
    congr 2
    rw [Int.min_def]
    split <;> split <;> omega
  have ss : sumD [.list ((l.map (·.2.size)).map .int)] = some (.int ((l.map (·.2.size)).sum)) := by
    unfold sumD
    dsimp only
    rw [intsOf_map]
    rfl
  have cc : slA (.list ((srt (((l.map (·.2)).foldl stepP ([], p0.2.sorts)).1)).map .str)) none (some 3) = some (.list (((srt (((l.map (·.2)).foldl stepP ([], p0.2.sorts)).1)).take 3).map .str)) := by
    show some (PyData.list (DL.cutD _ none (some ((3 : Nat) : Int)))) = _
    rw [cut_take, List.map_take]
  refine runP_ev (seq_ev (asg_ev (oX_ev (xP_ev (L_ev lc)))) (seq_ev (parN_ev (ms := [.lst [], .d (.list (p0.2.sorts.map .str))]) (oCons_ev (oP_ev (Lst_ev rfl (by show 0 ≤ sizeLine; decide))) (oCons_ev (oX_ev (xP_ev (L_ev (Args_ev (Cons_ev (op_ev (op_ev rfl rfl first) rfl at3) rfl) rfl)))) rfl)) rfl (by show 2 ≤ sizeLine; decide)) (seq_ev (DL.for_ev (xiP_ev rfl) f1) (ret_ev (oX_ev (xB_ev (Tup_ev (Cons_ev (op_ev (op_ev rfl rfl first) rfl at0) (Cons_ev (Call_ev (Cons_ev rfl (Cons_ev (Call_ev (Cons_ev sums rfl) ss) rfl)) mm) (Cons_ev (Call_ev (Cons_ev (SlA_ev (L_ev (Args_ev (Cons_ev rfl rfl) ((sortedD_strs _).trans (congrArg some (srt_eq _))))) rfl rfl cc) rfl) rfl) (Cons_ev (Call_ev (Cons_ev rfl rfl) rfl) rfl)))) (by show 4 ≤ sizeLine; decide)) ?_)))))) rfl
  show (true && (true && (noListAll (((srt _).take 3).map .str) && (noListAll (List.map .str _) && true)))) = true
  rw [noListS, noListS]
  rfl
theorem filter_self {l : List Str} : (l.filter fun x => decide (x ∈ l)) = l := List.filter_eq_self.mpr fun x hx => decide_eq_true hx
theorem filter_nil {l : List Str} : (l.filter fun x => !decide (x ∈ ([] : List Str))) = l := List.filter_eq_self.mpr fun x _ => by simp
theorem pitch1 {g : Gd} {n : Nat} {p : Pitch} (h : g.ps[n]? = some p) (hp : PM p) (gp : GP p) : F_law_pitch [encG g, .tuple [.int (n : Int)]] = some (.d (encP p)) := by
  have := law_pitch_ok (g := g) (l := [(n, p)]) rfl (by simp) (fun z hz => by rw [List.mem_singleton.mp hz]; exact h) (fun z hz => by rw [List.mem_singleton.mp hz]; exact hp)
  rw [show ([.int (n : Int)] : List D) = [(n, p)].map fun z => .int (z.1 : Nat) from rfl, this]
  have e1 : (List.foldl stepP ([], p.sorts) [p]) = (p.marks, p.sorts) := by
    show ([] ++ p.marks.filter fun x => !decide (x ∈ ([] : List Str)), p.sorts.filter fun x => decide (x ∈ p.sorts)) = _
    rw [filter_self, List.nil_append, filter_nil]
  show some (MO.d (encP ⟨p.name, min 4 (p.size + 0), (srt (List.foldl stepP ([], p.sorts) [p]).1).take 3, (List.foldl stepP ([], p.sorts) [p]).2⟩)) = _
  have z4 := gp.2.2.1
  rw [e1, srt_self hp.1.2.1, List.take_of_length_le hp.1.2.2, show min 4 (p.size + 0) = p.size from by omega]
theorem pitch2 {g : Gd} {n m : Nat} {p q : Pitch} (h : g.ps[n]? = some p) (h2 : g.ps[m]? = some q) (hp : PM p) (hq : PM q) : F_law_pitch [encG g, .tuple [.int (n : Int), .int (m : Int)]] = some (.d (encP (join2 p q))) := by
  have := law_pitch_ok (g := g) (l := [(n, p), (m, q)]) rfl (by simp) (fun z hz => by
    simp only [List.mem_cons, List.not_mem_nil, or_false] at hz
    rcases hz with rfl | rfl
    · exact h
    · exact h2) (fun z hz => by
    simp only [List.mem_cons, List.not_mem_nil, or_false] at hz
    rcases hz with rfl | rfl
    · exact hp
    · exact hq)
  rw [show ([.int (n : Int), .int (m : Int)] : List D) = [(n, p), (m, q)].map fun z => .int (z.1 : Nat) from rfl, this]
  have e1 : (List.foldl stepP ([], p.sorts) [p, q]) = (marks2 p q, both p q) := by
    show (([] ++ p.marks.filter fun x => !decide (x ∈ ([] : List Str))) ++ q.marks.filter (fun x => !decide (x ∈ ([] ++ p.marks.filter fun x => !decide (x ∈ ([] : List Str))))), (p.sorts.filter fun x => decide (x ∈ p.sorts)).filter fun x => decide (x ∈ q.sorts)) = _
    rw [filter_self, List.nil_append, filter_nil]
    rfl
  show some (MO.d (encP ⟨p.name, min 4 (p.size + (q.size + 0)), (srt (List.foldl stepP ([], p.sorts) [p, q]).1).take 3, (List.foldl stepP ([], p.sorts) [p, q]).2⟩)) = _
  rw [e1, Int.add_zero]
  rfl
end LAW
set_option Elab.async false
set_option linter.all false
set_option maxRecDepth 100000
set_option maxHeartbeats 4000000
namespace LAW
open PySem PySem.Spec L2 DL PyProof.Rows
/-- a loop that may end early -/
theorem forAny {S β : Type} {t : D → Option (List (Nat × D))} {body : SF S} {enc : β → D} {p : β → Bool} {m : MO S} (Rel : DS S → Prop) : ∀ (es : List β) (ds : DS S), (∀ e ∈ es, ∀ ds, Rel ds → ∃ as, t (enc e) = some as ∧ ∃ ds', Rel ds' ∧ body (setD ds as) = some (if p e = true then .rt m ds' else .nx ds')) → Rel ds →
    ∃ ds', Rel ds' ∧ forRun t body (es.map enc) ds = some (if es.any p = true then .rt m ds' else .nx ds')
  | [], ds, _, r => ⟨ds, r, rfl⟩
  | e :: es, ds, h, r => by
    obtain ⟨as, h1, ds', h2, h3⟩ := h e (by simp) ds r
    rw [List.map_cons]
    unfold forRun
    rw [h1, Option.bind_some, h3, Option.bind_some]
    by_cases z : p e = true
    · refine ⟨ds', h2, ?_⟩
      rw [if_pos z, List.any_cons, z, Bool.true_or, if_pos rfl]
    · rw [if_neg z]
      obtain ⟨ds2, q1, q2⟩ := forAny Rel es ds' (fun x hx => h x (List.mem_cons_of_mem _ hx)) h2
      refine ⟨ds2, q1, ?_⟩
      have z' : p e = false := by simpa using z
      rw [List.any_cons, z', Bool.false_or]
      exact q2
abbrev Row := List Nat
def encR (r : Row) : D := .tuple (r.map fun n => .int (n : Nat))
def nearB (g : Gd) (a b : Row) : Bool := a.any fun x => b.any fun y => decide ((min x y, max x y) ∈ g.close)
theorem anyEq_pairs (c : Nat × Nat) : ∀ cs : List (Nat × Nat), anyEq (encC c) (cs.map encC) = decide (c ∈ cs)
  | [] => rfl
  | d :: r => by
    show (((((d.1 : Nat) : Int) == ((c.1 : Nat) : Int)) && ((((d.2 : Nat) : Int) == ((c.2 : Nat) : Int)) && true)) || anyEq (encC c) (r.map encC)) = _
    rw [anyEq_pairs c r]
    by_cases h : d = c
    · subst h; simp
    · have : ((((d.1 : Nat) : Int) == ((c.1 : Nat) : Int)) && ((((d.2 : Nat) : Int) == ((c.2 : Nat) : Int)) && true)) = false := by
        rw [Bool.eq_false_iff]
        intro q
        rw [Bool.and_true, Bool.and_eq_true, beq_iff_eq, beq_iff_eq] at q
        exact h (Prod.ext (by omega) (by omega))
      rw [this]
      simp [Ne.symm h]
theorem depth_pairs : ∀ cs : List (Nat × Nat), PyData.depthAll (cs.map encC) ≤ 3
  | [] => by decide
  | c :: r => by
    have := depth_pairs r
    simp only [List.map_cons, encC, PyData.depthAll, PyData.depth] at this ⊢
    omega
theorem inC (c : Nat × Nat) (cs : List (Nat × Nat)) : inD (encC c) (.tuple (cs.map encC)) = some (.bool (decide (c ∈ cs))) := by
  show (if min (PyData.depthAll (cs.map encC)) (PyData.depth (encC c)) ≤ 64 then some (PyData.bool (anyEq (encC c) (cs.map encC))) else none) = _
  rw [if_pos (Nat.le_trans (Nat.min_le_left _ _) (Nat.le_trans (depth_pairs cs) (by decide))), anyEq_pairs]
theorem min2_ok (x y : Nat) : min2 [.int (x : Int), .int (y : Int)] = some (.int ((min x y : Nat) : Int)) := by
  show some (PyData.int (if (y : Int) < x then (y : Int) else x)) = _
  congr 2
  split <;> omega
theorem max2_ok (x y : Nat) : max2 [.int (x : Int), .int (y : Int)] = some (.int ((max x y : Nat) : Int)) := by
  show some (PyData.int (if (y : Int) > x then (y : Int) else x)) = _
  congr 2
  split <;> omega
theorem boolsOf_map : ∀ l : List Bool, boolsOf (l.map PyData.bool) = some l
  | [] => rfl
  | b :: r => by
    rw [List.map_cons]
    unfold boolsOf
    rw [boolsOf_map r]
    rfl
theorem any_map (l : List Bool) : anyD [.list (l.map PyData.bool)] = some (.bool (l.any fun b => b)) := by
  unfold anyD
  dsimp only
  rw [boolsOf_map]
  rfl
theorem near_ok (g : Gd) (a b : Row) : F_are_near [encG g, encR a, encR b] = some (.d (.bool (nearB g a b))) := by
  unfold F_are_near g_are_near
  let DG : Option (MO St2) := some (.d (encG g))
  let DA : Option (MO St2) := some (.d (encR a))
  let DB : Option (MO St2) := some (.d (encR b))
  obtain ⟨ds', ⟨m3, rfl⟩, f⟩ := forAny (t := asgN 3) (enc := fun n : Nat => PyData.int (n : Int)) (body := (gIfS (xtP (gTr (gCall (gCons (gL (gLc (gSrc (gVar 2)) [4] (asgN 4) gYes (gOp inD (gTup (gCons (gCall (gCons (gVar 3) (gCons (gVar 4) gNil)) min2) (gCons (gCall (gCons (gVar 3) (gCons (gVar 4) gNil)) max2) gNil))) (gOp ixD (gVar 0) (gC (.int 1)))))) gNil) anyD)))
  (gRet (oX (xP (gC (.bool true)))))
  gNext)) (p := fun x => b.any fun y => decide ((min x y, max x y) ∈ g.close)) (m := MO.d (.bool true)) (fun ds => ∃ m3, ds = [DG, DA, DB, m3, none]) a [DG, DA, DB, none, none] (fun x hx ds ⟨m3, eds⟩ => by
    subst eds
    refine ⟨_, rfl, [DG, DA, DB, some (.d (.int (x : Int))), none], ⟨_, rfl⟩, ?_⟩
    have lc : gTr (gCall (gCons (gL (gLc (gSrc (gVar 2)) [4] (asgN 4) gYes (gOp inD (gTup (gCons (gCall (gCons (gVar 3) (gCons (gVar 4) gNil)) min2) (gCons (gCall (gCons (gVar 3) (gCons (gVar 4) gNil)) max2) gNil))) (gOp ixD (gVar 0) (gC (.int 1)))))) gNil) anyD) ([DG, DA, DB, some (.d (.int (x : Int))), none] : DS2) = some (b.any fun y => decide ((min x y, max x y) ∈ g.close)) := by
      have e := LcAll_ev (ds := ([DG, DA, DB, some (.d (.int (x : Int))), none] : DS2)) (own := [4]) (t := asgN 4) (src := gSrc (gVar 2)) (g := gOp inD (gTup (gCons (gCall (gCons (gVar 3) (gCons (gVar 4) gNil)) min2) (gCons (gCall (gCons (gVar 3) (gCons (gVar 4) gNil)) max2) gNil))) (gOp ixD (gVar 0) (gC (.int 1)))) (es := b) (enc := fun n : Nat => PyData.int (n : Int)) (k := fun y => .bool (decide ((min x y, max x y) ∈ g.close))) rfl fun y hy => ⟨_, rfl, op_ev (Tup_ev (Cons_ev (Call_ev (Cons_ev rfl (Cons_ev rfl rfl)) (min2_ok x y)) (Cons_ev (Call_ev (Cons_ev rfl (Cons_ev rfl rfl)) (max2_ok x y)) rfl)) (by show 2 ≤ sizeLine; decide)) (op_ev rfl rfl at1) (inC (min x y, max x y) g.close)⟩
      have e2 : anyD [.list (b.map fun y => PyData.bool (decide ((min x y, max x y) ∈ g.close)))] = some (.bool (b.any fun y => decide ((min x y, max x y) ∈ g.close))) := by
        have := any_map (b.map fun y => decide ((min x y, max x y) ∈ g.close))
        rw [List.map_map, List.any_map] at this
        exact this
      exact Tr_ev (Call_ev (Cons_ev (L_ev e) rfl) e2) rfl
    cases hb : (b.any fun y => decide ((min x y, max x y) ∈ g.close)) with
    | true => rw [hb] at lc; exact ifT_ev (xtP_ev lc) rfl
    | false => rw [hb] at lc; exact ifF_ev (xtP_ev lc) rfl) ⟨none, rfl⟩
  have src : xiP (gSrc (gVar 1)) ([DG, DA, DB, none, none] : DS2) = some (a.map fun n : Nat => PyData.int (n : Int), [DG, DA, DB, none, none]) := rfl
  have en : nearB g a b = a.any (fun x => b.any fun y => decide ((min x y, max x y) ∈ g.close)) := rfl
  rw [en]
  cases ha : a.any (fun x => b.any fun y => decide ((min x y, max x y) ∈ g.close)) with
  | true =>
    rw [ha] at f
    exact runP_ev (seq_rt (DL.for_ev src f)) rfl
  | false =>
    rw [ha] at f
    exact runP_ev (seq_ev (DL.for_ev src f) (ret_ev (oX_ev (xP_ev rfl)))) rfl
end LAW
set_option Elab.async false
set_option linter.all false
set_option maxRecDepth 100000
set_option maxHeartbeats 4000000
namespace LAW
open PySem PySem.Spec L2 DL PyProof.Rows
def encRz (z : Row × Nat) : D := .tuple [.int (z.2 : Nat), encR z.1]
theorem enumD_rows : ∀ (ys : List Row) (k : Nat), enumD k (ys.map encR) = (ys.zipIdx k).map encRz
  | [], _ => rfl
  | y :: r, k => by
    rw [List.map_cons, List.zipIdx_cons, List.map_cons, ← enumD_rows r (k + 1)]
    rfl
theorem row_get {ys : List Row} {x : Row} {q n : Nat} (h : ys.zipIdx[n]? = some (x, q)) : q = n ∧ ys[n]? = some x := by
  rw [List.getElem?_zipIdx] at h
  cases e : ys[n]? with
  | none => rw [e] at h; cases h
  | some y =>
    rw [e] at h
    simp only [Option.map_some, Option.some.injEq, Prod.mk.injEq] at h
    exact ⟨by omega, by rw [h.1]⟩
/-- the two places stand near -/
def Nr (g : Gd) (R : List Row) (c : Nat × Nat) : Prop := c.1 < c.2 ∧ ∃ a b, R[c.1]? = some a ∧ R[c.2]? = some b ∧ nearB g a b = true
/-- a row of the day -/
def RowOK (g : Gd) (r : Row) : Prop := (∃ n p, r = [n] ∧ g.ps[n]? = some p) ∨ ∃ n m p q, r = [n, m] ∧ g.ps[n]? = some p ∧ g.ps[m]? = some q
def tog (g : Gd) (r : Row) : Pitch := match r with
  | [n] => (g.ps[n]?).getD ⟨"", 0, [], []⟩
  | [n, m] => join2 ((g.ps[n]?).getD ⟨"", 0, [], []⟩) ((g.ps[m]?).getD ⟨"", 0, [], []⟩)
  | _ => ⟨"", 0, [], []⟩
theorem take_srt_good {p q : Pitch} (hp : GP p) (hq : GP q) : ∀ x ∈ (srt (marks2 p q)).take 3, GoodS x := by
  intro x hx
  have := (srt_perm _).mem_iff.mp (List.mem_of_mem_take hx)
  rcases List.mem_append.mp this with h | h
  · exact hp.2.2.2.1 x h
  · exact hq.2.2.2.1 x (List.mem_filter.mp h).1
theorem sp_join {p q : Pitch} (hp : GP p) (hq : GP q) : SP (join2 p q) := by
  obtain ⟨p1, p2, p3, p4, p5, p6, p7, _⟩ := id hp
  obtain ⟨q1, q2, q3, q4, q5, q6, q7, _⟩ := id hq
  refine ⟨p1, by show 0 ≤ min 4 (p.size + q.size); omega, by show min 4 (p.size + q.size) ≤ 4; omega, ⟨take_srt_good hp hq, by show ((srt (marks2 p q)).take 3).length ≤ 4; rw [List.length_take]; omega⟩, fun x hx => p6 x (List.mem_filter.mp hx).1, Nat.le_trans (List.length_filter_le _ _) p7⟩
theorem row_ok {g : Gd} (gg : GG g) {r : Row} (h : RowOK g r) : F_put_together [encG g, encR r] = some (.d (encP (tog g r))) ∧ F_law_pitch [encG g, encR r] = some (.d (encP (tog g r))) ∧ SP (tog g r) := by
  rcases h with ⟨n, p, rfl, h⟩ | ⟨n, m, p, q, rfl, h, h2⟩
  · have e : tog g [n] = p := by show (g.ps[n]?).getD _ = p; rw [h]; rfl
    have hm := List.mem_of_getElem? h
    rw [e]
    exact ⟨together1 h, pitch1 h (gg.pm p hm) (gg.gp p hm), sp_gp (gg.gp p hm)⟩
  · have e : tog g [n, m] = join2 p q := by show join2 ((g.ps[n]?).getD _) ((g.ps[m]?).getD _) = _; rw [h, h2]; rfl
    have hm := List.mem_of_getElem? h
    have hm2 := List.mem_of_getElem? h2
    rw [e]
    exact ⟨together2 h h2 (gg.pm p hm) (gg.pm q hm2), pitch2 h h2 (gg.pm p hm) (gg.pm q hm2), sp_join (gg.gp p hm) (gg.gp q hm2)⟩
theorem eq_nil {xs : List D} (h : xs ≠ []) : eqD (.list xs) (.list []) = some (.bool false) := by
  unfold eqD
  rw [if_pos (Nat.le_trans (Nat.min_le_right _ _) (by decide))]
  cases xs with
  | nil => exact absurd rfl h
  | cons x r => rfl
theorem day_ok {g : Gd} (gg : GG g) {R : List Row} (hR : ∀ r ∈ R, RowOK g r) (ne : R ≠ []) (l8 : R.length ≤ 8) : ∃ bs : List (Nat × Nat), F_day_ground [encG g, .list (R.map encR)] = some (.d (.tuple [.tuple ((R.map (tog g)).map encP), .tuple (bs.map encC), .tuple g.bars])) ∧ (∀ c, c ∈ bs ↔ Nr g R c) ∧ bs.Pairwise Lx ∧ bs.length ≤ 64 := by
  unfold F_day_ground g_day_ground
  have sz : (1000 : Nat) ≤ sizeLine := by decide
  let DG : Option (MO St2) := some (.d (encG g))
  let DR : Option (MO St2) := some (.d (.list (R.map encR)))
  obtain ⟨ds', f1, bs, m3, m4, m5, hb, pb, lb, rfl⟩ := forList (σ := Unit) (t := asgT [3, 4]) (enc := encRz) (step := fun _ _ => ()) (body := (gFor (xiP (gArgs (gCons (gOp addA (gVar 3) (gC (.int 1))) (gCons (gCall (gCons (gVar 1) gNil) lenD) gNil)) rng2)) (asgN 5)
  (gIfS (xtP (gTr (gCallP 3 F_are_near (gCons (gVar 0) (gCons (gVar 4) (gCons (gOp ixD (gVar 1) (gVar 5)) gNil))))))
  (gDrop (xMt 2 appD (xCons (xP (gTup (gCons (gVar 3) (gCons (gVar 5) gNil)))) xNil)))
  gNext))) (fun k _ ds => ∃ bs m3 m4 m5, (∀ c, c ∈ bs ↔ Nr g R c ∧ c.1 < k) ∧ bs.Pairwise Lx ∧ bs.length ≤ 8 * k ∧ ds = [DG, DR, some (.lst (bs.map encC)), m3, m4, m5]) R.zipIdx () [DG, DR, some (.lst []), none, none, none] (fun k z hk _ ds ⟨bs, m3, m4, m5, hb, pb, lb, eds⟩ => by
    subst eds
    obtain ⟨r, q⟩ := z
    obtain ⟨rfl, hr⟩ := row_get hk
    have hq : q < R.length := (List.getElem?_eq_some_iff.mp hr).1
    obtain ⟨ds2, f2, bs2, m52, hb2, pb2, lb2, rfl⟩ := forList (σ := Unit) (t := asgN 5) (enc := fun (j : Nat) => PyData.int (((q + 1 : Nat) : Int) + (j : Int))) (step := fun _ _ => ()) (body := (gIfS (xtP (gTr (gCallP 3 F_are_near (gCons (gVar 0) (gCons (gVar 4) (gCons (gOp ixD (gVar 1) (gVar 5)) gNil))))))
  (gDrop (xMt 2 appD (xCons (xP (gTup (gCons (gVar 3) (gCons (gVar 5) gNil)))) xNil)))
  gNext)) (fun j _ ds => ∃ bs m5, (∀ c, c ∈ bs ↔ Nr g R c ∧ (c.1 < q ∨ (c.1 = q ∧ c.2 < q + 1 + j))) ∧ bs.Pairwise Lx ∧ bs.length ≤ 8 * q + j ∧ ds = [DG, DR, some (.lst (bs.map encC)), some (.d (.int (q : Nat))), some (.d (encR r)), m5]) (List.range (R.length - (q + 1))) () [DG, DR, some (.lst (bs.map encC)), some (.d (.int (q : Nat))), some (.d (encR r)), m5] (fun j w hj _ ds ⟨bs, m5, hb, pb, lb, eds⟩ => by
      subst eds
      obtain ⟨hjl, hw⟩ := List.getElem?_eq_some_iff.mp hj
      rw [List.length_range] at hjl
      rw [List.getElem_range] at hw
      subst hw
      have hb' : q + 1 + j < R.length := by omega
      have gr : R[q + 1 + j]? = some (R[q + 1 + j]'hb') := List.getElem?_eq_getElem hb'
      have e5 : ((q + 1 : Nat) : Int) + (j : Int) = ((q + 1 + j : Nat) : Int) := by omega
      have nr : Nr g R (q, q + 1 + j) ↔ nearB g r (R[q + 1 + j]'hb') = true := by
        constructor
        · rintro ⟨_, a, b, h1, h2, h3⟩
          dsimp only at h1 h2
          rw [hr] at h1
          rw [gr] at h2
          cases h1; cases h2
          exact h3
        · intro h
          exact ⟨by dsimp only; omega, _, _, hr, gr, h⟩
      have tst : gTr (gCallP 3 F_are_near (gCons (gVar 0) (gCons (gVar 4) (gCons (gOp ixD (gVar 1) (gVar 5)) gNil)))) ([DG, DR, some (.lst (bs.map encC)), some (.d (.int (q : Nat))), some (.d (encR r)), some (.d (.int (((q + 1 : Nat) : Int) + (j : Int))))] : DS2) = some (nearB g r (R[q + 1 + j]'hb')) := by
        rw [e5]
        exact Tr_ev (CallP_ev (Cons_ev rfl (Cons_ev rfl (Cons_ev (op_ev rfl rfl (ixL_nat (x := encR (R[q + 1 + j]'hb')) (by rw [List.getElem?_map, gr]; rfl))) rfl))) rfl (near_ok g r _) rfl) rfl
      cases hn : nearB g r (R[q + 1 + j]'hb') with
      | true =>
        rw [hn] at tst
        refine ⟨_, _, rfl, ifT_ev (xtP_ev tst) (drop_ev (d := .none) (xMt_ev (xs := bs.map encC) rfl (xCons_ev (xP_ev (Tup_ev (Cons_ev rfl (Cons_ev rfl rfl)) (by show 2 ≤ sizeLine; decide))) rfl) rfl (app_ev (by rw [List.length_map]; omega)))), _, .inl rfl, bs ++ [(q, q + 1 + j)], some (.d (.int (((q + 1 : Nat) : Int) + (j : Int)))), ?_, ?_, ?_, ?_⟩
        · intro c
          rw [List.mem_append, List.mem_singleton, hb c]
          constructor
          · rintro (⟨h1, h2⟩ | rfl)
            · exact ⟨h1, by omega⟩
            · exact ⟨nr.mpr hn, .inr ⟨rfl, by dsimp only; omega⟩⟩
          · rintro ⟨h1, h2 | ⟨h2, h3⟩⟩
            · exact .inl ⟨h1, .inl h2⟩
            · by_cases z : c.2 = q + 1 + j
              · exact .inr (Prod.ext h2 z)
              · exact .inl ⟨h1, .inr ⟨h2, by omega⟩⟩
        · refine List.pairwise_append.mpr ⟨pb, by simp, fun c hc d hd => ?_⟩
          rw [List.mem_singleton.mp hd]
          obtain ⟨_, h | ⟨h, h'⟩⟩ := (hb c).mp hc
          · exact .inl h
          · exact .inr ⟨h, by dsimp only; omega⟩
        · rw [List.length_append]; simp; omega
        · rw [List.map_append, e5]; rfl
      | false =>
        rw [hn] at tst
        refine ⟨_, _, rfl, ifF_ev (xtP_ev tst) rfl, _, .inl rfl, bs, some (.d (.int (((q + 1 : Nat) : Int) + (j : Int)))), ?_, pb, by omega, rfl⟩
        intro c
        rw [hb c]
        constructor
        · rintro ⟨h1, h2⟩
          exact ⟨h1, by omega⟩
        · rintro ⟨h1, h2 | ⟨h2, h3⟩⟩
          · exact ⟨h1, .inl h2⟩
          · by_cases z : c.2 = q + 1 + j
            · have ec : c = (q, q + 1 + j) := Prod.ext h2 z
              rw [ec] at h1
              rw [nr.mp h1] at hn
              cases hn
            · exact ⟨h1, .inr ⟨h2, by omega⟩⟩) ⟨bs, m5, fun c => by
        rw [hb c]
        constructor
        · rintro ⟨h1, h2⟩; exact ⟨h1, .inl h2⟩
        · rintro ⟨h1, h2 | ⟨h2, h3⟩⟩
          · exact ⟨h1, h2⟩
          · have := h1.1; omega, pb, by omega, rfl⟩
    rw [List.length_range] at lb2 hb2
    refine ⟨_, _, rfl, DL.for_ev (xiP_ev (Args_ev (Cons_ev (op_ev rfl rfl add_ii) (Cons_ev (Call_ev (Cons_ev rfl rfl) rfl) rfl)) (by rw [List.length_map, show ((q : Nat) : Int) + 1 = ((q + 1 : Nat) : Int) from by omega]; exact rng2_ok (by omega) (by omega)))) f2, _, .inl rfl, bs2, some (.d (.int (q : Nat))), some (.d (encR r)), m52, fun c => ?_, pb2, by omega, rfl⟩
    rw [hb2 c]
    constructor
    · rintro ⟨h1, h2⟩; exact ⟨h1, by omega⟩
    · rintro ⟨h1, h2⟩
      refine ⟨h1, ?_⟩
      by_cases z : c.1 < q
      · exact .inl z
      · obtain ⟨_, a, b, _, hc, _⟩ := h1
        have := (List.getElem?_eq_some_iff.mp hc).1
        exact .inr ⟨by omega, by omega⟩) ⟨[], none, none, none, fun c => by
      constructor
      · intro h; cases h
      · rintro ⟨_, h⟩; omega, .nil, by simp, rfl⟩
  rw [List.length_zipIdx] at hb lb
  have lc : gLc (gSrc (gVar 1)) [4] (asgN 4) gYes (gCallP 2 F_put_together (gCons (gVar 0) (gCons (gVar 4) gNil))) ([DG, DR, some (.lst (bs.map encC)), m3, m4, m5] : DS2) = some ((R.map (tog g)).map encP) := by
    rw [List.map_map]
    exact LcAll_ev (es := R) (enc := encR) (k := fun r => encP (tog g r)) rfl fun r hr => ⟨_, rfl, CallP_ev (Cons_ev rfl (Cons_ev rfl rfl)) rfl (row_ok gg (hR r hr)).1 rfl⟩
  refine ⟨bs, runP_ev (seq_ev (ifF_ev (xtP_ev (B_ev (op_ev rfl (L_ev (Lst_ev rfl (by show 0 ≤ sizeLine; decide))) (eq_nil (by simpa using ne))))) rfl) (seq_ev (asg_ev (oP_ev (Lst_ev rfl (by show 0 ≤ sizeLine; decide)))) (seq_ev (DL.for_ev (xiP_ev (Args_ev (Cons_ev rfl rfl) (by show some (enumD 0 (R.map encR)) = _; rw [enumD_rows]))) f1) (ret_ev (oX_ev (xB_ev (Tup_ev (Cons_ev (Call_ev (Cons_ev (L_ev lc) rfl) rfl) (Cons_ev (Call_ev (Cons_ev rfl rfl) rfl) (Cons_ev (op_ev rfl rfl at2) rfl))) (by show 3 ≤ sizeLine; decide)) ?_)))))) rfl, fun c => ?_, pb, by omega⟩
  · show (noListAll ((R.map (tog g)).map encP) && (noListAll (bs.map encC) && (noListAll g.bars && true))) = true
    rw [noListP, noListC, noListB gg.br]
    rfl
  · rw [hb c]
    constructor
    · exact fun h => h.1
    · intro h
      refine ⟨h, ?_⟩
      obtain ⟨_, a, b, hc, _, _⟩ := h
      exact (List.getElem?_eq_some_iff.mp hc).1
end LAW
set_option Elab.async false
set_option linter.all false
set_option maxRecDepth 100000
set_option maxHeartbeats 4000000
namespace LAW
open PySem PySem.Spec L2 DL PyProof.Rows
/-- no number stands in two rows -/
def Dj (R : List Row) : Prop := ∀ (i j : Nat) (a b : Row) (n : Nat), R[i]? = some a → R[j]? = some b → n ∈ a → n ∈ b → i = j
def hits (R : List Row) (n : Nat) : List Nat := (R.zipIdx.filter fun z => decide (n ∈ z.1)).map (·.2)
theorem zip_lt (R : List Row) : R.zipIdx.Pairwise fun x y => x.2 < y.2 := by
  have h : (R.zipIdx.map (·.2)).Pairwise (· < ·) := by
    rw [List.zipIdx_map_snd]
    exact List.pairwise_lt_range'
  exact List.pairwise_map.mp h
theorem mem_zip {R : List Row} {z : Row × Nat} (h : z ∈ R.zipIdx) : R[z.2]? = some z.1 := by
  obtain ⟨n, hn⟩ := List.getElem?_of_mem h
  obtain ⟨h1, h2⟩ := row_get (x := z.1) (q := z.2) hn
  rw [h1]; exact h2
theorem hits_mem {R : List Row} {n k : Nat} : k ∈ hits R n ↔ ∃ r, R[k]? = some r ∧ n ∈ r := by
  unfold hits
  rw [List.mem_map]
  constructor
  · rintro ⟨z, hz, rfl⟩
    obtain ⟨h1, h2⟩ := List.mem_filter.mp hz
    exact ⟨z.1, mem_zip h1, of_decide_eq_true h2⟩
  · rintro ⟨r, hr, hn⟩
    refine ⟨(r, k), List.mem_filter.mpr ⟨?_, decide_eq_true hn⟩, rfl⟩
    have : R.zipIdx[k]? = some (r, k) := by rw [List.getElem?_zipIdx, hr]; simp
    exact List.mem_of_getElem? this
theorem hits_one {R : List Row} (dj : Dj R) (n : Nat) : hits R n = [] ∨ ∃ k, hits R n = [k] := by
  cases e : R.zipIdx.filter fun z => decide (n ∈ z.1) with
  | nil => left; unfold hits; rw [e]; rfl
  | cons x t =>
    cases t with
    | nil => right; exact ⟨x.2, by unfold hits; rw [e]; rfl⟩
    | cons y t =>
      have p := (zip_lt R).filter fun z => decide (n ∈ z.1)
      rw [e] at p
      have lt := (List.pairwise_cons.mp p).1 y (by simp)
      have hx : x ∈ R.zipIdx.filter fun z => decide (n ∈ z.1) := by rw [e]; simp
      have hy : y ∈ R.zipIdx.filter fun z => decide (n ∈ z.1) := by rw [e]; simp
      obtain ⟨x1, x2⟩ := List.mem_filter.mp hx
      obtain ⟨y1, y2⟩ := List.mem_filter.mp hy
      have := dj _ _ _ _ n (mem_zip x1) (mem_zip y1) (of_decide_eq_true x2) (of_decide_eq_true y2)
      omega
theorem iNats (l : List Nat) : l.map (fun n => PyData.int (n : Nat)) = (l.map fun n : Nat => (n : Int)).map .int := by rw [List.map_map]; rfl
theorem inR (n : Nat) (r : Row) : inD (.int (n : Nat)) (encR r) = some (.bool (decide (n ∈ r))) := by
  have e : inD (.int (n : Nat)) (.tuple ((r.map fun n : Nat => (n : Int)).map .int)) = some (.bool (decide ((n : Int) ∈ r.map fun n : Nat => (n : Int)))) := by
    show (if min (PyData.depthAll ((r.map fun n : Nat => (n : Int)).map .int)) (PyData.depth (.int (n : Nat))) ≤ 64 then some (PyData.bool (anyEq (.int (n : Nat)) ((r.map fun n : Nat => (n : Int)).map .int))) else none) = _
    rw [if_pos (Nat.le_trans (Nat.min_le_left _ _) (Nat.le_trans (depth_ints _) (by decide))), anyEq_ints]
  unfold encR
  rw [iNats, e]
  congr 3
  simp only [List.mem_map, eq_iff_iff]
  exact ⟨fun ⟨a, ha, e⟩ => by rwa [show a = n from by omega] at ha, fun h => ⟨n, h, rfl⟩⟩
/-- what one pair of the ground says of the rows -/
def pairOf (R : List Row) (e : Nat × Nat) : Option (Nat × Nat) := match hits R e.1, hits R e.2 with
  | [i], [j] => if i = j then none else some (min i j, max i j)
  | _, _ => none
theorem eqL_nil (l : List Nat) : neD (.list (l.map fun n => .int (n : Nat))) (.list []) = some (.bool (!l.isEmpty)) := by
  unfold neD
  rw [if_pos (Nat.le_trans (Nat.min_le_right _ _) (by decide))]
  cases l with
  | nil => rfl
  | cons x r => rfl
theorem neOne (i j : Nat) : neD (.list [.int (i : Nat)]) (.list [.int (j : Nat)]) = some (.bool (!decide (i = j))) := by
  unfold neD
  rw [if_pos (by simp only [PyData.depth, PyData.depthAll]; omega)]
  show some (PyData.bool (!((((i : Nat) : Int) == ((j : Nat) : Int)) && true))) = _
  congr 3
  rw [Bool.and_true, Bool.eq_iff_iff, beq_iff_eq, decide_eq_true_iff]
  omega
theorem minL2 (i j : Nat) : minL [.list [.int (i : Nat), .int (j : Nat)]] = some (.int ((min i j : Nat) : Int)) := by
  show some (PyData.int (min ((i : Nat) : Int) ((j : Nat) : Int))) = _
  congr 2
  omega
theorem maxL2 (i j : Nat) : maxL [.list [.int (i : Nat), .int (j : Nat)]] = some (.int ((max i j : Nat) : Int)) := by
  show some (PyData.int (max ((i : Nat) : Int) ((j : Nat) : Int))) = _
  congr 2
  omega
/-- a list, each thing where it first stands -/
def firsts (l : List (Nat × Nat)) : List (Nat × Nat) := (l.zipIdx.filter fun z => !decide (z.1 ∈ l.take z.2)).map (·.1)
theorem zipc_get {l : List (Nat × Nat)} {z : (Nat × Nat) × Nat} (h : z ∈ l.zipIdx) : l[z.2]? = some z.1 := by
  obtain ⟨n, hn⟩ := List.getElem?_of_mem h
  rw [List.getElem?_zipIdx] at hn
  cases e : l[n]? with
  | none => rw [e] at hn; cases hn
  | some y =>
    rw [e] at hn
    simp only [Option.map_some, Option.some.injEq] at hn
    rw [← hn]
    dsimp only
    rw [Nat.zero_add, e]
theorem firsts_mem {l : List (Nat × Nat)} {c : Nat × Nat} : c ∈ firsts l ↔ c ∈ l := by
  unfold firsts
  rw [List.mem_map]
  constructor
  · rintro ⟨z, hz, rfl⟩
    exact List.mem_of_getElem? (zipc_get (List.mem_filter.mp hz).1)
  · intro h
    have : ∃ i : Nat, l[i]? = some c ∧ ∀ j < i, l[j]? ≠ some c := by
      obtain ⟨n, hn⟩ := List.getElem?_of_mem h
      induction n using Nat.strongRecOn with
      | ind n ih =>
        by_cases z : ∃ j, j < n ∧ l[j]? = some c
        · obtain ⟨j, hj, e⟩ := z
          exact ih j hj e
        · exact ⟨n, hn, fun j hj e => z ⟨j, hj, e⟩⟩
    obtain ⟨i, hi, hlt⟩ := this
    refine ⟨(c, i), List.mem_filter.mpr ⟨?_, ?_⟩, rfl⟩
    · have : l.zipIdx[i]? = some (c, i) := by rw [List.getElem?_zipIdx, hi]; simp
      exact List.mem_of_getElem? this
    · rw [Bool.not_eq_true', decide_eq_false_iff_not]
      intro hm
      obtain ⟨j, hj⟩ := List.getElem?_of_mem hm
      have jl := (List.getElem?_eq_some_iff.mp hj).1
      rw [List.length_take] at jl
      rw [List.getElem?_take] at hj
      split at hj
      · exact hlt j (by omega) hj
      · cases hj
theorem firsts_nodup (l : List (Nat × Nat)) : (firsts l).Nodup := by
  have h : (l.zipIdx.map (·.2)).Pairwise (· < ·) := by
    rw [List.zipIdx_map_snd]
    exact List.pairwise_lt_range'
  have p := (List.pairwise_map.mp h).filter fun z => !decide (z.1 ∈ l.take z.2)
  unfold firsts
  refine List.pairwise_map.mpr ?_
  refine p.imp_of_mem fun {x y} hx hy lt e => ?_
  obtain ⟨x1, _⟩ := List.mem_filter.mp hx
  obtain ⟨_, y2⟩ := List.mem_filter.mp hy
  rw [Bool.not_eq_true', decide_eq_false_iff_not] at y2
  apply y2
  rw [← e]
  have g := zipc_get x1
  refine List.mem_of_getElem? (i := x.2) ?_
  rw [List.getElem?_take, if_pos lt, g]
/-! ### the order of pairs -/
theorem le_pairs (a b : Nat × Nat) : PySem.W.dataLe false (fun d : D => d) (encC a) (encC b) = decide (((a.1 : Nat) : Int) < b.1 ∨ (((a.1 : Nat) : Int) = b.1 ∧ ((a.2 : Nat) : Int) ≤ b.2)) :=
  congrFun (congrFun (PySem.W.dataLe_ii (fun c : Nat × Nat => ((c.1 : Nat) : Int)) fun c : Nat × Nat => ((c.2 : Nat) : Int)) a) b
theorem alike_pairs (l : List (Nat × Nat)) : allAlikeB (l.map encC) = true := by
  unfold allAlikeB
  rw [List.all_eq_true]
  intro a ha
  obtain ⟨x, _, rfl⟩ := List.mem_map.mp ha
  rw [List.all_eq_true]
  intro b hb
  obtain ⟨y, _, rfl⟩ := List.mem_map.mp hb
  rfl
theorem sortable_pairs (l : List (Nat × Nat)) : sortableB (l.map encC) = true := by
  unfold sortableB
  rw [Bool.or_eq_true]
  left
  rw [List.all_eq_true]
  intro a ha
  obtain ⟨x, _, rfl⟩ := List.mem_map.mp ha
  rfl
theorem lx_nodup {l : List (Nat × Nat)} (h : l.Pairwise Lx) : l.Nodup := h.imp fun {a b} hab e => by
  subst e
  rcases hab with h | ⟨_, h⟩ <;> omega
theorem sorted_pairsC {l m : List (Nat × Nat)} (nd : l.Nodup) (pm : m.Pairwise Lx) (same : ∀ c, c ∈ l ↔ c ∈ m) : sortedD [.list (l.map encC)] = some (m.map encC) := by
  unfold sortedD
  dsimp only
  rw [if_pos ⟨alike_pairs l, sortable_pairs l, Nat.le_trans (depth_pairs l) (by decide)⟩]
  congr 1
  have p0 : l.Perm m := (List.perm_ext_iff_of_nodup nd (lx_nodup pm)).mpr same
  have tot := PySem.W.sortLe_total (PyProof.Rows.listOrd itemOrd) false fun d : D => PySem.W.keyToks d
  have p1 : (sortD (l.map encC)).Pairwise (fun a b => PySem.W.dataLe false (fun d : D => d) a b = true) := PySem.W.sort_pairwise tot _
  have p2 : (m.map encC).Pairwise (fun a b => PySem.W.dataLe false (fun d : D => d) a b = true) := by
    refine List.pairwise_map.mpr (pm.imp fun {a b} h => ?_)
    rw [le_pairs]
    refine decide_eq_true ?_
    rcases h with h | ⟨h, h'⟩
    · exact .inl (by omega)
    · exact .inr ⟨by omega, by omega⟩
  have m1 : (sortD (l.map encC)).Perm (l.map encC) := List.mergeSort_perm _ _
  refine List.Perm.eq_of_pairwise (fun a b ha hb h1 h2 => ?_) p1 p2 (m1.trans (p0.map encC))
  obtain ⟨x, _, rfl⟩ := List.mem_map.mp (m1.mem_iff.mp ha)
  obtain ⟨y, _, rfl⟩ := List.mem_map.mp hb
  rw [le_pairs] at h1 h2
  have h1 := of_decide_eq_true h1
  have h2 := of_decide_eq_true h2
  congr 1
  exact Prod.ext (by omega) (by omega)
theorem lx_eq {l m : List (Nat × Nat)} (pl : l.Pairwise Lx) (pm : m.Pairwise Lx) (same : ∀ c, c ∈ l ↔ c ∈ m) : l = m := by
  have p0 : l.Perm m := (List.perm_ext_iff_of_nodup (lx_nodup pl) (lx_nodup pm)).mpr same
  refine List.Perm.eq_of_pairwise (fun a b _ _ h1 h2 => ?_) pl pm p0
  unfold Lx at h1 h2
  exact Prod.ext (by omega) (by omega)
theorem pair_nr {g : Gd} (gg : GG g) {R : List Row} (dj : Dj R) (c : Nat × Nat) : Nr g R c ↔ ∃ e ∈ g.close, pairOf R e = some c := by
  constructor
  · rintro ⟨lt, a, b, ha, hb, hn⟩
    unfold nearB at hn
    rw [List.any_eq_true] at hn
    obtain ⟨x, hx, hn⟩ := hn
    rw [List.any_eq_true] at hn
    obtain ⟨y, hy, hn⟩ := hn
    have hc := of_decide_eq_true hn
    have key : ∀ (n k : Nat) (r : Row), R[k]? = some r → n ∈ r → hits R n = [k] := by
      intro n k r hr hn
      have hm : k ∈ hits R n := hits_mem.mpr ⟨r, hr, hn⟩
      rcases hits_one dj n with h | ⟨k', h⟩
      · rw [h] at hm; cases hm
      · rw [h] at hm ⊢
        rw [List.mem_singleton.mp hm]
    refine ⟨_, hc, ?_⟩
    unfold pairOf
    dsimp only
    rcases Nat.le_total x y with h | h
    · rw [Nat.min_eq_left h, Nat.max_eq_right h, key x c.1 a ha hx, key y c.2 b hb hy]
      dsimp only
      rw [if_neg (by omega), Nat.min_eq_left (by omega), Nat.max_eq_right (by omega)]
    · rw [Nat.min_eq_right h, Nat.max_eq_left h, key x c.1 a ha hx, key y c.2 b hb hy]
      dsimp only
      rw [if_neg (by omega), Nat.min_eq_right (by omega), Nat.max_eq_left (by omega)]
  · rintro ⟨e, he, h⟩
    obtain ⟨e1, e2⟩ := gg.cl e he
    unfold pairOf at h
    rcases hits_one dj e.1 with h1 | ⟨i, h1⟩
    · rw [h1] at h; cases h
    rcases hits_one dj e.2 with h2 | ⟨j, h2⟩
    · rw [h1, h2] at h; cases h
    rw [h1, h2] at h
    dsimp only at h
    obtain ⟨a, ha, hx⟩ := hits_mem.mp (show i ∈ hits R e.1 by rw [h1]; simp)
    obtain ⟨b, hb, hy⟩ := hits_mem.mp (show j ∈ hits R e.2 by rw [h2]; simp)
    by_cases z : i = j
    · rw [if_pos z] at h; cases h
    · rw [if_neg z] at h
      cases h
      rcases Nat.lt_or_ge i j with lt | ge
      · refine ⟨by dsimp only; omega, a, b, by dsimp only; rw [Nat.min_eq_left (by omega)]; exact ha, by dsimp only; rw [Nat.max_eq_right (by omega)]; exact hb, ?_⟩
        unfold nearB
        rw [List.any_eq_true]
        refine ⟨e.1, hx, ?_⟩
        rw [List.any_eq_true]
        refine ⟨e.2, hy, decide_eq_true ?_⟩
        rw [Nat.min_eq_left (by omega), Nat.max_eq_right (by omega)]
        exact he
      · refine ⟨by dsimp only; omega, b, a, by dsimp only; rw [Nat.min_eq_right (by omega)]; exact hb, by dsimp only; rw [Nat.max_eq_left (by omega)]; exact ha, ?_⟩
        unfold nearB
        rw [List.any_eq_true]
        refine ⟨e.2, hy, ?_⟩
        rw [List.any_eq_true]
        refine ⟨e.1, hx, decide_eq_true ?_⟩
        rw [Nat.min_eq_right (by omega), Nat.max_eq_left (by omega)]
        exact he
end LAW
set_option Elab.async false
set_option linter.all false
set_option maxRecDepth 100000
set_option maxHeartbeats 4000000
namespace LAW
open PySem PySem.Spec L2 DL PyProof.Rows
def encCz (z : (Nat × Nat) × Nat) : D := .tuple [.int (z.2 : Nat), encC z.1]
theorem enumD_pairs : ∀ (ys : List (Nat × Nat)) (k : Nat), enumD k (ys.map encC) = (ys.zipIdx k).map encCz
  | [], _ => rfl
  | y :: r, k => by
    rw [List.map_cons, List.zipIdx_cons, List.map_cons, ← enumD_pairs r (k + 1)]
    rfl
theorem ninC (c : Nat × Nat) (cs : List (Nat × Nat)) : ninD (encC c) (.list (cs.map encC)) = some (.bool (!decide (c ∈ cs))) := by
  show (if min (PyData.depthAll (cs.map encC)) (PyData.depth (encC c)) ≤ 64 then some (PyData.bool (!anyEq (encC c) (cs.map encC))) else none) = _
  rw [if_pos (Nat.le_trans (Nat.min_le_left _ _) (Nat.le_trans (depth_pairs cs) (by decide))), anyEq_pairs]
def nearStep (R : List Row) (s : List (Nat × Nat)) (e : Nat × Nat) : List (Nat × Nat) := s ++ (pairOf R e).toList
theorem near_fold (R : List Row) : ∀ (l s : List (Nat × Nat)), l.foldl (nearStep R) s = s ++ l.filterMap (pairOf R)
  | [], s => by simp
  | e :: r, s => by
    rw [List.foldl_cons, near_fold R r, List.filterMap_cons]
    unfold nearStep
    cases pairOf R e with
    | none => simp
    | some c => simp
theorem due_ok {g : Gd} (gg : GG g) {R : List Row} (hR : ∀ r ∈ R, RowOK g r) (dj : Dj R) (ne : R ≠ []) (l8 : R.length ≤ 8) {bs : List (Nat × Nat)} (hb : ∀ c, c ∈ bs ↔ Nr g R c) (pb : bs.Pairwise Lx) : F_law_due [encG g, .list (R.map encR)] = some (.d (.tuple [.tuple ((R.map (tog g)).map encP), .tuple (bs.map encC), .tuple g.bars])) := by
  unfold F_law_due g_law_due
  have sz : (1000 : Nat) ≤ sizeLine := by decide
  have cl64 := gg.cl2
  let DG : Option (MO St2) := some (.d (encG g))
  let DR : Option (MO St2) := some (.d (.list (R.map encR)))
  have hitsL : ∀ (n : Nat) (ds : DS2), ds[1]? = some DR → ds[6]? = some (some (.d (.int (n : Nat)))) → ds.length = 10 → gLc (gArgs (gCons (gVar 1) gNil) enum2) [7, 8] (asgT [7, 8]) (gB (gOp inD (gVar 6) (gVar 8))) (gVar 7) ds = some ((hits R n).map fun k => .int (k : Nat)) := by
    intro n ds h1 h6 hl
    match ds, hl with
    | [a0, a1, a2, a3, a4, a5, a6, a7, a8, a9], _ =>
      cases h1
      cases h6
      unfold hits
      rw [List.map_map]
      exact LcSome_ev (es := R.zipIdx) (enc := encRz) (p := fun z => decide (n ∈ z.1)) (k := fun z => .int (z.2 : Nat)) (Args_ev (Cons_ev rfl rfl) (by show some (enumD 0 (R.map encR)) = _; rw [enumD_rows])) fun z _ => ⟨_, rfl, B_ev (op_ev rfl rfl (inR n z.1)), fun _ => rfl⟩
  obtain ⟨ds', f1, m3, m4, m5, lb, rfl⟩ := forList (σ := List (Nat × Nat)) (t := asgT [3, 4]) (enc := encC) (step := nearStep R) (body := (gSeq (gAsg 5 (oX (xP (gL (gLc (gSrc (gTup (gCons (gVar 3) (gCons (gVar 4) gNil)))) [6] (asgN 6) gYes (gL (gLc (gArgs (gCons (gVar 1) gNil) enum2) [7, 8] (asgT [7, 8]) (gB (gOp inD (gVar 6) (gVar 8))) (gVar 7))))))))
  (gIfS (xtP (gAnd (gB (gOp neD (gOp ixD (gVar 5) (gC (.int 0))) (gL (gLst gNil)))) (gAnd (gB (gOp neD (gOp ixD (gVar 5) (gC (.int 1))) (gL (gLst gNil)))) (gB (gOp neD (gOp ixD (gVar 5) (gC (.int 0))) (gOp ixD (gVar 5) (gC (.int 1))))))))
  (gDrop (xMt 2 appD (xCons (xP (gTup (gCons (gCall (gCons (gOp addA (gOp ixD (gVar 5) (gC (.int 0))) (gOp ixD (gVar 5) (gC (.int 1)))) gNil) minL) (gCons (gCall (gCons (gOp addA (gOp ixD (gVar 5) (gC (.int 0))) (gOp ixD (gVar 5) (gC (.int 1)))) gNil) maxL) gNil)))) xNil)))
  gNext))) (fun k s ds => ∃ m3 m4 m5, s.length ≤ k ∧ ds = [DG, DR, some (.lst (s.map encC)), m3, m4, m5, none, none, none, none]) g.close [] [DG, DR, some (.lst []), none, none, none, none, none, none, none] (fun k e hk s ds ⟨m3, m4, m5, lb, eds⟩ => by
    subst eds
    have k64 : k < 64 := by have := (List.getElem?_eq_some_iff.mp hk).1; omega
    let H1 : List D := (hits R e.1).map fun k => .int (k : Nat)
    let H2 : List D := (hits R e.2).map fun k => .int (k : Nat)
    let D3 : Option (MO St2) := some (.d (.int (e.1 : Nat)))
    let D4 : Option (MO St2) := some (.d (.int (e.2 : Nat)))
    let D5 : Option (MO St2) := some (.d (.list [.list H1, .list H2]))
    have lc5 : gLc (gSrc (gTup (gCons (gVar 3) (gCons (gVar 4) gNil)))) [6] (asgN 6) gYes (gL (gLc (gArgs (gCons (gVar 1) gNil) enum2) [7, 8] (asgT [7, 8]) (gB (gOp inD (gVar 6) (gVar 8))) (gVar 7))) (hideDS ([DG, DR, some (.lst (s.map encC)), D3, D4, m5, none, none, none, none] : DS2)) = some [.list H1, .list H2] :=
      LcAll_ev (es := [e.1, e.2]) (enc := fun n : Nat => .int (n : Nat)) (k := fun n => .list ((hits R n).map fun k => .int (k : Nat))) (Src_ev (Tup_ev (Cons_ev rfl (Cons_ev rfl rfl)) (by show 2 ≤ sizeLine; decide)) rfl) fun n _ => ⟨_, rfl, L_ev (hitsL n _ rfl rfl rfl)⟩
    have i0 : ixD (.list [.list H1, .list H2]) (.int 0) = some (.list H1) := ixL_nat (xs := [.list H1, .list H2]) (i := 0) rfl
    have i1 : ixD (.list [.list H1, .list H2]) (.int 1) = some (.list H2) := ixL_nat (xs := [.list H1, .list H2]) (i := 1) rfl
    let DS : DS2 := [DG, DR, some (.lst (s.map encC)), D3, D4, D5, none, none, none, none]
    have gnil : (gL (gLst gNil)) DS = some (.list []) := L_ev (Lst_ev rfl (by show 0 ≤ sizeLine; decide))
    have n0 : gB (gOp neD (gOp ixD (gVar 5) (gC (.int 0))) (gL (gLst gNil))) DS = some (!(hits R e.1).isEmpty) := B_ev (op_ev (op_ev rfl rfl i0) gnil (eqL_nil _))
    have n1 : gB (gOp neD (gOp ixD (gVar 5) (gC (.int 1))) (gL (gLst gNil))) DS = some (!(hits R e.2).isEmpty) := B_ev (op_ev (op_ev rfl rfl i1) gnil (eqL_nil _))
    have one := asg_ev (ds := ([DG, DR, some (.lst (s.map encC)), D3, D4, m5, none, none, none, none] : DS2)) (i := 5) (oX_ev (xP_ev (L_ev lc5)))
    have no : ∀ tst : gAnd (gB (gOp neD (gOp ixD (gVar 5) (gC (.int 0))) (gL (gLst gNil)))) (gAnd (gB (gOp neD (gOp ixD (gVar 5) (gC (.int 1))) (gL (gLst gNil)))) (gB (gOp neD (gOp ixD (gVar 5) (gC (.int 0))) (gOp ixD (gVar 5) (gC (.int 1)))))) DS = some false, pairOf R e = none → ∃ as o, asgT [3, 4] (encC e) = some as ∧ (gSeq (gAsg 5 (oX (xP (gL (gLc (gSrc (gTup (gCons (gVar 3) (gCons (gVar 4) gNil)))) [6] (asgN 6) gYes (gL (gLc (gArgs (gCons (gVar 1) gNil) enum2) [7, 8] (asgT [7, 8]) (gB (gOp inD (gVar 6) (gVar 8))) (gVar 7))))))))
  (gIfS (xtP (gAnd (gB (gOp neD (gOp ixD (gVar 5) (gC (.int 0))) (gL (gLst gNil)))) (gAnd (gB (gOp neD (gOp ixD (gVar 5) (gC (.int 1))) (gL (gLst gNil)))) (gB (gOp neD (gOp ixD (gVar 5) (gC (.int 0))) (gOp ixD (gVar 5) (gC (.int 1))))))))
  (gDrop (xMt 2 appD (xCons (xP (gTup (gCons (gCall (gCons (gOp addA (gOp ixD (gVar 5) (gC (.int 0))) (gOp ixD (gVar 5) (gC (.int 1)))) gNil) minL) (gCons (gCall (gCons (gOp addA (gOp ixD (gVar 5) (gC (.int 0))) (gOp ixD (gVar 5) (gC (.int 1)))) gNil) maxL) gNil)))) xNil)))
  gNext)) (setD ([DG, DR, some (.lst (s.map encC)), m3, m4, m5, none, none, none, none] : DS2) as) = some o ∧ ∃ ds', (o = .nx ds' ∨ o = .ct ds') ∧ ∃ m3 m4 m5, (nearStep R s e).length ≤ k + 1 ∧ ds' = [DG, DR, some (.lst ((nearStep R s e).map encC)), m3, m4, m5, none, none, none, none] := by
      intro tst hp
      have e2 : nearStep R s e = s := by unfold nearStep; rw [hp]; simp
      rw [e2]
      exact ⟨_, _, rfl, seq_ev one (ifF_ev (xtP_ev tst) rfl), _, .inl rfl, D3, D4, D5, by omega, rfl⟩
    rcases hits_one dj e.1 with h1 | ⟨i, h1⟩
    · refine no ?_ (by unfold pairOf; rw [h1])
      rw [h1] at n0
      exact And_ev (a := false) n0 nofun fun _ => rfl
    rcases hits_one dj e.2 with h2 | ⟨j, h2⟩
    · refine no ?_ (by unfold pairOf; rw [h1, h2])
      rw [h1] at n0
      rw [h2] at n1
      exact And_ev (a := true) n0 (fun _ => And_ev (a := false) n1 nofun fun _ => rfl) nofun
    have q1 : H1 = [.int (i : Nat)] := by show (hits R e.1).map _ = _; rw [h1]; rfl
    have q2 : H2 = [.int (j : Nat)] := by show (hits R e.2).map _ = _; rw [h2]; rfl
    have n2 : gB (gOp neD (gOp ixD (gVar 5) (gC (.int 0))) (gOp ixD (gVar 5) (gC (.int 1)))) DS = some (!decide (i = j)) := B_ev (op_ev (op_ev rfl rfl i0) (op_ev rfl rfl i1) (by rw [q1, q2]; exact neOne i j))
    rw [h1] at n0
    rw [h2] at n1
    by_cases z : i = j
    · refine no ?_ (by unfold pairOf; rw [h1, h2]; dsimp only; rw [if_pos z])
      rw [decide_eq_true z] at n2
      exact And_ev (a := true) n0 (fun _ => And_ev (a := true) n1 (fun _ => n2) nofun) nofun
    · rw [decide_eq_false z] at n2
      have hp : pairOf R e = some (min i j, max i j) := by unfold pairOf; rw [h1, h2]; dsimp only; rw [if_neg z]
      have e2 : nearStep R s e = s ++ [(min i j, max i j)] := by unfold nearStep; rw [hp]; rfl
      have ad : gOp addA (gOp ixD (gVar 5) (gC (.int 0))) (gOp ixD (gVar 5) (gC (.int 1))) (hideDS DS) = some (.list [.int (i : Nat), .int (j : Nat)]) := op_ev (op_ev rfl rfl i0) (op_ev rfl rfl i1) (by rw [q1, q2]; exact addL_l (xs := [.int (i : Nat)]) (ys := [.int (j : Nat)]) (by show 2 ≤ sizeLine; decide))
      rw [e2]
      refine ⟨_, _, rfl, seq_ev one (ifT_ev (xtP_ev (And_ev (a := true) n0 (fun _ => And_ev (a := true) n1 (fun _ => n2) nofun) nofun)) (drop_ev (d := .none) (xMt_ev (xs := s.map encC) (as := [encC (min i j, max i j)]) rfl (xCons_ev (xP_ev (Tup_ev (Cons_ev (Call_ev (Cons_ev ad rfl) (minL2 i j)) (Cons_ev (Call_ev (Cons_ev ad rfl) (maxL2 i j)) rfl)) (by show 2 ≤ sizeLine; decide))) rfl) rfl (app_ev (by rw [List.length_map]; omega))))), _, .inl rfl, D3, D4, D5, by rw [List.length_append]; simp; omega, by rw [List.map_append]; rfl⟩) ⟨none, none, none, by simp, rfl⟩
  rw [near_fold, List.nil_append] at lb f1
  let nl := g.close.filterMap (pairOf R)
  have same : ∀ c, c ∈ firsts nl ↔ c ∈ bs := by
    intro c
    rw [firsts_mem, hb c, pair_nr gg dj c]
    exact List.mem_filterMap
  have dd : gLc (gArgs (gCons (gVar 2) gNil) enum2) [7, 9] (asgT [7, 9]) (gB (gOp ninD (gVar 9) (gSlA (gVar 2) gNoPart (gPart (gVar 7))))) (gVar 9) ([DG, DR, some (.lst (nl.map encC)), m3, m4, m5, none, none, none, none] : DS2) = some ((firsts nl).map encC) := by
    unfold firsts
    rw [List.map_map]
    refine LcSome_ev (es := nl.zipIdx) (enc := encCz) (p := fun z => !decide (z.1 ∈ nl.take z.2)) (k := fun z => encC z.1) (Args_ev (Cons_ev rfl rfl) (by show some (enumD 0 (nl.map encC)) = _; rw [enumD_pairs])) fun z _ => ⟨_, rfl, B_ev (op_ev rfl (SlA_ev (d := .list ((nl.take z.2).map encC)) rfl rfl (Part_ev rfl) ?_) (ninC z.1 (nl.take z.2))), fun _ => rfl⟩
    show some (PyData.list (DL.cutD (nl.map encC) none (some ((z.2 : Nat) : Int)))) = _
    rw [cut_take, List.map_take]
  have lc : gLc (gSrc (gVar 1)) [8] (asgN 8) gYes (gCallP 2 F_law_pitch (gCons (gVar 0) (gCons (gVar 8) gNil))) ([DG, DR, some (.lst ((firsts nl).map encC)), m3, m4, m5, none, none, none, none] : DS2) = some ((R.map (tog g)).map encP) := by
    rw [List.map_map]
    exact LcAll_ev (es := R) (enc := encR) (k := fun r => encP (tog g r)) rfl fun r hr => ⟨_, rfl, CallP_ev (Cons_ev rfl (Cons_ev rfl rfl)) rfl (row_ok gg (hR r hr)).2.1 rfl⟩
  refine runP_ev (seq_ev (ifF_ev (xtP_ev (B_ev (op_ev rfl (L_ev (Lst_ev rfl (by show 0 ≤ sizeLine; decide))) (eq_nil (by simpa using ne))))) rfl) (seq_ev (asg_ev (oP_ev (Lst_ev rfl (by show 0 ≤ sizeLine; decide)))) (seq_ev (DL.for_ev (xiP_ev rfl) f1) (seq_ev (asg_ev (oB_ev dd (noListC _))) (ret_ev (oX_ev (xB_ev (Tup_ev (Cons_ev (Call_ev (Cons_ev (L_ev lc) rfl) rfl) (Cons_ev (Call_ev (Cons_ev (L_ev (Args_ev (Cons_ev rfl rfl) (sorted_pairsC (firsts_nodup nl) pb same))) rfl) rfl) (Cons_ev (op_ev rfl rfl at2) rfl))) (by show 3 ≤ sizeLine; decide)) ?_))))))) rfl
  show (noListAll ((R.map (tog g)).map encP) && (noListAll (bs.map encC) && (noListAll g.bars && true))) = true
  rw [noListP, noListC, noListB gg.br]
  rfl
end LAW
set_option Elab.async false
set_option linter.all false
set_option maxRecDepth 100000
set_option maxHeartbeats 4000000
namespace LAW
open PySem PySem.Spec L2 DL PyProof.Rows
theorem popAt0 {x : D} {xs : List D} (l : xs.length ≤ 1000) : popAtD (x :: xs) [.int 0] = some (x, xs) := by
  unfold popAtD
  dsimp only
  rw [if_pos ⟨by decide, by decide⟩, show (0 : Int) = ((0 : Nat) : Int) from rfl, seqIndex_of (by simp) (by simp), Option.bind_some]
  rfl
theorem map_erase {α β : Type} (f : α → β) : ∀ (l : List α) (i : Nat), (l.map f).eraseIdx i = (l.eraseIdx i).map f
  | [], _ => rfl
  | x :: r, 0 => rfl
  | x :: r, i + 1 => by
    rw [List.map_cons, List.eraseIdx_cons_succ, List.eraseIdx_cons_succ, List.map_cons, map_erase f r i]
theorem erase_perm {α : Type} : ∀ (l : List α) (i : Nat) (x : α), l[i]? = some x → l.Perm (x :: l.eraseIdx i)
  | [], _, _, h => by cases h
  | y :: r, 0, x, h => by cases h; exact .refl _
  | y :: r, i + 1, x, h => by
    rw [List.eraseIdx_cons_succ]
    exact ((erase_perm r i x (by simpa using h)).cons y).trans (.swap x y _)
theorem rem_ok {lf : List Nat} {m : Nat} (h : m ∈ lf) : ∃ lf' : List Nat, remD (lf.map fun n => .int (n : Nat)) [.int (m : Nat)] = some (.none, lf'.map fun n => .int (n : Nat)) ∧ lf.Perm (m :: lf') := by
  unfold remD
  dsimp only
  rw [iNats, intsOf_map, Option.bind_some]
  cases e : (lf.map fun n : Nat => (n : Int)).findIdx? (· == (m : Int)) with
  | none =>
    rw [List.findIdx?_eq_none_iff] at e
    have := e (m : Int) (List.mem_map.mpr ⟨m, h, rfl⟩)
    simp at this
  | some j =>
    obtain ⟨hj, e1, _⟩ := List.findIdx?_eq_some_iff_getElem.mp e
    rw [List.length_map] at hj
    rw [List.getElem_map, beq_iff_eq] at e1
    have e2 : lf[j] = m := by omega
    refine ⟨lf.eraseIdx j, ?_, ?_⟩
    · rw [Option.map_some, map_erase, map_erase, List.map_map]
      rfl
    · exact erase_perm lf j m (by rw [List.getElem?_eq_getElem hj, e2])
def pAt (g : Gd) (n : Nat) : Pitch := (g.ps[n]?).getD ⟨"", 0, [], []⟩
theorem pAt_ok {g : Gd} {n : Nat} (h : n < g.ps.length) : g.ps[n]? = some (pAt g n) := by
  unfold pAt
  rw [List.getElem?_eq_getElem h]
  rfl
theorem xOr_t {ds ds1 : DS2} {f h : XF St2 Bool} (e : f ds = some (true, ds1)) : xOr f h ds = some (true, ds1) := by
  unfold xOr; exact xb_ev e rfl
theorem xOr_f {ds ds1 : DS2} {f h : XF St2 Bool} {r : Bool × DS2} (e : f ds = some (false, ds1)) (e2 : h ds1 = some r) : xOr f h ds = some r := by
  unfold xOr; exact xb_ev e e2
end LAW
set_option Elab.async false
set_option linter.all false
set_option maxRecDepth 100000
set_option maxHeartbeats 4000000
namespace LAW
open PySem PySem.Spec L2 DL PyProof.Rows
def pC : XF St2 Bool := (xtP (gB (gOp neD (gVar 3) (gL (gLst gNil)))))
def pB : SF St2 := (gSeq (gAsg 4 (oX (xMt 3 popAtD (xCons (xP (gC (.int 0))) xNil))))
  (gSeq (gAsg 5 (oX (xO (oB (gLc (gSrc (gVar 3)) [7] (asgN 7) (gB (gOp inD (gTup (gCons (gVar 4) (gCons (gVar 7) gNil))) (gOp ixD (gVar 1) (gC (.int 1))))) (gVar 7))))))
  (gSeq (gAsg 5 (oX (xP (gL (gLc (gSrc (gVar 5)) [7] (asgN 7) (gB (gOp neD (gCallP 2 F_law_common (gCons (gOp ixD (gOp ixD (gVar 1) (gC (.int 0))) (gVar 4)) (gCons (gOp ixD (gOp ixD (gVar 1) (gC (.int 0))) (gVar 7)) gNil))) (gL (gLst gNil)))) (gVar 7))))))
  (gSeq (gAsg 6 (oX (xO (oCallS 2 0 F_law_draw (xCons (xP (gC (.int 3))) xNil)))))
  (gIfS (xtP (gAnd (gB (gOp ltD (gVar 6) (gC (.int 2)))) (gB (gOp neD (gVar 5) (gL (gLst gNil))))))
  (gSeq (gAsg 7 (oX (xOp ixD (xP (gVar 5)) (xO (oCallS 2 0 F_law_draw (xCons (xP (gCall (gCons (gVar 5) gNil) lenD)) xNil))))))
  (gSeq (gDrop (xMt 3 remD (xCons (xP (gVar 7)) xNil)))
  (gDrop (xMt 2 appD (xCons (xP (gTup (gCons (gVar 4) (gCons (gVar 7) gNil)))) xNil)))))
  (gIfS (xOr (xtP (gB (gOp gtD (gVar 6) (gC (.int 0))))) (xBool (xOp eqD (xO (oCallS 2 0 F_law_draw (xCons (xP (gC (.int 2))) xNil))) (xP (gC (.int 0))))))
  (gDrop (xMt 2 appD (xCons (xP (gTup (gCons (gVar 4) gNil))) xNil)))
  gNext))))))
def eN (l : List Nat) : List D := l.map fun n => .int (n : Nat)
theorem eN_nil (l : List Nat) : neD (.list (eN l)) (.list []) = some (.bool (!l.isEmpty)) := eqL_nil l
/-- one turn: what is taken, what stays -/
theorem part_turn {g : Gd} (gg : GG g) {b n : Nat} {lf : List Nat} {fd : List Row} {s : St2} {m4 m5 m6 m7 : Option (MO St2)} (w : Wf (b + 3) s) (hn : n < g.ps.length) (hl : ∀ m ∈ lf, m < g.ps.length) (l8 : fd.length + lf.length ≤ 900) :
    ∃ (s' : St2) (lf' : List Nat) (fd' : List Row) (k4 k5 k6 k7 : Option (MO St2)), pB [some (.st s), some (.d (encG g)), some (.lst (fd.map encR)), some (.lst (eN (n :: lf))), m4, m5, m6, m7] = some (.nx [some (.st s'), some (.d (encG g)), some (.lst (fd'.map encR)), some (.lst (eN lf')), k4, k5, k6, k7]) ∧ Wf b s' ∧
      ((lf' = lf ∧ (fd' = fd ∨ fd' = fd ++ [[n]])) ∨ ∃ m, lf.Perm (m :: lf') ∧ fd' = fd ++ [[n, m]]) := by
  unfold pB
  have sz : (1000 : Nat) ≤ sizeLine := by decide
  let DG : Option (MO St2) := some (.d (encG g))
  let DN : Option (MO St2) := some (.d (.int (n : Nat)))
  let l1 : List Nat := lf.filter fun m => decide ((n, m) ∈ g.close)
  let l2 : List Nat := l1.filter fun m => !(both (pAt g n) (pAt g m)).isEmpty
  have hl2 : ∀ m ∈ l2, m ∈ lf := fun m hm => (List.mem_filter.mp (List.mem_filter.mp hm).1).1
  have l2l : l2.length ≤ lf.length := Nat.le_trans (List.length_filter_le _ _) (List.length_filter_le _ _)
  have c1 : gLc (gSrc (gVar 3)) [7] (asgN 7) (gB (gOp inD (gTup (gCons (gVar 4) (gCons (gVar 7) gNil))) (gOp ixD (gVar 1) (gC (.int 1))))) (gVar 7) ([some (.st s), DG, some (.lst (fd.map encR)), some (.lst (eN lf)), DN, m5, m6, m7] : DS2) = some (eN l1) :=
    LcSome_ev (es := lf) (enc := fun m => .int (m : Nat)) (p := fun m => decide ((n, m) ∈ g.close)) (k := fun m => .int (m : Nat)) rfl fun m hm => ⟨_, rfl, B_ev (op_ev (Tup_ev (Cons_ev rfl (Cons_ev rfl rfl)) (by show 2 ≤ sizeLine; decide)) (op_ev rfl rfl at1) (inC (n, m) g.close)), fun _ => rfl⟩
  have nl1 : noListAll (eN l1) = true := by
    unfold eN
    clear_value l1
    clear c1 l2l hl2 l2
    induction l1 with
    | nil => rfl
    | cons x r ih => exact ih
  have g0 : ixD (encG g) (.int 0) = some (.tuple (g.ps.map encP)) := at0
  have c2 : gLc (gSrc (gVar 5)) [7] (asgN 7) (gB (gOp neD (gCallP 2 F_law_common (gCons (gOp ixD (gOp ixD (gVar 1) (gC (.int 0))) (gVar 4)) (gCons (gOp ixD (gOp ixD (gVar 1) (gC (.int 0))) (gVar 7)) gNil))) (gL (gLst gNil)))) (gVar 7) (hideDS ([some (.st s), DG, some (.lst (fd.map encR)), some (.lst (eN lf)), DN, some (.d (.list (eN l1))), m6, m7] : DS2)) = some (eN l2) :=
    LcSome_ev (es := l1) (enc := fun m => .int (m : Nat)) (p := fun m => !(both (pAt g n) (pAt g m)).isEmpty) (k := fun m => .int (m : Nat)) rfl fun m hm => ⟨_, rfl, B_ev (op_ev (CallP_ev (Cons_ev (op_ev (op_ev rfl rfl g0) rfl (gp_at (pAt_ok hn))) (Cons_ev (op_ev (op_ev rfl rfl g0) rfl (gp_at (pAt_ok (hl m (List.mem_filter.mp hm).1)))) rfl)) rfl (common_ok _ _) rfl) (L_ev (Lst_ev rfl (by show 0 ≤ sizeLine; decide))) (neL_strs _)), fun _ => rfl⟩
  let D5 : Option (MO St2) := some (.d (.list (eN l2)))
  obtain ⟨r, s1, e1, r0, r1, w1⟩ := drawCall (b := b + 2) (m := 3) (ds := [some (.st s), DG, some (.lst (fd.map encR)), some (.lst (eN lf)), DN, D5, m6, m7]) (g := gC (.int 3)) (w.mono (by omega)) rfl rfl (by decide) (by decide)
  let D6 : Option (MO St2) := some (.d (.int r))
  have pre : ∀ {tl : SF St2} {o : Out St2}, tl [some (.st s1), DG, some (.lst (fd.map encR)), some (.lst (eN lf)), DN, D5, D6, m7] = some o → (gSeq (gAsg 4 (oX (xMt 3 popAtD (xCons (xP (gC (.int 0))) xNil))))
  (gSeq (gAsg 5 (oX (xO (oB (gLc (gSrc (gVar 3)) [7] (asgN 7) (gB (gOp inD (gTup (gCons (gVar 4) (gCons (gVar 7) gNil))) (gOp ixD (gVar 1) (gC (.int 1))))) (gVar 7))))))
  (gSeq (gAsg 5 (oX (xP (gL (gLc (gSrc (gVar 5)) [7] (asgN 7) (gB (gOp neD (gCallP 2 F_law_common (gCons (gOp ixD (gOp ixD (gVar 1) (gC (.int 0))) (gVar 4)) (gCons (gOp ixD (gOp ixD (gVar 1) (gC (.int 0))) (gVar 7)) gNil))) (gL (gLst gNil)))) (gVar 7))))))
  (gSeq (gAsg 6 (oX (xO (oCallS 2 0 F_law_draw (xCons (xP (gC (.int 3))) xNil))))) tl)))) [some (.st s), DG, some (.lst (fd.map encR)), some (.lst (eN (n :: lf))), m4, m5, m6, m7] = some o := by
    intro tl o h
    exact seq_ev (asg_ev (oX_ev (xMt_ev (xs := eN (n :: lf)) rfl (xCons_ev (xP_ev rfl) rfl) rfl (popAt0 (by show (lf.map _).length ≤ _; rw [List.length_map]; omega))))) (seq_ev (asg_ev (oX_ev (xOl_ev (oB_ev c1 nl1)))) (seq_ev (asg_ev (oX_ev (xP_ev (L_ev c2)))) (seq_ev (asg_ev (oX_ev e1)) h)))
  have ln : gB (gOp neD (gVar 5) (gL (gLst gNil))) ([some (.st s1), DG, some (.lst (fd.map encR)), some (.lst (eN lf)), DN, D5, D6, m7] : DS2) = some (!l2.isEmpty) := B_ev (op_ev rfl (L_ev (Lst_ev rfl (by show 0 ≤ sizeLine; decide))) (eN_nil l2))
  have lt2 : gB (gOp ltD (gVar 6) (gC (.int 2))) ([some (.st s1), DG, some (.lst (fd.map encR)), some (.lst (eN lf)), DN, D5, D6, m7] : DS2) = some (decide (r < 2)) := rfl
  have gt0 : gB (gOp gtD (gVar 6) (gC (.int 0))) ([some (.st s1), DG, some (.lst (fd.map encR)), some (.lst (eN lf)), DN, D5, D6, m7] : DS2) = some (decide (r > 0)) := rfl
  by_cases yes : r < 2 ∧ l2 ≠ []
  · obtain ⟨y1, y2⟩ := yes
    have ne : l2.isEmpty = false := by cases h : l2 with
      | nil => exact absurd h y2
      | cons x t => rfl
    have pos : 0 < l2.length := List.length_pos_iff.mpr y2
    obtain ⟨q, s2, e2, q0, q1, w2⟩ := drawCall (b := b + 1) (m := ((eN l2).length : Nat)) (ds := [some (.st s1), DG, some (.lst (fd.map encR)), some (.lst (eN lf)), DN, D5, D6, m7]) (g := gCall (gCons (gVar 5) gNil) lenD) w1 rfl rfl (by unfold eN; rw [List.length_map]; omega) (by unfold eN; rw [List.length_map]; omega)
    obtain ⟨k, rfl⟩ : ∃ k : Nat, q = (k : Int) := ⟨q.toNat, by omega⟩
    have kl : k < l2.length := by unfold eN at q1; rw [List.length_map] at q1; omega
    have hm : l2[k] ∈ lf := hl2 _ (List.getElem_mem _)
    obtain ⟨lf', er, pr⟩ := rem_ok hm
    have e3 : ixD (.list (eN l2)) (.int (k : Int)) = some (.int (l2[k] : Nat)) := ixL_nat (by unfold eN; rw [List.getElem?_map, List.getElem?_eq_getElem kl]; rfl)
    rw [decide_eq_true y1] at lt2
    rw [ne] at ln
    refine ⟨s2, lf', fd ++ [[n, l2[k]]], DN, D5, D6, some (.d (.int (l2[k] : Nat))), pre (ifT_ev (xtP_ev (And_ev (a := true) lt2 (fun _ => ln) nofun)) (seq_ev (asg_ev (oX_ev (xOp_ev (z := .int (l2[k] : Nat)) (xP_ev rfl) e2 e3))) (seq_ev (drop_ev (d := .none) (xMt_ev (xs := eN lf) (as := [.int (l2[k] : Nat)]) rfl (xCons_ev (xP_ev rfl) rfl) rfl er)) (drop_ev (d := .none) (xMt_ev (ds1 := [some (.st s2), DG, some (.lst (fd.map encR)), some (.lst (eN lf')), DN, D5, D6, some (.d (.int (l2[k] : Nat)))]) (xs := fd.map encR) (as := [encR [n, l2[k]]]) (ys := (fd ++ [[n, l2[k]]]).map encR) rfl (xCons_ev (xP_ev (Tup_ev (Cons_ev rfl (Cons_ev rfl rfl)) (by show 2 ≤ sizeLine; decide))) rfl) rfl (by rw [List.map_append]; exact app_ev (by rw [List.length_map]; omega))))))), w2.mono (by omega), .inr ⟨_, pr, rfl⟩⟩
  · have tst : gAnd (gB (gOp ltD (gVar 6) (gC (.int 2)))) (gB (gOp neD (gVar 5) (gL (gLst gNil)))) ([some (.st s1), DG, some (.lst (fd.map encR)), some (.lst (eN lf)), DN, D5, D6, m7] : DS2) = some false := by
      by_cases y1 : r < 2
      · have e : l2 = [] := Classical.byContradiction fun z => yes ⟨y1, z⟩
        rw [e] at ln
        exact And_ev (a := decide (r < 2)) lt2 (fun _ => ln) fun _ => rfl
      · exact And_ev (a := false) (by rw [lt2, decide_eq_false y1]) nofun fun _ => rfl
    have add : ∀ {st : St2}, gDrop (xMt 2 appD (xCons (xP (gTup (gCons (gVar 4) gNil))) xNil)) ([some (.st st), DG, some (.lst (fd.map encR)), some (.lst (eN lf)), DN, D5, D6, m7] : DS2) = some (.nx [some (.st st), DG, some (.lst ((fd ++ [[n]]).map encR)), some (.lst (eN lf)), DN, D5, D6, m7]) := fun {st} => drop_ev (d := .none) (xMt_ev (ds1 := [some (.st st), DG, some (.lst (fd.map encR)), some (.lst (eN lf)), DN, D5, D6, m7]) (xs := fd.map encR) (as := [encR [n]]) (ys := (fd ++ [[n]]).map encR) rfl (xCons_ev (xP_ev (Tup_ev (Cons_ev rfl rfl) (by show 1 ≤ sizeLine; decide))) rfl) rfl (by rw [List.map_append]; exact app_ev (by rw [List.length_map]; omega)))
    by_cases z : r > 0
    · rw [decide_eq_true z] at gt0
      exact ⟨s1, lf, fd ++ [[n]], DN, D5, D6, m7, pre (ifF_ev (xtP_ev tst) (ifT_ev (xOr_t (xtP_ev gt0)) add)), w1.mono (by omega), .inl ⟨rfl, .inr rfl⟩⟩
    · rw [decide_eq_false z] at gt0
      obtain ⟨q, s2, e2, q0, q1, w2⟩ := drawCall (b := b + 1) (m := 2) (ds := [some (.st s1), DG, some (.lst (fd.map encR)), some (.lst (eN lf)), DN, D5, D6, m7]) (g := gC (.int 2)) w1 rfl rfl (by decide) (by decide)
      have et : xBool (xOp eqD (xO (oCallS 2 0 F_law_draw (xCons (xP (gC (.int 2))) xNil))) (xP (gC (.int 0)))) ([some (.st s1), DG, some (.lst (fd.map encR)), some (.lst (eN lf)), DN, D5, D6, m7] : DS2) = some (q == 0, [some (.st s2), DG, some (.lst (fd.map encR)), some (.lst (eN lf)), DN, D5, D6, m7]) := xBool_ev (xOp_ev e2 (xP_ev rfl) rfl)
      cases hq : (q == 0) with
      | true =>
        rw [hq] at et
        exact ⟨s2, lf, fd ++ [[n]], DN, D5, D6, m7, pre (ifF_ev (xtP_ev tst) (ifT_ev (xOr_f (xtP_ev gt0) et) add)), w2.mono (by omega), .inl ⟨rfl, .inr rfl⟩⟩
      | false =>
        rw [hq] at et
        exact ⟨s2, lf, fd, DN, D5, D6, m7, pre (ifF_ev (xtP_ev tst) (ifF_ev (xOr_f (xtP_ev gt0) et) rfl)), w2.mono (by omega), .inl ⟨rfl, .inl rfl⟩⟩
/-- the whole loop -/
theorem parts_loop {g : Gd} (gg : GG g) : ∀ (f : Nat) (lf : List Nat) (fd : List Row) (s : St2) (m4 m5 m6 m7 : Option (MO St2)) (b : Nat), lf.length < f → Wf (b + 3 * lf.length) s → (∀ n ∈ lf, n < g.ps.length) → (∀ r ∈ fd, RowOK g r) → (fd.flatten ++ lf).Nodup → fd.length + lf.length ≤ 8 →
    ∃ (s' : St2) (R : List Row) (k4 k5 k6 k7 : Option (MO St2)), whileRun pC pB f [some (.st s), some (.d (encG g)), some (.lst (fd.map encR)), some (.lst (eN lf)), m4, m5, m6, m7] = some (.nx [some (.st s'), some (.d (encG g)), some (.lst (R.map encR)), some (.lst []), k4, k5, k6, k7]) ∧ (∀ r ∈ R, RowOK g r) ∧ R.flatten.Nodup ∧ R.length ≤ 8 ∧ Wf b s'
  | 0, lf, _, _, _, _, _, _, _, h, _, _, _, _, _ => absurd h (Nat.not_lt_zero _)
  | f + 1, [], fd, s, m4, m5, m6, m7, b, h, w, hl, hr, nd, l8 => by
    have c : pC ([some (.st s), some (.d (encG g)), some (.lst (fd.map encR)), some (.lst (eN [])), m4, m5, m6, m7] : DS2) = some (false, [some (.st s), some (.d (encG g)), some (.lst (fd.map encR)), some (.lst (eN [])), m4, m5, m6, m7]) := xtP_ev (B_ev (op_ev rfl (L_ev (Lst_ev rfl (by show 0 ≤ sizeLine; decide))) (eN_nil [])))
    refine ⟨s, fd, m4, m5, m6, m7, ?_, hr, by simpa using nd, by simpa using l8, w.mono (by omega)⟩
    unfold whileRun
    rw [c]
    rfl
  | f + 1, n :: lf, fd, s, m4, m5, m6, m7, b, h, w, hl, hr, nd, l8 => by
    have c : pC ([some (.st s), some (.d (encG g)), some (.lst (fd.map encR)), some (.lst (eN (n :: lf))), m4, m5, m6, m7] : DS2) = some (true, [some (.st s), some (.d (encG g)), some (.lst (fd.map encR)), some (.lst (eN (n :: lf))), m4, m5, m6, m7]) := xtP_ev (B_ev (op_ev rfl (L_ev (Lst_ev rfl (by show 0 ≤ sizeLine; decide))) (eN_nil (n :: lf))))
    rw [List.length_cons] at h w l8
    have hn := hl n (by simp)
    have hl' : ∀ m ∈ lf, m < g.ps.length := fun m hm => hl m (List.mem_cons_of_mem _ hm)
    obtain ⟨s', lf', fd', k4, k5, k6, k7, e, w', cs⟩ := part_turn (b := b + 3 * lf.length) (m4 := m4) (m5 := m5) (m6 := m6) (m7 := m7) (fd := fd) gg (w.mono (by omega)) hn hl' (by omega)
    have nx : lf'.length ≤ lf.length ∧ (∀ m ∈ lf', m < g.ps.length) ∧ (∀ r ∈ fd', RowOK g r) ∧ (fd'.flatten ++ lf').Nodup ∧ fd'.length + lf'.length ≤ 8 := by
      rcases cs with ⟨rfl, rfl | rfl⟩ | ⟨m, pr, rfl⟩
      · exact ⟨Nat.le_refl _, hl', hr, nd.sublist (List.Sublist.append (.refl _) (List.sublist_cons_self ..)), by omega⟩
      · refine ⟨Nat.le_refl _, hl', fun r hr' => ?_, ?_, by rw [List.length_append]; simp; omega⟩
        · rcases List.mem_append.mp hr' with z | z
          · exact hr r z
          · rw [List.mem_singleton.mp z]; exact .inl ⟨n, _, rfl, pAt_ok hn⟩
        · rw [List.flatten_append, List.append_assoc]
          exact nd
      · have hm : m < g.ps.length := hl' m (pr.mem_iff.mpr (by simp))
        have lel := pr.length_eq
        rw [List.length_cons] at lel
        refine ⟨by omega, fun x hx => hl' x (pr.mem_iff.mpr (List.mem_cons_of_mem _ hx)), fun r hr' => ?_, ?_, by rw [List.length_append]; simp; omega⟩
        · rcases List.mem_append.mp hr' with z | z
          · exact hr r z
          · rw [List.mem_singleton.mp z]; exact .inr ⟨n, m, _, _, rfl, pAt_ok hn, pAt_ok hm⟩
        · rw [List.flatten_append, List.append_assoc]
          exact (List.Perm.append_left _ (pr.cons n)).nodup_iff.mp nd
    obtain ⟨n1, n2, n3, n4, n5⟩ := nx
    obtain ⟨s2, R, q4, q5, q6, q7, e2, r1, r2, r3, w2⟩ := parts_loop gg f lf' fd' s' k4 k5 k6 k7 b (by omega) (w'.mono (by omega)) n2 n3 n4 n5
    refine ⟨s2, R, q4, q5, q6, q7, ?_, r1, r2, r3, w2⟩
    unfold whileRun
    rw [c, Option.bind_some, if_pos rfl]
    dsimp only
    rw [e, Option.bind_some]
    exact e2
theorem dj_of {R : List Row} (h : R.flatten.Nodup) : Dj R := by
  intro i j a b n ha hb hna hnb
  induction R generalizing i j with
  | nil => cases ha
  | cons r t ih =>
    rw [List.flatten_cons] at h
    obtain ⟨_, h2, h3⟩ := List.nodup_append.mp h
    cases i with
    | zero =>
      cases j with
      | zero => rfl
      | succ j =>
        cases ha
        have hb' : t[j]? = some b := by simpa using hb
        exact absurd rfl (h3 n hna n (List.mem_flatten.mpr ⟨b, List.mem_of_getElem? hb', hnb⟩))
    | succ i =>
      have ha' : t[i]? = some a := by simpa using ha
      cases j with
      | zero =>
        cases hb
        exact absurd rfl (h3 n hnb n (List.mem_flatten.mpr ⟨a, List.mem_of_getElem? ha', hna⟩))
      | succ j =>
        have hb' : t[j]? = some b := by simpa using hb
        rw [ih h2 i j ha' hb']
theorem listR_ok {n : Nat} (h : n ≤ 1000) : rngD 0 ((n : Int)).toNat = eN (List.range n) := by
  unfold rngD eN
  rw [Int.toNat_natCast]
  refine List.map_congr_left fun k _ => ?_
  rw [Int.zero_add]
theorem parts_ok {g : Gd} (gg : GG g) {b : Nat} {s : St2} (w : Wf (b + 24) s) : ∃ (R : List Row) (s' : St2), F_law_parts s [encG g] = some (.lst (R.map encR), s') ∧ (∀ r ∈ R, RowOK g r) ∧ R.flatten.Nodup ∧ R.length ≤ 8 ∧ Wf b s' := by
  unfold F_law_parts g_law_parts
  have l8 := gg.len2
  obtain ⟨s', R, m4, m5, m6, m7, e, h1, h2, h3, w'⟩ := parts_loop gg 64 (List.range g.ps.length) [] s none none none none b (by rw [List.length_range]; omega) (by rw [List.length_range]; exact w.mono (by omega)) (fun n hn => List.mem_range.mp hn) (fun r hr => by cases hr) (by simpa using List.nodup_range) (by rw [List.length_range]; simp; omega)
  have el : gListR1 (gCall (gCons (gOp ixD (gVar 1) (gC (.int 0))) gNil) lenD) (hideDS ([some (.st s), some (.d (encG g)), none, none, none, none, none, none] : DS2)) = some (eN (List.range g.ps.length)) := by
    unfold gListR1
    have e1 : gCall (gCons (gOp ixD (gVar 1) (gC (.int 0))) gNil) lenD (hideDS ([some (.st s), some (.d (encG g)), none, none, none, none, none, none] : DS2)) = some (.int (g.ps.length : Nat)) := Call_ev (Cons_ev (op_ev rfl rfl at0) rfl) (by show some (PyData.int ((g.ps.map encP).length : Nat)) = _; rw [List.length_map])
    rw [e1, Option.bind_some]
    dsimp only
    rw [if_pos ⟨by omega, by omega⟩, listR_ok (by omega)]
  refine ⟨R, s', runS_rt (seq_ev (par2_ev (oCons_ev (oP_ev (Lst_ev rfl (by show 0 ≤ sizeLine; decide))) (oCons_ev (oP_ev el) rfl))) (seq_ev (show gWhile 64 pC pB _ = _ from e) (ret_ev (m := .lst (R.map encR)) rfl))) rfl, h1, h2, h3, w'⟩
end LAW
set_option Elab.async false
set_option linter.all false
set_option maxRecDepth 100000
set_option maxHeartbeats 4000000
namespace LAW
open PySem PySem.Spec L2 DL PyProof.Rows
theorem callS1 {n : Nat} {F : St2 → List D → Option (MO St2 × St2)} {f : XF St2 (List D)} {ds ds1 : DS2} {s0 s s' : St2} {as : List D} {m : MO St2} (e0 : stAt ds 1 = some s0) (e : f ds = some (as, ds1)) (e1 : stAt ds1 1 = some s) (n1 : as.length + 1 = n) (e2 : F s as = some (m, s')) : oCallS n 1 F f ds = some (m, ds1.set 1 (some (.st s'))) := callS_ev e0 e e1 n1 e2
theorem runC_rt {n : Nat} {g : SF St2} {ns : List Int} {as : List D} {m : MO St2} {ds1 : DS2} (h : g (startD n (.scr ns :: as.map .d)) = some (.rt m ds1)) : runC n g ns as = some m := runC_ev (p := (m, ds1)) h rfl
theorem cut_drop (xs : List D) : DL.cutD xs (some 1) none = xs.drop 1 := by
  unfold DL.cutD
  rw [show (some (1 : Int)) = some ((1 : Nat) : Int) from rfl, HT.sIx_nat]
  show (xs.drop (min 1 xs.length)).take (xs.length - min 1 xs.length) = _
  cases xs with
  | nil => rfl
  | cons x r =>
    have : min 1 (x :: r).length = 1 := by simp
    rw [this, List.take_of_length_le (by simp)]
theorem neS (x : Str) : neD (.str x) (.str x) = some (.bool false) := by
  show some (PyData.bool (!(x == x))) = _
  rw [beq_self_eq_true]
  rfl
theorem ne_self {d : D} (lay : d.canLay0 = true) (dep : d.depth ≤ 64) : neD d d = some (.bool false) := by
  unfold neD
  rw [if_pos (by omega), PySem.SeqAt.eqv_refl d lay]
  rfl
def alone (g : Gd) : List Row := (List.range g.ps.length).map fun n => [n]
theorem alone_get {g : Gd} {i : Nat} {a : Row} (h : (alone g)[i]? = some a) : a = [i] ∧ i < g.ps.length := by
  unfold alone at h
  rw [List.getElem?_map] at h
  cases e : (List.range g.ps.length)[i]? with
  | none => rw [e] at h; cases h
  | some x =>
    rw [e] at h
    obtain ⟨h1, h2⟩ := List.getElem?_eq_some_iff.mp e
    rw [List.getElem_range] at h2
    rw [List.length_range] at h1
    rw [Option.map_some, Option.some.injEq] at h
    exact ⟨by rw [← h, h2], h1⟩
theorem alone_at {g : Gd} {i : Nat} (h : i < g.ps.length) : (alone g)[i]? = some [i] := by
  unfold alone
  rw [List.getElem?_map, List.getElem?_range h]
  rfl
theorem alone_rows {g : Gd} : ∀ r ∈ alone g, RowOK g r := by
  intro r hr
  obtain ⟨n, hn, rfl⟩ := List.mem_map.mp hr
  exact .inl ⟨n, _, rfl, pAt_ok (List.mem_range.mp hn)⟩
theorem alone_dj {g : Gd} : Dj (alone g) := by
  intro i j a b n ha hb hna hnb
  rw [(alone_get ha).1] at hna
  rw [(alone_get hb).1] at hnb
  rw [← List.mem_singleton.mp hna, ← List.mem_singleton.mp hnb]
theorem alone_len {g : Gd} : (alone g).length = g.ps.length := by unfold alone; rw [List.length_map, List.length_range]
theorem alone_tog {g : Gd} : (alone g).map (tog g) = g.ps := by
  refine List.ext_getElem? fun i => ?_
  rw [List.getElem?_map]
  by_cases h : i < g.ps.length
  · rw [alone_at h, Option.map_some]
    show some (pAt g i) = _
    rw [pAt_ok h]
  · rw [List.getElem?_eq_none (by rw [alone_len]; omega), List.getElem?_eq_none (by omega)]
    rfl
theorem alone_nr {g : Gd} (gg : GG g) (c : Nat × Nat) : Nr g (alone g) c ↔ c ∈ g.close := by
  constructor
  · rintro ⟨lt, a, b, ha, hb, hn⟩
    rw [(alone_get ha).1, (alone_get hb).1] at hn
    unfold nearB at hn
    rw [List.any_cons, List.any_nil, Bool.or_false, List.any_cons, List.any_nil, Bool.or_false] at hn
    have h := of_decide_eq_true hn
    rw [Nat.min_eq_left (by omega), Nat.max_eq_right (by omega)] at h
    exact h
  · intro h
    obtain ⟨c1, c2⟩ := gg.cl c h
    refine ⟨c1, _, _, alone_at (by omega), alone_at c2, ?_⟩
    unfold nearB
    rw [List.any_cons, List.any_nil, Bool.or_false, List.any_cons, List.any_nil, Bool.or_false, Nat.min_eq_left (by omega), Nat.max_eq_right (by omega)]
    exact decide_eq_true h
theorem alone_day {g : Gd} (gg : GG g) : F_day_ground [encG g, .list ((alone g).map encR)] = some (.d (encG g)) := by
  have l1 := gg.len
  have l8 := gg.len2
  obtain ⟨bs, e, hb, pb, _⟩ := day_ok gg alone_rows (fun z => by have := alone_len (g := g); rw [z] at this; simp at this; omega) (by rw [alone_len]; exact l8)
  have eb : bs = g.close := lx_eq pb gg.cp fun c => (hb c).trans (alone_nr gg c)
  rw [e, alone_tog, eb]
  rfl
/-- rows that the law asks about -/
structure Rw (g : Gd) (R : List Row) : Prop where
  ok : ∀ r ∈ R, RowOK g r
  dj : Dj R
  len : R.length ≤ 8
theorem row_nc {g : Gd} (gg : GG g) {r : Row} (h : RowOK g r) : Nc 2 142 (encR r) := by
  have l8 := gg.len2
  have key : r.length ≤ 2 ∧ ∀ n ∈ r, n < 8 := by
    rcases h with ⟨n, p, rfl, h⟩ | ⟨n, m, p, q, rfl, h, h2⟩
    · have := (List.getElem?_eq_some_iff.mp h).1
      refine ⟨by simp, fun x hx => ?_⟩
      rw [List.mem_singleton.mp hx]; omega
    · have := (List.getElem?_eq_some_iff.mp h).1
      have := (List.getElem?_eq_some_iff.mp h2).1
      refine ⟨by simp, fun x hx => ?_⟩
      simp only [List.mem_cons, List.not_mem_nil, or_false] at hx
      rcases hx with rfl | rfl <;> omega
  refine nc_tup (k := 0) (w := 70) (n := 2) (fun z hz => ?_) (by rw [List.length_map]; exact key.1)
  obtain ⟨n, hn, rfl⟩ := List.mem_map.mp hz
  exact nc_int (by have := key.2 n hn; omega)
theorem kept_nc {g : Gd} (gg : GG g) {R : List Row} (h : Rw g R) : Nc 60 700000 (.list [encG g, .list (R.map encR)]) := by
  refine (nc_lst (k := 8) (w := 27459) (n := 2) (fun z hz => ?_) (by show 2 ≤ 2; decide)).mono (by decide) (by decide)
  simp only [List.mem_cons, List.not_mem_nil, or_false] at hz
  rcases hz with rfl | rfl
  · exact nc_G gg
  · refine (nc_lst (k := 2) (w := 142) (n := 8) (fun y hy => ?_) (by rw [List.length_map]; exact h.len)).mono (by decide) (by decide)
    obtain ⟨r, hr, rfl⟩ := List.mem_map.mp hy
    exact row_nc gg (h.ok r hr)
theorem ask54 {g : Gd} (gg : GG g) {R : List Row} (h : Rw g R) : ∃ (d : D) (x : Str), F_day_ground [encG g, .list (R.map encR)] = some (.d d) ∧ F_law_due [encG g, .list (R.map encR)] = some (.d d) ∧ reprD [d] = some (.str x) := by
  by_cases ne : R = []
  · subst ne
    refine ⟨.none, _, ?_, ?_, repr_ok ⟨rfl, Nat.zero_le _, by decide, rfl, rfl⟩⟩
    · unfold F_day_ground g_day_ground
      exact runP_ev (seq_rt (ifT_ev (xtP_ev (B_ev (op_ev rfl (L_ev (Lst_ev rfl (by show 0 ≤ sizeLine; decide))) rfl))) (ret_ev (oX_ev (xP_ev rfl))))) rfl
    · unfold F_law_due g_law_due
      exact runP_ev (seq_rt (ifT_ev (xtP_ev (B_ev (op_ev rfl (L_ev (Lst_ev rfl (by show 0 ≤ sizeLine; decide))) rfl))) (ret_ev (oX_ev (xP_ev rfl))))) rfl
  · obtain ⟨bs, e, hb, pb, lb⟩ := day_ok gg h.ok ne h.len
    refine ⟨_, _, e, due_ok gg h.ok h.dj ne h.len hb pb, repr_ok ((nc_3 (fun p hp => ?_) (by rw [List.length_map, List.length_map]; exact h.len) (fun c hc => ?_) lb gg.br gg.br2).mono (by decide) (by decide))⟩
    · obtain ⟨q, hq, rfl⟩ := List.mem_map.mp hp
      obtain ⟨r, hr, rfl⟩ := List.mem_map.mp hq
      exact nc_P (row_ok gg (h.ok r hr)).2.2
    · obtain ⟨lt, a, b, ha, hb2, _⟩ := (hb c).mp hc
      have := (List.getElem?_eq_some_iff.mp hb2).1
      have := h.len
      omega
theorem plain : ∀ ns : List Int, ns.length ≤ 63 → F_law ns [] = some (.d (.bool true)) := by
  intro ns hn
  have sz : (1000 : Nat) ≤ sizeLine := by decide
  obtain ⟨s0, eb, wb⟩ := begun_ok ns hn
  unfold F_law g_law
  let SC : Option (MO St2) := some (.scr ns)
  obtain ⟨ds', f1, s9, m2, m3, m4, m5, m6, m7, m8, w9, rfl⟩ := forList (σ := Unit) (t := asgN 2) (enc := fun (k : Nat) => PyData.int ((0 : Int) + (k : Int))) (step := fun _ _ => ()) (body := (gSeq (gAsg 3 (oX (xO (oCallS 2 1 F_law_ground (xCons (xP (gC (.int 8))) xNil)))))
  (gSeq (gAsg 4 (oX (xO (oCallS 2 1 F_law_parts (xCons (xP (gVar 3)) xNil)))))
  (gSeq (gAsg 5 (oX (xP (gL (gLc (gArgs (gCons (gCall (gCons (gOp ixD (gVar 3) (gC (.int 0))) gNil) lenD) gNil) rng1) [9] (asgN 9) gYes (gTup (gCons (gVar 9) gNil)))))))
  (gSeq (gFor (xiP (gSrc (gTup (gCons (gVar 4) (gCons (gVar 5) (gCons (gSlA (gVar 4) (gPart (gC (.int 1))) gNoPart) (gCons (gL (gLst gNil)) gNil))))))) (asgN 6)
  (gSeq (gPar2 7 8 (oCons (oX (xP (gL (gArgs (gCons (gVar 6) gNil) listD)))) (oCons (oX (xP (gCall (gCons (gL (gLst (gCons (gVar 3) (gCons (gVar 6) gNil)))) gNil) reprD))) oNil)))
  (gIfS (xtP (gOr (gB (gOp neD (gCall (gCons (gCallP 2 F_day_ground (gCons (gVar 3) (gCons (gVar 7) gNil))) gNil) reprD) (gCall (gCons (gCallP 2 F_law_due (gCons (gVar 3) (gCons (gVar 6) gNil))) gNil) reprD))) (gB (gOp neD (gCall (gCons (gL (gLst (gCons (gVar 3) (gCons (gVar 7) gNil)))) gNil) reprD) (gVar 8)))))
  (gRet (oX (xP (gC (.bool false)))))
  gNext)))
  (gIfS (xtP (gB (gOp neD (gCallP 2 F_day_ground (gCons (gVar 3) (gCons (gVar 5) gNil))) (gVar 3))))
  (gRet (oX (xP (gC (.bool false)))))
  gNext)))))) (fun k _ ds => ∃ s m2 m3 m4 m5 m6 m7 m8, Wf (10000 * (6 - k)) s ∧ ds = [SC, some (.st s), m2, m3, m4, m5, m6, m7, m8, none]) (List.range 6) () [SC, some (.st s0), none, none, none, none, none, none, none, none] (fun k q hk _ ds ⟨s, m2, m3, m4, m5, m6, m7, m8, w, eds⟩ => by
    subst eds
    have hk4 : k < 6 := by have := (List.getElem?_eq_some_iff.mp hk).1; rwa [List.length_range] at this
    let T : Option (MO St2) := some (.d (.int ((0 : Int) + (q : Int))))
    obtain ⟨g, s1, e1, ⟨gg, gl⟩, w1⟩ := ground_ok (b := 10000 * (6 - (k + 1)) + 9000) (M := 8) (by decide) (by decide) (w.mono (by omega))
    obtain ⟨R, s2, e2, r1, r2, r3, w2⟩ := parts_ok (b := 10000 * (6 - (k + 1))) gg (w1.mono (by omega))
    have rR : Rw g R := ⟨r1, dj_of r2, r3⟩
    have rA : Rw g (alone g) := ⟨alone_rows, alone_dj, by rw [alone_len]; exact gl⟩
    let DG : Option (MO St2) := some (.d (encG g))
    let DR : Option (MO St2) := some (.d (.list (R.map encR)))
    let DA : Option (MO St2) := some (.d (.list ((alone g).map encR)))
    have ea : gLc (gArgs (gCons (gCall (gCons (gOp ixD (gVar 3) (gC (.int 0))) gNil) lenD) gNil) rng1) [9] (asgN 9) gYes (gTup (gCons (gVar 9) gNil)) (hideDS ([SC, some (.st s2), T, DG, DR, m5, m6, m7, m8, none] : DS2)) = some ((alone g).map encR) := by
      unfold alone
      rw [List.map_map]
      refine LcAll_ev (es := List.range g.ps.length) (enc := fun (k : Nat) => PyData.int ((0 : Int) + (k : Int))) (k := fun n => encR [n]) (Args_ev (Cons_ev (Call_ev (Cons_ev (op_ev rfl rfl at0) rfl) rfl) rfl) (by rw [List.length_map]; exact rng1_ok (by omega))) fun n _ => ⟨_, rfl, ?_⟩
      rw [Int.zero_add]
      exact Tup_ev (Cons_ev rfl rfl) (by show 1 ≤ sizeLine; decide)
    obtain ⟨ds2, f2, m6', m7', m8', rfl⟩ := forList (σ := Unit) (t := asgN 6) (enc := fun R : List Row => PyData.list (R.map encR)) (step := fun _ _ => ()) (body := (gSeq (gPar2 7 8 (oCons (oX (xP (gL (gArgs (gCons (gVar 6) gNil) listD)))) (oCons (oX (xP (gCall (gCons (gL (gLst (gCons (gVar 3) (gCons (gVar 6) gNil)))) gNil) reprD))) oNil)))
  (gIfS (xtP (gOr (gB (gOp neD (gCall (gCons (gCallP 2 F_day_ground (gCons (gVar 3) (gCons (gVar 7) gNil))) gNil) reprD) (gCall (gCons (gCallP 2 F_law_due (gCons (gVar 3) (gCons (gVar 6) gNil))) gNil) reprD))) (gB (gOp neD (gCall (gCons (gL (gLst (gCons (gVar 3) (gCons (gVar 7) gNil)))) gNil) reprD) (gVar 8)))))
  (gRet (oX (xP (gC (.bool false)))))
  gNext))) (fun _ _ ds => ∃ m6 m7 m8, ds = [SC, some (.st s2), T, DG, DR, DA, m6, m7, m8, none]) [R, alone g, R.drop 1, []] () [SC, some (.st s2), T, DG, DR, DA, m6, m7, m8, none] (fun k2 p hp _ ds ⟨m6, m7, m8, eds⟩ => by
      subst eds
      have hm := List.mem_of_getElem? hp
      have good : Rw g p := by
        simp only [List.mem_cons, List.not_mem_nil, or_false] at hm
        rcases hm with rfl | rfl | rfl | rfl
        · exact rR
        · exact rA
        · refine ⟨fun r hr => r1 r (List.mem_of_mem_drop hr), fun i j a b n ha hb hna hnb => ?_, by rw [List.length_drop]; omega⟩
          rw [List.getElem?_drop] at ha hb
          have := rR.dj _ _ _ _ n ha hb hna hnb
          omega
        · exact ⟨(fun r hr => by cases hr), (fun i j a b n ha => by cases ha), by decide⟩
      have kp := repr_ok (kept_nc gg good)
      obtain ⟨d, x, d1, d2, d3⟩ := ask54 gg good
      exact ⟨_, _, rfl, seq_ev (par2_ev (oCons_ev (oX_ev (xP_ev (L_ev (Args_ev (Cons_ev rfl rfl) rfl)))) (oCons_ev (oX_ev (xP_ev (Call_ev (Cons_ev (L_ev (Lst_ev (Cons_ev rfl (Cons_ev rfl rfl)) (by show 2 ≤ sizeLine; decide))) rfl) kp))) rfl))) (ifF_ev (xtP_ev (Or_ev (a := false) (B_ev (op_ev (Call_ev (Cons_ev (CallP_ev (Cons_ev rfl (Cons_ev rfl rfl)) rfl d1 rfl) rfl) d3) (Call_ev (Cons_ev (CallP_ev (Cons_ev rfl (Cons_ev rfl rfl)) rfl d2 rfl) rfl) d3) (neS x))) (fun _ => B_ev (op_ev (Call_ev (Cons_ev (L_ev (Lst_ev (Cons_ev rfl (Cons_ev rfl rfl)) (by show 2 ≤ sizeLine; decide))) rfl) kp) rfl (neS _))) nofun)) rfl), _, .inl rfl, some (.d (.list (p.map encR))), some (.d (.list (p.map encR))), some (.d (.str _)), rfl⟩) ⟨m6, m7, m8, rfl⟩
    have src2 : xiP (gSrc (gTup (gCons (gVar 4) (gCons (gVar 5) (gCons (gSlA (gVar 4) (gPart (gC (.int 1))) gNoPart) (gCons (gL (gLst gNil)) gNil)))))) ([SC, some (.st s2), T, DG, DR, DA, m6, m7, m8, none] : DS2) = some ([R, alone g, R.drop 1, []].map (fun R : List Row => PyData.list (R.map encR)), [SC, some (.st s2), T, DG, DR, DA, m6, m7, m8, none]) := by
      have ed : (gSlA (gVar 4) (gPart (gC (.int 1))) gNoPart) (hideDS ([SC, some (.st s2), T, DG, DR, DA, m6, m7, m8, none] : DS2)) = some (.list ((R.drop 1).map encR)) := SlA_ev rfl rfl rfl (by show some (PyData.list (DL.cutD (R.map encR) (some 1) none)) = _; rw [cut_drop, List.map_drop])
      exact xiP_ev (Src_ev (Tup_ev (Cons_ev rfl (Cons_ev rfl (Cons_ev ed (Cons_ev (L_ev (Lst_ev rfl (by show 0 ≤ sizeLine; decide))) rfl)))) (by show 4 ≤ sizeLine; decide)) rfl)
    refine ⟨_, _, rfl, seq_ev (asg_ev (oX_ev (xOd_ev (callS1 rfl (xCons_ev (xP_ev rfl) rfl) rfl rfl e1)))) (seq_ev (asg_ev (oX_ev (xOl_ev (callS1 rfl (xCons_ev (xP_ev rfl) rfl) rfl rfl e2)))) (seq_ev (asg_ev (oX_ev (xP_ev (L_ev ea)))) (seq_ev (DL.for_ev src2 f2) (ifF_ev (xtP_ev (B_ev (op_ev (CallP_ev (Cons_ev rfl (Cons_ev rfl rfl)) rfl (alone_day gg) rfl) rfl (ne_self (nc_G gg).lay (Nat.le_trans (nc_G gg).dep (by decide)))))) rfl)))), _, .inl rfl, s2, T, DG, DR, DA, m6', m7', m8', w2, rfl⟩) ⟨s0, none, none, none, none, none, none, none, wb.mono (by decide), rfl⟩
  exact runC_rt (seq_ev (asg_ev (callC_ev rfl rfl rfl eb)) (seq_ev (DL.for_ev (xiP_ev (Args_ev rfl (rng1_ok (n := 6) (by decide)))) f1) (ret_ev (oX_ev (xP_ev rfl)))))
end LAW
namespace LAW
open PySem PySem.Spec PyProof.Rows L2 DL
theorem all_mk {l : PySem.W.OpenLaw} {w : World} {K : PySem.W.Frag} {h : Heap} {mg : Str → Option Value} {fa f1 f2 f3 f4 f5 f6 f7 f8 f9 f10 f11 f12 f13 f14 f15 f16 f17 : Addr} (X : K.In h) (G : h.Ns mainGlobals mg) (hfa : mg "law" = some (.ref fa))
    {od1 an1 od2 an2 od3 an3 od4 an4 od5 an5 od6 an6 od7 an7 od8 an8 od9 an9 od10 an10 od11 an11 od12 an12 od13 an13 od14 an14 od15 an15 od16 an16 od17 an17 : Option Addr} {sl1 sl2 sl3 sl4 sl5 sl6 sl7 sl8 sl9 sl10 sl11 sl12 sl13 sl14 sl15 sl16 sl17 : Array (Option Value)} {oc1 kV1 dc1 pm1 cd1 ct1 oc2 kV2 dc2 pm2 cd2 ct2 oc3 kV3 dc3 pm3 cd3 ct3 oc4 kV4 dc4 pm4 cd4 ct4 oc5 kV5 dc5 pm5 cd5 ct5 oc6 kV6 dc6 pm6 cd6 ct6 oc7 kV7 dc7 pm7 cd7 ct7 oc8 kV8 dc8 pm8 cd8 ct8 oc9 kV9 dc9 pm9 cd9 ct9 oc10 kV10 dc10 pm10 cd10 ct10 oc11 kV11 dc11 pm11 cd11 ct11 oc12 kV12 dc12 pm12 cd12 ct12 oc13 kV13 dc13 pm13 cd13 ct13 oc14 kV14 dc14 pm14 cd14 ct14 oc15 kV15 dc15 pm15 cd15 ct15 oc16 kV16 dc16 pm16 cd16 ct16 oc17 kV17 dc17 pm17 cd17 ct17 : Value} {t_MOST_MARKS t_MOST_SIZE : Tok}
    (a1 : PySem.W.nsIn K mainGlobals "both_let" = some (some (.ref f1)))
    (l1 : K.lookup f1 = some ⟨oc1, od1, .func (PySem.W.fnOf "both_let" "both_let" (defArgs st_both_let) (defBody st_both_let) (defScope st_both_let) .none kV1 dc1 pm1 an1 cd1 ct1), sl1⟩) (c1 : PySem.W.codeIn K cd1 "both_let" = true) (k1 : PySem.W.keepIn K (.ref f1) = true)
    (a2 : PySem.W.nsIn K mainGlobals "put_together" = some (some (.ref f2)))
    (l2 : K.lookup f2 = some ⟨oc2, od2, .func (PySem.W.fnOf "put_together" "put_together" (defArgs st_put_together) (defBody st_put_together) (defScope st_put_together) .none kV2 dc2 pm2 an2 cd2 ct2), sl2⟩) (c2 : PySem.W.codeIn K cd2 "put_together" = true) (k2 : PySem.W.keepIn K (.ref f2) = true)
    (a3 : PySem.W.nsIn K mainGlobals "are_near" = some (some (.ref f3)))
    (l3 : K.lookup f3 = some ⟨oc3, od3, .func (PySem.W.fnOf "are_near" "are_near" (defArgs st_are_near) (defBody st_are_near) (defScope st_are_near) .none kV3 dc3 pm3 an3 cd3 ct3), sl3⟩) (c3 : PySem.W.codeIn K cd3 "are_near" = true) (k3 : PySem.W.keepIn K (.ref f3) = true)
    (a4 : PySem.W.nsIn K mainGlobals "day_ground" = some (some (.ref f4)))
    (l4 : K.lookup f4 = some ⟨oc4, od4, .func (PySem.W.fnOf "day_ground" "day_ground" (defArgs st_day_ground) (defBody st_day_ground) (defScope st_day_ground) .none kV4 dc4 pm4 an4 cd4 ct4), sl4⟩) (c4 : PySem.W.codeIn K cd4 "day_ground" = true) (k4 : PySem.W.keepIn K (.ref f4) = true)
    (a5 : PySem.W.nsIn K mainGlobals "_law_mixed" = some (some (.ref f5)))
    (l5 : K.lookup f5 = some ⟨oc5, od5, .func (PySem.W.fnOf "_law_mixed" "_law_mixed" (defArgs st_law_mixed) (defBody st_law_mixed) (defScope st_law_mixed) .none kV5 dc5 pm5 an5 cd5 ct5), sl5⟩) (c5 : PySem.W.codeIn K cd5 "_law_mixed" = true) (k5 : PySem.W.keepIn K (.ref f5) = true)
    (a6 : PySem.W.nsIn K mainGlobals "_law_folded" = some (some (.ref f6)))
    (l6 : K.lookup f6 = some ⟨oc6, od6, .func (PySem.W.fnOf "_law_folded" "_law_folded" (defArgs st_law_folded) (defBody st_law_folded) (defScope st_law_folded) .none kV6 dc6 pm6 an6 cd6 ct6), sl6⟩) (c6 : PySem.W.codeIn K cd6 "_law_folded" = true) (k6 : PySem.W.keepIn K (.ref f6) = true)
    (a7 : PySem.W.nsIn K mainGlobals "_law_draw" = some (some (.ref f7)))
    (l7 : K.lookup f7 = some ⟨oc7, od7, .func (PySem.W.fnOf "_law_draw" "_law_draw" (defArgs st_law_draw) (defBody st_law_draw) (defScope st_law_draw) .none kV7 dc7 pm7 an7 cd7 ct7), sl7⟩) (c7 : PySem.W.codeIn K cd7 "_law_draw" = true) (k7 : PySem.W.keepIn K (.ref f7) = true)
    (a8 : PySem.W.nsIn K mainGlobals "_law_begun" = some (some (.ref f8)))
    (l8 : K.lookup f8 = some ⟨oc8, od8, .func (PySem.W.fnOf "_law_begun" "_law_begun" (defArgs st_law_begun) (defBody st_law_begun) (defScope st_law_begun) .none kV8 dc8 pm8 an8 cd8 ct8), sl8⟩) (c8 : PySem.W.codeIn K cd8 "_law_begun" = true) (k8 : PySem.W.keepIn K (.ref f8) = true)
    (a9 : PySem.W.nsIn K mainGlobals "_law_names" = some (some (.ref f9)))
    (l9 : K.lookup f9 = some ⟨oc9, od9, .func (PySem.W.fnOf "_law_names" "_law_names" (defArgs st_law_names) (defBody st_law_names) (defScope st_law_names) .none kV9 dc9 pm9 an9 cd9 ct9), sl9⟩) (c9 : PySem.W.codeIn K cd9 "_law_names" = true) (k9 : PySem.W.keepIn K (.ref f9) = true)
    (a10 : PySem.W.nsIn K mainGlobals "_law_some" = some (some (.ref f10)))
    (l10 : K.lookup f10 = some ⟨oc10, od10, .func (PySem.W.fnOf "_law_some" "_law_some" (defArgs st_law_some) (defBody st_law_some) (defScope st_law_some) .none kV10 dc10 pm10 an10 cd10 ct10), sl10⟩) (c10 : PySem.W.codeIn K cd10 "_law_some" = true) (k10 : PySem.W.keepIn K (.ref f10) = true)
    (a11 : PySem.W.nsIn K mainGlobals "_law_meet" = some (some (.ref f11)))
    (l11 : K.lookup f11 = some ⟨oc11, od11, .func (PySem.W.fnOf "_law_meet" "_law_meet" (defArgs st_law_meet) (defBody st_law_meet) (defScope st_law_meet) .none kV11 dc11 pm11 an11 cd11 ct11), sl11⟩) (c11 : PySem.W.codeIn K cd11 "_law_meet" = true) (k11 : PySem.W.keepIn K (.ref f11) = true)
    (a12 : PySem.W.nsIn K mainGlobals "_law_ground" = some (some (.ref f12)))
    (l12 : K.lookup f12 = some ⟨oc12, od12, .func (PySem.W.fnOf "_law_ground" "_law_ground" (defArgs st_law_ground) (defBody st_law_ground) (defScope st_law_ground) .none kV12 dc12 pm12 an12 cd12 ct12), sl12⟩) (c12 : PySem.W.codeIn K cd12 "_law_ground" = true) (k12 : PySem.W.keepIn K (.ref f12) = true)
    (a13 : PySem.W.nsIn K mainGlobals "_law_common" = some (some (.ref f13)))
    (l13 : K.lookup f13 = some ⟨oc13, od13, .func (PySem.W.fnOf "_law_common" "_law_common" (defArgs st_law_common) (defBody st_law_common) (defScope st_law_common) .none kV13 dc13 pm13 an13 cd13 ct13), sl13⟩) (c13 : PySem.W.codeIn K cd13 "_law_common" = true) (k13 : PySem.W.keepIn K (.ref f13) = true)
    (a14 : PySem.W.nsIn K mainGlobals "_law_parts" = some (some (.ref f14)))
    (l14 : K.lookup f14 = some ⟨oc14, od14, .func (PySem.W.fnOf "_law_parts" "_law_parts" (defArgs st_law_parts) (defBody st_law_parts) (defScope st_law_parts) .none kV14 dc14 pm14 an14 cd14 ct14), sl14⟩) (c14 : PySem.W.codeIn K cd14 "_law_parts" = true) (k14 : PySem.W.keepIn K (.ref f14) = true)
    (a15 : PySem.W.nsIn K mainGlobals "_law_pitch" = some (some (.ref f15)))
    (l15 : K.lookup f15 = some ⟨oc15, od15, .func (PySem.W.fnOf "_law_pitch" "_law_pitch" (defArgs st_law_pitch) (defBody st_law_pitch) (defScope st_law_pitch) .none kV15 dc15 pm15 an15 cd15 ct15), sl15⟩) (c15 : PySem.W.codeIn K cd15 "_law_pitch" = true) (k15 : PySem.W.keepIn K (.ref f15) = true)
    (a16 : PySem.W.nsIn K mainGlobals "_law_due" = some (some (.ref f16)))
    (l16 : K.lookup f16 = some ⟨oc16, od16, .func (PySem.W.fnOf "_law_due" "_law_due" (defArgs st_law_due) (defBody st_law_due) (defScope st_law_due) .none kV16 dc16 pm16 an16 cd16 ct16), sl16⟩) (c16 : PySem.W.codeIn K cd16 "_law_due" = true) (k16 : PySem.W.keepIn K (.ref f16) = true)
    (a17 : PySem.W.nsIn K mainGlobals "law" = some (some (.ref f17)))
    (l17 : K.lookup f17 = some ⟨oc17, od17, .func (PySem.W.fnOf "law" "law" (defArgs st_law) (defBody st_law) (defScope st_law) .none kV17 dc17 pm17 an17 cd17 ct17), sl17⟩) (c17 : PySem.W.codeIn K cd17 "law" = true) (k17 : PySem.W.keepIn K (.ref f17) = true)
    (z_len : PySem.W.nsIn K mainGlobals "len" = some none)
    (z_sorted : PySem.W.nsIn K mainGlobals "sorted" = some none)
    (z_tuple : PySem.W.nsIn K mainGlobals "tuple" = some none)
    (z_set : PySem.W.nsIn K mainGlobals "set" = some none)
    (z_min : PySem.W.nsIn K mainGlobals "min" = some none)
    (z_max : PySem.W.nsIn K mainGlobals "max" = some none)
    (z_any : PySem.W.nsIn K mainGlobals "any" = some none)
    (z_range : PySem.W.nsIn K mainGlobals "range" = some none)
    (z_enumerate : PySem.W.nsIn K mainGlobals "enumerate" = some none)
    (z_int : PySem.W.nsIn K mainGlobals "int" = some none)
    (z_list : PySem.W.nsIn K mainGlobals "list" = some none)
    (z_sum : PySem.W.nsIn K mainGlobals "sum" = some none)
    (z_repr : PySem.W.nsIn K mainGlobals "repr" = some none)
    (y_MOST_MARKS : PySem.W.nsIn K mainGlobals "MOST_MARKS" = some (some (.int 3 t_MOST_MARKS)))
    (y_MOST_SIZE : PySem.W.nsIn K mainGlobals "MOST_SIZE" = some (some (.int 4 t_MOST_SIZE)))
    : ∃ fd : FuncData, (∀ (s : Shared) (v : Value), BindsTo s fd ⟨[v], []⟩ [("_law_script", v)]) ∧ ∀ base : Heap, K.In base → base.Ns mainGlobals mg → FnG l.prog w K mg base CX0 5 fa fd ["_law_script"] (spC K R2i 1 F_law) := by
  have e := hfa.symm.trans (PySem.W.mg_of X G a17)
  cases e
  have Z1 := fun_mk (st := st_both_let) l1 c1 k1
  have b1 := Z1.binds (ps := ["one", "other"]) fun _ _ _ _ _ _ us hl => match us, hl with | [_, _], _ => rfl
  have h1 := PySem.W.mg_of X G a1
  have Z2 := fun_mk (st := st_put_together) l2 c2 k2
  have b2 := Z2.binds (ps := ["ground", "parts"]) fun _ _ _ _ _ _ us hl => match us, hl with | [_, _], _ => rfl
  have h2 := PySem.W.mg_of X G a2
  have Z3 := fun_mk (st := st_are_near) l3 c3 k3
  have b3 := Z3.binds (ps := ["ground", "one", "other"]) fun _ _ _ _ _ _ us hl => match us, hl with | [_, _, _], _ => rfl
  have h3 := PySem.W.mg_of X G a3
  have Z4 := fun_mk (st := st_day_ground) l4 c4 k4
  have b4 := Z4.binds (ps := ["ground", "parts"]) fun _ _ _ _ _ _ us hl => match us, hl with | [_, _], _ => rfl
  have h4 := PySem.W.mg_of X G a4
  have Z5 := fun_mk (st := st_law_mixed) l5 c5 k5
  have b5 := Z5.binds (ps := ["_law_cell", "_law_k"]) fun _ _ _ _ _ _ us hl => match us, hl with | [_, _], _ => rfl
  have h5 := PySem.W.mg_of X G a5
  have Z6 := fun_mk (st := st_law_folded) l6 c6 k6
  have b6 := Z6.binds (ps := ["_law_script"]) fun _ _ _ _ _ _ us hl => match us, hl with | [_], _ => rfl
  have h6 := PySem.W.mg_of X G a6
  have Z7 := fun_mk (st := st_law_draw) l7 c7 k7
  have b7 := Z7.binds (ps := ["_law_m", "_law_many"]) fun _ _ _ _ _ _ us hl => match us, hl with | [_, _], _ => rfl
  have h7 := PySem.W.mg_of X G a7
  have Z8 := fun_mk (st := st_law_begun) l8 c8 k8
  have b8 := Z8.binds (ps := ["_law_script"]) fun _ _ _ _ _ _ us hl => match us, hl with | [_], _ => rfl
  have h8 := PySem.W.mg_of X G a8
  have Z9 := fun_mk (st := st_law_names) l9 c9 k9
  have b9 := Z9.binds (ps := ["_law_m", "_law_many"]) fun _ _ _ _ _ _ us hl => match us, hl with | [_, _], _ => rfl
  have h9 := PySem.W.mg_of X G a9
  have Z10 := fun_mk (st := st_law_some) l10 c10 k10
  have b10 := Z10.binds (ps := ["_law_m", "_law_words", "_law_least", "_law_most"]) fun _ _ _ _ _ _ us hl => match us, hl with | [_, _, _, _], _ => rfl
  have h10 := PySem.W.mg_of X G a10
  have Z11 := fun_mk (st := st_law_meet) l11 c11 k11
  have b11 := Z11.binds (ps := ["_law_bar", "_law_one", "_law_other"]) fun _ _ _ _ _ _ us hl => match us, hl with | [_, _, _], _ => rfl
  have h11 := PySem.W.mg_of X G a11
  have Z12 := fun_mk (st := st_law_ground) l12 c12 k12
  have b12 := Z12.binds (ps := ["_law_m", "_law_most"]) fun _ _ _ _ _ _ us hl => match us, hl with | [_, _], _ => rfl
  have h12 := PySem.W.mg_of X G a12
  have Z13 := fun_mk (st := st_law_common) l13 c13 k13
  have b13 := Z13.binds (ps := ["_law_one", "_law_other"]) fun _ _ _ _ _ _ us hl => match us, hl with | [_, _], _ => rfl
  have h13 := PySem.W.mg_of X G a13
  have Z14 := fun_mk (st := st_law_parts) l14 c14 k14
  have b14 := Z14.binds (ps := ["_law_m", "_law_ground_here"]) fun _ _ _ _ _ _ us hl => match us, hl with | [_, _], _ => rfl
  have h14 := PySem.W.mg_of X G a14
  have Z15 := fun_mk (st := st_law_pitch) l15 c15 k15
  have b15 := Z15.binds (ps := ["_law_ground_here", "_law_parts_here"]) fun _ _ _ _ _ _ us hl => match us, hl with | [_, _], _ => rfl
  have h15 := PySem.W.mg_of X G a15
  have Z16 := fun_mk (st := st_law_due) l16 c16 k16
  have b16 := Z16.binds (ps := ["_law_ground_here", "_law_parts_here"]) fun _ _ _ _ _ _ us hl => match us, hl with | [_, _], _ => rfl
  have h16 := PySem.W.mg_of X G a16
  have Z17 := fun_mk (st := st_law) l17 c17 k17
  have b17 := Z17.binds (ps := ["_law_script"]) fun _ _ _ _ _ _ us hl => match us, hl with | [_], _ => rfl
  have h17 := PySem.W.mg_of X G a17
  have m_len := PySem.W.mg_none_of X G z_len
  have m_sorted := PySem.W.mg_none_of X G z_sorted
  have m_tuple := PySem.W.mg_none_of X G z_tuple
  have m_set := PySem.W.mg_none_of X G z_set
  have m_min := PySem.W.mg_none_of X G z_min
  have m_max := PySem.W.mg_none_of X G z_max
  have m_any := PySem.W.mg_none_of X G z_any
  have m_range := PySem.W.mg_none_of X G z_range
  have m_enumerate := PySem.W.mg_none_of X G z_enumerate
  have m_int := PySem.W.mg_none_of X G z_int
  have m_list := PySem.W.mg_none_of X G z_list
  have m_sum := PySem.W.mg_none_of X G z_sum
  have m_repr := PySem.W.mg_none_of X G z_repr
  have g_MOST_MARKS : ∃ t, mg "MOST_MARKS" = some (.int 3 t) := ⟨_, PySem.W.mg_of X G y_MOST_MARKS⟩
  have g_MOST_SIZE : ∃ t, mg "MOST_SIZE" = some (.int 4 t) := ⟨_, PySem.W.mg_of X G y_MOST_SIZE⟩
  refine ⟨PySem.W.fnOf "law" "law" (defArgs st_law) (defBody st_law) (defScope st_law) .none kV17 dc17 pm17 an17 cd17 ct17, fun s v => .of_eq rfl, fun base _ _ => ?_⟩
  have o_both_let := ok_both_let (P := l.prog) (w := w) (mg := mg) (base := base) Z1    
  have c_both_let : Cl l.prog w K mg base 1 "both_let" (spP K R2i 2 F_both_let) := ⟨f1, _, _, o_both_let, b1, k1, h1⟩
  have o_put_together := ok_put_together (P := l.prog) (w := w) (mg := mg) (base := base) Z2 c_both_let m_len m_min m_set m_sorted m_tuple g_MOST_MARKS g_MOST_SIZE 
  have c_put_together : Cl l.prog w K mg base 2 "put_together" (spP K R2i 2 F_put_together) := ⟨f2, _, _, o_put_together, b2, k2, h2⟩
  have o_are_near := ok_are_near (P := l.prog) (w := w) (mg := mg) (base := base) Z3  m_any m_max m_min  
  have c_are_near : Cl l.prog w K mg base 1 "are_near" (spP K R2i 3 F_are_near) := ⟨f3, _, _, o_are_near, b3, k3, h3⟩
  have o_day_ground := ok_day_ground (P := l.prog) (w := w) (mg := mg) (base := base) Z4 c_are_near c_put_together m_enumerate m_len m_range m_tuple  
  have c_day_ground : Cl l.prog w K mg base 3 "day_ground" (spP K R2i 2 F_day_ground) := ⟨f4, _, _, o_day_ground, b4, k4, h4⟩
  have o_law_mixed := ok_law_mixed (P := l.prog) (w := w) (mg := mg) (base := base) Z5    
  have c_law_mixed : Cl l.prog w K mg base 1 "_law_mixed" (spP K R2i 2 F_law_mixed) := ⟨f5, _, _, o_law_mixed, b5, k5, h5⟩
  have o_law_folded := ok_law_folded (P := l.prog) (w := w) (mg := mg) (base := base) Z6  m_enumerate m_range  
  have c_law_folded : Cl l.prog w K mg base 1 "_law_folded" (spC K R2i 1 F_law_folded) := ⟨f6, _, _, o_law_folded, b6, k6, h6⟩
  have o_law_draw := ok_law_draw (P := l.prog) (w := w) (mg := mg) (base := base) Z7 c_law_mixed m_len  
  have c_law_draw : Cl l.prog w K mg base 2 "_law_draw" (spS K R2i 2 F_law_draw) := ⟨f7, _, _, o_law_draw, b7, k7, h7⟩
  have o_law_begun := ok_law_begun (P := l.prog) (w := w) (mg := mg) (base := base) Z8 c_law_folded   
  have c_law_begun : Cl l.prog w K mg base 2 "_law_begun" (spC K R2i 1 F_law_begun) := ⟨f8, _, _, o_law_begun, b8, k8, h8⟩
  have o_law_names := ok_law_names (P := l.prog) (w := w) (mg := mg) (base := base) Z9 c_law_draw m_int m_range  
  have c_law_names : Cl l.prog w K mg base 3 "_law_names" (spS K R2i 2 F_law_names) := ⟨f9, _, _, o_law_names, b9, k9, h9⟩
  have o_law_some := ok_law_some (P := l.prog) (w := w) (mg := mg) (base := base) Z10 c_law_draw m_sorted m_tuple  
  have c_law_some : Cl l.prog w K mg base 3 "_law_some" (spS K R2i 4 F_law_some) := ⟨f10, _, _, o_law_some, b10, k10, h10⟩
  have o_law_meet := ok_law_meet (P := l.prog) (w := w) (mg := mg) (base := base) Z11    
  have c_law_meet : Cl l.prog w K mg base 1 "_law_meet" (spP K R2i 3 F_law_meet) := ⟨f11, _, _, o_law_meet, b11, k11, h11⟩
  have o_law_ground := ok_law_ground (P := l.prog) (w := w) (mg := mg) (base := base) Z12 c_law_draw c_law_names c_law_some c_law_meet m_any m_range m_sorted m_tuple  
  have c_law_ground : Cl l.prog w K mg base 4 "_law_ground" (spS K R2i 2 F_law_ground) := ⟨f12, _, _, o_law_ground, b12, k12, h12⟩
  have o_law_common := ok_law_common (P := l.prog) (w := w) (mg := mg) (base := base) Z13    
  have c_law_common : Cl l.prog w K mg base 1 "_law_common" (spP K R2i 2 F_law_common) := ⟨f13, _, _, o_law_common, b13, k13, h13⟩
  have o_law_parts := ok_law_parts (P := l.prog) (w := w) (mg := mg) (base := base) Z14 c_law_common c_law_draw m_len m_list m_range  
  have c_law_parts : Cl l.prog w K mg base 3 "_law_parts" (spS K R2i 2 F_law_parts) := ⟨f14, _, _, o_law_parts, b14, k14, h14⟩
  have o_law_pitch := ok_law_pitch (P := l.prog) (w := w) (mg := mg) (base := base) Z15  m_list m_min m_sorted m_sum m_tuple  
  have c_law_pitch : Cl l.prog w K mg base 1 "_law_pitch" (spP K R2i 2 F_law_pitch) := ⟨f15, _, _, o_law_pitch, b15, k15, h15⟩
  have o_law_due := ok_law_due (P := l.prog) (w := w) (mg := mg) (base := base) Z16 c_law_pitch m_enumerate m_max m_min m_sorted m_tuple  
  have c_law_due : Cl l.prog w K mg base 2 "_law_due" (spP K R2i 2 F_law_due) := ⟨f16, _, _, o_law_due, b16, k16, h16⟩
  exact ok_law Z17 c_law_begun c_law_ground c_law_parts c_day_ground c_law_due m_len m_list m_range m_repr  
end LAW
open PySem PySem.W PyProof.Rows
set_option maxRecDepth 100000 in
set_option maxHeartbeats 0 in
theorem PySem.Challenge.cw_pitchward_k54_grounds_of_days_holds : PySem.Challenge.rw_pitchward_k54_grounds_of_days.Holds := by
  w_on; o_law; k_head; (case hw => w_witness2)
  k_fill
  refine DL.walkG (l := PySem.Challenge.rw_pitchward_k54_grounds_of_days) (n := 63) (k := 5) (x := "_law_script") (sp := fun K => DL.spC K DL.R2i 1 LAW.F_law) rfl (by decide) rfl ⟨rfl, by decide, by decide⟩ (fun w h Y => PySem.W.kIn_of Y) ?F (fun K H a ns hl hS => DL.sp_of (R := DL.R2i) (F := LAW.F_law) (n := 63) LAW.plain H a ns hl hS)
  case F =>
    intro w mg fa h KX G hmg
    refine' LAW.all_mk KX G hmg ?a1 ?l1 ?c1 ?k1 ?a2 ?l2 ?c2 ?k2 ?a3 ?l3 ?c3 ?k3 ?a4 ?l4 ?c4 ?k4 ?a5 ?l5 ?c5 ?k5 ?a6 ?l6 ?c6 ?k6 ?a7 ?l7 ?c7 ?k7 ?a8 ?l8 ?c8 ?k8 ?a9 ?l9 ?c9 ?k9 ?a10 ?l10 ?c10 ?k10 ?a11 ?l11 ?c11 ?k11 ?a12 ?l12 ?c12 ?k12 ?a13 ?l13 ?c13 ?k13 ?a14 ?l14 ?c14 ?k14 ?a15 ?l15 ?c15 ?k15 ?a16 ?l16 ?c16 ?k16 ?a17 ?l17 ?c17 ?k17 ?z_len ?z_sorted ?z_tuple ?z_set ?z_min ?z_max ?z_any ?z_range ?z_enumerate ?z_int ?z_list ?z_sum ?z_repr ?y_MOST_MARKS ?y_MOST_SIZE
    (case a1 => k_is)
    (case l1 => k_is)
    (case c1 => k_is)
    (case k1 => k_is)
    (case a2 => k_is)
    (case l2 => k_is)
    (case c2 => k_is)
    (case k2 => k_is)
    (case a3 => k_is)
    (case l3 => k_is)
    (case c3 => k_is)
    (case k3 => k_is)
    (case a4 => k_is)
    (case l4 => k_is)
    (case c4 => k_is)
    (case k4 => k_is)
    (case a5 => k_is)
    (case l5 => k_is)
    (case c5 => k_is)
    (case k5 => k_is)
    (case a6 => k_is)
    (case l6 => k_is)
    (case c6 => k_is)
    (case k6 => k_is)
    (case a7 => k_is)
    (case l7 => k_is)
    (case c7 => k_is)
    (case k7 => k_is)
    (case a8 => k_is)
    (case l8 => k_is)
    (case c8 => k_is)
    (case k8 => k_is)
    (case a9 => k_is)
    (case l9 => k_is)
    (case c9 => k_is)
    (case k9 => k_is)
    (case a10 => k_is)
    (case l10 => k_is)
    (case c10 => k_is)
    (case k10 => k_is)
    (case a11 => k_is)
    (case l11 => k_is)
    (case c11 => k_is)
    (case k11 => k_is)
    (case a12 => k_is)
    (case l12 => k_is)
    (case c12 => k_is)
    (case k12 => k_is)
    (case a13 => k_is)
    (case l13 => k_is)
    (case c13 => k_is)
    (case k13 => k_is)
    (case a14 => k_is)
    (case l14 => k_is)
    (case c14 => k_is)
    (case k14 => k_is)
    (case a15 => k_is)
    (case l15 => k_is)
    (case c15 => k_is)
    (case k15 => k_is)
    (case a16 => k_is)
    (case l16 => k_is)
    (case c16 => k_is)
    (case k16 => k_is)
    (case a17 => k_is)
    (case l17 => k_is)
    (case c17 => k_is)
    (case k17 => k_is)
    (case z_len => k_is)
    (case z_sorted => k_is)
    (case z_tuple => k_is)
    (case z_set => k_is)
    (case z_min => k_is)
    (case z_max => k_is)
    (case z_any => k_is)
    (case z_range => k_is)
    (case z_enumerate => k_is)
    (case z_int => k_is)
    (case z_list => k_is)
    (case z_sum => k_is)
    (case z_repr => k_is)
    (case y_MOST_MARKS => k_is)
    (case y_MOST_SIZE => k_is)
