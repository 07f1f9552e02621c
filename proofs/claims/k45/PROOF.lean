import PyProof.Rows.All
import Wide.All
import OpenK.AllK
import Wide.FinOn
import HandS.ForMost
import HandS.TupAny
import HandS.Style
import HandS.Conv
import HandS.Deep
import HandS.TupLe
import PySem.Challenge.RW_wiredorders_k45_whole_smooth_orders_and
import HandS.TupSets
import HandS.IsInst
import HandS.SetFor
import KE.KRevSl
import KE.GoesEnum
import KE.KStateDown
import HandS.ExcCtx
import HandS.WordsExc
import KE.KSuper
import KE.KExcSuper
import HandS.ExcSuper
import HandS.Iter
import HandS.Hot
import HandS.HotCalls
import KE.KExcIs
import HandS.ExcIs
import PyProof.Rows.TupIter
import HandS.Lambda
import HandS.CallLocal
import HandS.Head0
import HandS.Head1
import HandS.Head2
import HandS.HeadEnd
import HandS.HeadHook1
import HandS.HeadHook2
import HandS.HeadHook3
import HandS.HeadHook4
import HandS.HeadWalk
set_option Elab.async false
set_option linter.all false
set_option maxRecDepth 100000
set_option maxHeartbeats 4000000
/-! The ground: worlds (B, the part that stays; H, the whole), data, what an expression gives as data. -/
namespace K45
open PySem PySem.Spec PyProof.Rows L2
abbrev D := PyData
abbrev St := L2.St
/-! ### heaps -/
theorem same_new {H : Hp} {p : Addr} {o : HO} (h : H p = none) : Same H (upd H p o) := fun a u e => by
  rw [upd_ne (ne_of_none e h)]; exact e
theorem same_sub {H H' : Hp} (e : Same H H') {p : Addr} (h : H' p = none) : H p = none := e.free h
structure Nx (m : Option Addr) (B H B2 H2 : Hp) : Prop where
  b : Same B B2
  h : ∀ a o, H a = some o → some a ≠ m → H2 a = some o
  i : Same B2 H2
  n : ∀ a, H a ≠ none → B2 a = B a
  k : ∀ a, H a ≠ none → H2 a ≠ none
variable {m : Option Addr} {B H B2 H2 B3 H3 : Hp}
theorem Nx.refl (e : Same B H) : Nx m B H B H := ⟨Same.refl B, fun _ _ h _ => h, e, fun _ _ => rfl, fun _ h => h⟩
theorem Nx.trans (x : Nx m B H B2 H2) (y : Nx m B2 H2 B3 H3) : Nx m B H B3 H3 :=
  ⟨x.b.trans y.b, fun a o e q => y.h a o (x.h a o e q) q, y.i, fun a e => (y.n a (x.k a e)).trans (x.n a e), fun a e => y.k a (x.k a e)⟩
theorem Nx.any (x : Nx none B H B2 H2) : Nx m B H B2 H2 := ⟨x.b, fun a o e _ => x.h a o e (fun z => nomatch z), x.i, x.n, x.k⟩
theorem Nx.same (x : Nx none B H B2 H2) : Same H H2 := fun a o e => x.h a o e (fun z => nomatch z)
theorem Nx.of (b : Same B B2) (h : Same H H2) (i : Same B2 H2) (n : ∀ a, H a ≠ none → B2 a = B a) : Nx none B H B2 H2 :=
  ⟨b, fun a o e _ => h a o e, i, n, fun a e => by
    cases q : H a with
    | none => exact absurd q e
    | some o => rw [h a o q]; exact fun z => nomatch z⟩
theorem Nx.new (e : Same B H) {p : Addr} {o : HO} (h : H p = none) : Nx none B H (upd B p o) (upd H p o) := by
  have hb := same_sub e h
  refine Nx.of (same_new hb) (same_new h) (fun a u q => ?_) (fun a q => upd_ne fun z => q (by rw [z]; exact h))
  by_cases ha : a = p
  · subst ha; rw [upd_same] at q ⊢; exact q
  · rw [upd_ne ha] at q ⊢; exact e a u q
/-- an object of ours that B does not tell comes into B -/
theorem Nx.freeze {H0 B0 : Hp} {l : Addr} {o : HO} (x : Nx m B0 H0 B H) (h0 : H0 l = none) (hb : B l = none) (hl : H l = some o) : Nx m B0 H0 (upd B l o) H :=
  ⟨x.b.trans (same_new hb), x.h, fun a u q => by
    by_cases ha : a = l
    · subst ha; rw [upd_same] at q; rw [hl]; exact q
    · rw [upd_ne ha] at q; exact x.i a u q, fun a q => by
    rw [upd_ne (fun z => q (by rw [z]; exact h0))]; exact x.n a q, x.k⟩
/-- an object that B does not tell is changed -/
theorem Nx.put {H0 B0 : Hp} {l : Addr} {o : HO} (x : Nx m B0 H0 B H) (h0 : H0 l = none ∨ some l = m) (hb : B l = none) : Nx m B0 H0 B (upd H l o) :=
  ⟨x.b, fun a u e q => by
    rw [upd_ne (fun z => by
      rcases h0 with h0 | h0
      · rw [z, h0] at e; cases e
      · exact q (by rw [z]; exact h0))]
    exact x.h a u e q, fun a u q => by
    rw [upd_ne (ne_of_none q hb)]; exact x.i a u q, x.n, fun a e => by
    by_cases ha : a = l
    · rw [ha, upd_same]; exact fun z => nomatch z
    · rw [upd_ne ha]; exact x.k a e⟩
/-! data as it stands: lists are tracked, tuples may be the module own -/
mutual
inductive Dq (K : PySem.W.Frag) (H : Hp) : V → PyData → Prop
  | non : Dq K H .non .none
  | bl (b : Bool) : Dq K H (.bl b) (.bool b)
  | int (i : Int) : Dq K H (.int i) (.int i)
  | str (x : Str) : Dq K H (.str x) (.str x)
  | lst {a : Addr} {xs : List V} {ds : List PyData} (h : H a = some (.lst xs)) (k : DqAll K H xs ds) : Dq K H (.ref a) (.list ds)
  | tup {a : Addr} {xs : List V} {ds : List PyData} (h : SqT K H a xs) (k : DqAll K H xs ds) : Dq K H (.ref a) (.tuple ds)
inductive DqAll (K : PySem.W.Frag) (H : Hp) : List V → List PyData → Prop
  | nil : DqAll K H [] []
  | cons {v : V} {vs : List V} {d : PyData} {ds : List PyData} (h : Dq K H v d) (k : DqAll K H vs ds) : DqAll K H (v :: vs) (d :: ds)
end
/-! ### data -/
section
variable {K : PySem.W.Frag} {v : V} {vs : List V} {d : D} {ds : List D}
theorem sqT_mono {a : Addr} {xs : List V} (e : Same H H2) (h : SqT K H a xs) : SqT K H2 a xs := by
  rcases h with (h | ⟨o, h⟩) | h
  · exact .inl (.inl (e _ _ h))
  · exact .inl (.inr ⟨o, e _ _ h⟩)
  · exact .inr h
mutual
theorem Dq.mono (e : Same H H2) : ∀ (d : D) (v : V), Dq K H v d → Dq K H2 v d
  | .none, _, h => by cases h; exact .non
  | .bool b, _, h => by cases h; exact .bl b
  | .int i, _, h => by cases h; exact .int i
  | .str x, _, h => by cases h; exact .str x
  | .list ds, _, h => by cases h with | lst hs ha => exact .lst (e _ _ hs) (DqAll.mono e ds _ ha)
  | .tuple ds, _, h => by cases h with | tup hs ha => exact .tup (sqT_mono e hs) (DqAll.mono e ds _ ha)
  | .dict _, _, h => by cases h
theorem DqAll.mono (e : Same H H2) : ∀ (ds : List D) (vs : List V), DqAll K H vs ds → DqAll K H2 vs ds
  | [], _, h => by cases h; exact .nil
  | d :: ds, _, h => by cases h with | cons h1 h2 => exact .cons (Dq.mono e d _ h1) (DqAll.mono e ds _ h2)
end
mutual
theorem Dq.dp : ∀ (d : D) (v : V), Dq K H v d → Dp K H v d
  | .none, _, h => by cases h; exact .non
  | .bool b, _, h => by cases h; exact .bl b
  | .int i, _, h => by cases h; exact .int i
  | .str x, _, h => by cases h; exact .str x
  | .list ds, _, h => by cases h with | lst hs ha => exact .lst (SqL.of hs) (DqAll.dp ds _ ha)
  | .tuple ds, _, h => by cases h with | tup hs ha => exact .tup hs (DqAll.dp ds _ ha)
  | .dict _, _, h => by cases h
theorem DqAll.dp : ∀ (ds : List D) (vs : List V), DqAll K H vs ds → DpAll K H vs ds
  | [], _, h => by cases h; exact .nil
  | d :: ds, _, h => by cases h with | cons h1 h2 => exact .cons (Dq.dp d _ h1) (DqAll.dp ds _ h2)
end
theorem Dq.up (e : Same H H2) (h : Dq K H v d) : Dq K H2 v d := Dq.mono e d v h
theorem DqAll.up (e : Same H H2) (h : DqAll K H vs ds) : DqAll K H2 vs ds := DqAll.mono e ds vs h
theorem DqAll.len : ∀ {vs : List V} {ds : List D}, DqAll K H vs ds → vs.length = ds.length
  | _, _, .nil => rfl
  | _, _, .cons _ h => congrArg (· + 1) h.len
theorem DqAll.at_ : ∀ {vs : List V} {ds : List D} {i : Nat} {d : D}, DqAll K H vs ds → ds[i]? = some d → ∃ v, vs[i]? = some v ∧ Dq K H v d
  | _, _, 0, _, .cons h _, e => by cases e; exact ⟨_, rfl, h⟩
  | _, _, i + 1, _, .cons _ h, e => by
    obtain ⟨v, h1, h2⟩ := h.at_ (i := i) (by simpa using e)
    exact ⟨v, by simpa using h1, h2⟩
theorem DqAll.atV : ∀ {vs : List V} {ds : List D} {i : Nat} {v : V}, DqAll K H vs ds → vs[i]? = some v → ∃ d, ds[i]? = some d ∧ Dq K H v d
  | _, _, 0, _, .cons h _, e => by cases e; exact ⟨_, rfl, h⟩
  | _, _, i + 1, _, .cons _ h, e => by
    obtain ⟨v, h1, h2⟩ := h.atV (i := i) (by simpa using e)
    exact ⟨v, by simpa using h1, h2⟩
theorem DqAll.app : ∀ {vs ws : List V} {ds es : List D}, DqAll K H vs ds → DqAll K H ws es → DqAll K H (vs ++ ws) (ds ++ es)
  | _, _, _, _, .nil, h => h
  | _, _, _, _, .cons a t, h => .cons a (t.app h)
theorem DqAll.take : ∀ {vs : List V} {ds : List D} (n : Nat), DqAll K H vs ds → DqAll K H (vs.take n) (ds.take n)
  | _, _, 0, _ => .nil
  | _, _, _ + 1, .nil => .nil
  | _, _, n + 1, .cons a t => .cons a (t.take n)
theorem DqAll.drop : ∀ {vs : List V} {ds : List D} (n : Nat), DqAll K H vs ds → DqAll K H (vs.drop n) (ds.drop n)
  | _, _, 0, h => h
  | _, _, _ + 1, .nil => .nil
  | _, _, n + 1, .cons _ t => t.drop n
theorem DqAll.rev : ∀ {vs : List V} {ds : List D}, DqAll K H vs ds → DqAll K H vs.reverse ds.reverse
  | _, _, .nil => .nil
  | _, _, .cons a t => by rw [List.reverse_cons, List.reverse_cons]; exact t.rev.app (.cons a .nil)
theorem DqAll.ints : ∀ (ns : List Int), DqAll K H (ns.map V.int) (ns.map PyData.int)
  | [] => .nil
  | n :: ns => .cons (.int n) (DqAll.ints ns)
theorem DqAll.ints_inv : ∀ {vs : List V} {ns : List Int}, DqAll K H vs (ns.map PyData.int) → vs = ns.map V.int
  | _, [], h => by cases h; rfl
  | _, n :: ns, h => by
    cases h with
    | cons a t => cases a; rw [List.map_cons, t.ints_inv]
theorem DqAll.bools_inv : ∀ {vs : List V} {bs : List Bool}, DqAll K H vs (bs.map PyData.bool) → vs = bs.map V.bl
  | _, [], h => by cases h; rfl
  | _, n :: ns, h => by
    cases h with
    | cons a t => cases a; rw [List.map_cons, t.bools_inv]
theorem Dq.tup_inv {ds : List D} (h : Dq K H v (.tuple ds)) : ∃ a xs, v = .ref a ∧ SqT K H a xs ∧ DqAll K H xs ds := by
  cases h with | tup h1 h2 => exact ⟨_, _, rfl, h1, h2⟩
theorem Dq.lst_inv {ds : List D} (h : Dq K H v (.list ds)) : ∃ a xs, v = .ref a ∧ H a = some (.lst xs) ∧ DqAll K H xs ds := by
  cases h with | lst h1 h2 => exact ⟨_, _, rfl, h1, h2⟩
theorem Dq.int_inv {i : Int} (h : Dq K H v (.int i)) : v = .int i := by cases h; rfl
theorem Dq.bl_inv {b : Bool} (h : Dq K H v (.bool b)) : v = .bl b := by cases h; rfl
theorem Dq.str_inv {x : Str} (h : Dq K H v (.str x)) : v = .str x := by cases h; rfl
theorem Dq.non_inv (h : Dq K H v .none) : v = .non := by cases h; rfl
end
/-! ### what is told of the slots -/
inductive Sv where
  | d (x : D)
  | v (x : V)
  | own (xs : List D)
  | x (φ : V → Hp → Prop) (up : ∀ v H H', Same H H' → φ v H → φ v H')
abbrev Sto := List (Option Sv)
def SvOk (K : PySem.W.Frag) (m : Option Addr) (H0 B H : Hp) (v : V) : Sv → Prop
  | .d x => Dq K B v x
  | .v x => v = x
  | .x φ _ => φ v B
  | .own xs => ∃ l vs, v = .ref l ∧ some l ≠ m ∧ H0 l = none ∧ B l = none ∧ H l = some (.lst vs) ∧ DqAll K B vs xs
def Sl (K : PySem.W.Frag) (m : Option Addr) (H0 B H : Hp) (st : Sto) (σ : St) : Prop :=
  σ.length = st.length ∧ ∀ (i : Nat) (s : Sv), st[i]? = some (some s) → ∃ v, σ[i]? = some (some v) ∧ SvOk K m H0 B H v s
section
variable {K : PySem.W.Frag} {H0 : Hp} {st : Sto} {σ : St} {v : V} {s : Sv}
theorem SvOk.nx (x : Nx m B H B2 H2) (h : SvOk K m H0 B H v s) : SvOk K m H0 B2 H2 v s := by
  cases s with
  | d y => exact Dq.up x.b h
  | v y => exact h
  | x φ up => exact up _ _ _ x.b h
  | own xs =>
    obtain ⟨l, vs, e, hm, h0, hb, hl, ha⟩ := h
    exact ⟨l, vs, e, hm, h0, (x.n l (by rw [hl]; exact fun z => nomatch z)).trans hb, x.h l _ hl hm, DqAll.up x.b ha⟩
theorem Sl.nx (x : Nx m B H B2 H2) (h : Sl K m H0 B H st σ) : Sl K m H0 B2 H2 st σ :=
  ⟨h.1, fun i s e => let ⟨v, a, b⟩ := h.2 i s e; ⟨v, a, b.nx x⟩⟩
theorem Sl.set (h : Sl K m H0 B H st σ) (i : Nat) (r : SvOk K m H0 B H v s) : Sl K m H0 B H (st.set i (some s)) (σ.set i (some v)) := by
  refine ⟨by rw [List.length_set, List.length_set]; exact h.1, fun j u e => ?_⟩
  by_cases hj : i = j
  · subst hj
    have hl : i < st.length := by
      have := (List.getElem?_eq_some_iff.mp e).1
      rwa [List.length_set] at this
    rw [List.getElem?_set_self hl] at e
    cases e
    exact ⟨v, List.getElem?_set_self (by rw [h.1]; exact hl), r⟩
  · rw [List.getElem?_set_ne hj] at e ⊢
    exact h.2 j u e
theorem Sl.weak {st' : Sto} (h : Sl K m H0 B H st σ) (hl : st'.length = st.length) (w : ∀ (i : Nat) (s : Sv), st'[i]? = some (some s) → st[i]? = some (some s)) : Sl K m H0 B H st' σ :=
  ⟨h.1.trans hl.symm, fun i s e => h.2 i s (w i s e)⟩
theorem Sl.wipe (h : Sl K m H0 B H st σ) (i : Nat) : Sl K m H0 B H (st.set i none) (σ.set i none) := by
  refine ⟨by rw [List.length_set, List.length_set]; exact h.1, fun j u e => ?_⟩
  by_cases hj : i = j
  · subst hj
    by_cases hl : i < st.length
    · rw [List.getElem?_set_self hl] at e; cases e
    · rw [List.getElem?_eq_none (by rw [List.length_set]; omega)] at e; cases e
  · rw [List.getElem?_set_ne hj] at e ⊢
    exact h.2 j u e
end
/-! ### the machine's judgements at one state -/
section
variable {X : Cx}
def WE (X : Cx) (e : Expr) (σ : St) (H : Hp) (Q : VK) : Prop := ∀ pins s, Inv X pins σ H s → wpAny (model X.prog X.w) X.A (eval e X.env) (EP X pins σ Q) X.xe s
def WT (X : Cx) (e : Expr) (σ : St) (H : Hp) (Q : Bool → Hp → Prop) : Prop := ∀ pins s, Inv X pins σ H s → wpAny (model X.prog X.w) X.A (isTrue e X.env (eval e X.env)) (TP X pins σ Q) X.xe s
def WW (X : Cx) (e : Expr) (σ : St) (H : Hp) (Q : Bool → Hp → Prop) : Prop := ∀ (whole : Sem Value) pins s, Inv X pins σ H s → wpAny (model X.prog X.w) X.A (isTrue e X.env whole) (TP X pins σ Q) X.xe s
def WA (X : Cx) (es : List Expr) (σ : St) (H : Hp) (Q : List V → Hp → Prop) : Prop := ∀ (pos : Pos) pins s, Inv X pins σ H s → wpAny (model X.prog X.w) X.A (spliced (backTo pos (starEach es X.env))) (AP X pins σ Q) X.xe s
def WS (X : Cx) (st : Stmt) (E : Ends) (σ : St) (H : Hp) : Prop := ∀ pins s, Inv X pins σ H s → wpAny (model X.prog X.w) X.A (exec st X.env) (SP X pins E) X.xe s
def WSs (X : Cx) (st : List Stmt) (E : Ends) (σ : St) (H : Hp) : Prop := ∀ pins s, Inv X pins σ H s → wpAny (model X.prog X.w) X.A (execs st X.env) (SP X pins E) X.xe s
theorem peW {e : Expr} : PE X e (fun σ H Q => WE X e σ H Q) := ⟨fun pins s _ _ _ I h => h pins s I⟩
theorem ptW {e : Expr} : PT X e (fun σ H Q => WT X e σ H Q) := ⟨fun pins s _ _ _ I h => h pins s I⟩
theorem pwW {e : Expr} : PW X e (fun σ H Q => WW X e σ H Q) := ⟨fun wh pins s _ _ _ I h => h wh pins s I⟩
theorem paW {es : List Expr} : PA X es (fun σ H Q => WA X es σ H Q) := ⟨fun pos pins s _ _ _ I h => h pos pins s I⟩
theorem psW {st : Stmt} : PS X st (fun E σ H => WS X st E σ H) := ⟨fun pins s _ _ _ I h => h pins s I⟩
theorem pssW {st : List Stmt} : PSs X st (fun E σ H => WSs X st E σ H) := ⟨fun pins s _ _ _ I h => h pins s I⟩
section
variable {e : Expr} {σ : St} {H : Hp} {Q : VK} {t : TE}
theorem WE.of (h : PE X e t) (q : t σ H Q) : WE X e σ H Q := fun pins s I => h.run pins s σ H Q I q
theorem WT.of {tt : TT} {Q : Bool → Hp → Prop} (h : PT X e tt) (q : tt σ H Q) : WT X e σ H Q := fun pins s I => h.run pins s σ H Q I q
theorem WW.of {tt : TT} {Q : Bool → Hp → Prop} (h : PW X e tt) (q : tt σ H Q) : WW X e σ H Q := fun wh pins s I => h.run wh pins s σ H Q I q
theorem WA.of {es : List Expr} {ta : TA} {Q : List V → Hp → Prop} (h : PA X es ta) (q : ta σ H Q) : WA X es σ H Q := fun pos pins s I => h.run pos pins s σ H Q I q
theorem WS.of {st : Stmt} {ts : TS} {E : Ends} (h : PS X st ts) (q : ts E σ H) : WS X st E σ H := fun pins s I => h.run pins s σ H E I q
theorem WSs.of {st : List Stmt} {ts : TS} {E : Ends} (h : PSs X st ts) (q : ts E σ H) : WSs X st E σ H := fun pins s I => h.run pins s σ H E I q
end
end
/-! ### data judgements: expressions -/
/-- the expression gives the data d and changes nothing that stood -/
def ED (X : Cx) (st : Sto) (e : Expr) (d : D) : Prop := ∀ (m : Option Addr) (H0 B H : Hp) (σ : St), Same B H → Sl X.K m H0 B H st σ →
  ∀ Q : VK, (∀ v B2 H2, Nx none B H B2 H2 → Dq X.K B2 v d → Q v H2) → WE X e σ H Q
def EDs (X : Cx) (st : Sto) (es : List Expr) (ds : List D) : Prop := ∀ (m : Option Addr) (H0 B H : Hp) (σ : St), Same B H → Sl X.K m H0 B H st σ →
  ∀ Q : List V → Hp → Prop, (∀ vs B2 H2, Nx none B H B2 H2 → DqAll X.K B2 vs ds → Q vs H2) → WA X es σ H Q
def ET (X : Cx) (st : Sto) (e : Expr) (b : Bool) : Prop := ∀ (m : Option Addr) (H0 B H : Hp) (σ : St), Same B H → Sl X.K m H0 B H st σ →
  ∀ Q : Bool → Hp → Prop, (∀ B2 H2, Nx none B H B2 H2 → Q b H2) → WT X e σ H Q
def EW (X : Cx) (st : Sto) (e : Expr) (b : Bool) : Prop := ∀ (m : Option Addr) (H0 B H : Hp) (σ : St), Same B H → Sl X.K m H0 B H st σ →
  ∀ Q : Bool → Hp → Prop, (∀ B2 H2, Nx none B H B2 H2 → Q b H2) → WW X e σ H Q
/-- what a rule by values does with data -/
def RD (K : PySem.W.Frag) (r : R2) (a b d : D) : Prop := ∀ (B H : Hp) (x y : V), Same B H → Dq K B x a → Dq K B y b →
  ∀ Q : VK, (∀ v B2 H2, Nx none B H B2 H2 → Dq K B2 v d → Q v H2) → r x y H Q
def RC (K : PySem.W.Frag) (r : List V → Hp → VK → Prop) (ds : List D) (d : D) : Prop := ∀ (B H : Hp) (xs : List V), Same B H → DqAll K B xs ds →
  ∀ Q : VK, (∀ v B2 H2, Nx none B H B2 H2 → Dq K B2 v d → Q v H2) → r xs H Q
def RM (K : PySem.W.Frag) (r : V → List V → Hp → VK → Prop) (a : D) (ds : List D) (d : D) : Prop := ∀ (B H : Hp) (x : V) (xs : List V), Same B H → Dq K B x a → DqAll K B xs ds →
  ∀ Q : VK, (∀ v B2 H2, Nx none B H B2 H2 → Dq K B2 v d → Q v H2) → r x xs H Q
section
variable {X : Cx} {st : Sto} {e e1 e2 e3 : Expr} {a b c d : D} {ds : List D} {pos : Pos} {K : PySem.W.Frag}
theorem ED.is {d' : D} (h : ED X st e d) (q : d = d') : ED X st e d' := q ▸ h
theorem ED.any (h : ED X st e d) {m : Option Addr} {H0 B H : Hp} {σ : St} (s : Same B H) (l : Sl X.K m H0 B H st σ) {Q : VK} (q : ∀ v B2 H2, Nx none B H B2 H2 → Dq X.K B2 v d → Q v H2) : WE X e σ H Q := h m H0 B H σ s l Q q
theorem ed_var (i : Nat) {x : Str} (hs : st[i]? = some (some (.d d)) := by rfl) (hN : X.N[i]? = some x := by rfl) (hv : Vis X.env.scope x := by first | exact Or.inl rfl | exact Or.inr (Or.inl rfl) | exact Or.inr (Or.inr rfl))
    (hd : (x == ("__debug__" : Str)) = false := by decide) (hcd : (x == ("__classdict__" : Str)) = false := by decide) : ED X st (.Name x pos) d := fun m H0 B H σ s l Q q => by
  obtain ⟨v, h1, h2⟩ := l.2 i _ hs
  exact WE.of (pe_var hN hv hd hcd) ⟨v, h1, q v B H (Nx.refl s) h2⟩
theorem ed_int {i : Int} {j} : ED X st (.Constant (.int i) j pos) (.int i) := fun _ _ B H _ s _ _ q => WE.of pe_int (q _ B H (Nx.refl s) (.int i))
theorem ed_bl {i : Bool} {j} : ED X st (.Constant (.bool i) j pos) (.bool i) := fun _ _ B H _ s _ _ q => WE.of pe_bl (q _ B H (Nx.refl s) (.bl i))
theorem ed_non {j} : ED X st (.Constant .none j pos) .none := fun _ _ B H _ s _ _ q => WE.of pe_non (q _ B H (Nx.refl s) .non)
theorem ed_str {x : Str} {j} : ED X st (.Constant (.str x) j pos) (.str x) := fun _ _ B H _ s _ _ q => WE.of pe_str (q _ B H (Nx.refl s) (.str x))
theorem ed_globI {x : Str} {i : Int} {t : Tok} (hm : X.mg x = some (.int i t)) (hg : Gl X x := by rfl) (hd : (x == ("__debug__" : Str)) = false := by decide) : ED X st (.Name x pos) (.int i) := fun _ _ B H _ s _ _ q =>
  WE.of (pe_glob hg hm (v := .int i) ⟨t, rfl⟩ hd) (q _ B H (Nx.refl s) (.int i))
/-- two operands, a rule by values -/
theorem two {r : R2} (ha : ED X st e1 a) (hb : ED X st e2 b) (hr : RD X.K r a b d) {m : Option Addr} {H0 B H : Hp} {σ : St} (s : Same B H) (l : Sl X.K m H0 B H st σ) {Q : VK}
    (q : ∀ v B2 H2, Nx none B H B2 H2 → Dq X.K B2 v d → Q v H2) : tOp r (fun σ H Q => WE X e1 σ H Q) (fun σ H Q => WE X e2 σ H Q) σ H Q :=
  ha.any s l fun x B1 H1 n1 d1 => hb.any n1.i (l.nx n1.any) fun y B2 H2 n2 d2 => hr B2 H2 x y n2.i (Dq.up n2.b d1) d2 Q fun v B3 H3 n3 d3 => q v B3 H3 ((n1.trans n2).trans n3) d3
theorem ed_bin {op : Operator} {r : R2} (ho : OpR X (binaryOp op) r) (ha : ED X st e1 a) (hb : ED X st e2 b) (hr : RD X.K r a b d) : ED X st (.BinOp e1 op e2 pos) d := fun m H0 B H σ s l Q q =>
  WE.of (pe_op ho peW peW) (two ha hb hr s l q)
theorem ed_cmp {op : CmpOp} {r : R2} (ho : OpR X (compareOp op) r) (hm : behindInMarks op e2 = false) (ha : ED X st e1 a) (hb : ED X st e2 b) (hr : RD X.K r a b d) : ED X st (.Compare e1 [op] [e2] pos) d := fun m H0 B H σ s l Q q =>
  WE.of (pe_cmpR ho peW peW hm) (two ha hb hr s l q)
theorem ed_ix {r : R2} (ho : IxR X r) (ha : ED X st e1 a) (hb : ED X st e2 b) (hr : RD X.K r a b d) (hs : PlainIx e2) : ED X st (.Subscript e1 e2 pos) d := fun m H0 B H σ s l Q q =>
  WE.of (pe_ix ho peW peW hs) (two ha hb hr s l q)
theorem eds_nil : EDs X st [] [] := fun _ _ B H _ s _ _ q => WA.of pa_nil (q [] B H (Nx.refl s) .nil)
end
end K45
set_option maxHeartbeats 4000000
/-! Rules by values, with data. -/
namespace K45
open PySem PySem.Spec PyProof.Rows L2
section
variable {X : Cx} {st : Sto} {e e1 e2 e3 : Expr} {es : List Expr} {a b c d : D} {ds es' : List D} {pos : Pos} {K : PySem.W.Frag} {m : Option Addr} {B H H0 : Hp} {σ : St}
/-! ### ints -/
theorem rd_I0 {g : Int → Int → V} {i j : Int} (h : ∀ B, Dq K B (g i j) d) : RD K (rI0 g) (.int i) (.int j) d := fun B H x y s hx hy Q q => by
  cases hx; cases hy
  exact ⟨i, j, rfl, rfl, q _ B H (Nx.refl s) (h B)⟩
theorem rd_I {C : Int → Int → Prop} {g : Int → Int → V} {i j : Int} (hc : C i j) (h : ∀ B, Dq K B (g i j) d) : RD K (rI C g) (.int i) (.int j) d := fun B H x y s hx hy Q q => by
  cases hx; cases hy
  exact ⟨i, j, rfl, rfl, hc, q _ B H (Nx.refl s) (h B)⟩
theorem ed_addI {i j : Int} (h1 : ED X st e1 (.int i)) (h2 : ED X st e2 (.int j)) : ED X st (.BinOp e1 .Add e2 pos) (.int (i + j)) := ed_bin op_add h1 h2 (rd_I0 fun _ => .int _)
theorem ed_subI {i j : Int} (h1 : ED X st e1 (.int i)) (h2 : ED X st e2 (.int j)) : ED X st (.BinOp e1 .Sub e2 pos) (.int (i - j)) := ed_bin op_sub h1 h2 (rd_I0 fun _ => .int _)
theorem ed_modI {i j : Int} (hj : 0 < j) (h1 : ED X st e1 (.int i)) (h2 : ED X st e2 (.int j)) : ED X st (.BinOp e1 .Mod e2 pos) (.int (i % j)) := ed_bin op_mod h1 h2 (rd_I hj fun _ => .int _)
theorem ed_ltI {i j : Int} (h1 : ED X st e1 (.int i)) (h2 : ED X st e2 (.int j)) : ED X st (.Compare e1 [.Lt] [e2] pos) (.bool (decide (i < j))) := ed_cmp op_lt (nomark _) h1 h2 (rd_I0 fun _ => .bl _)
theorem ed_gtI {i j : Int} (h1 : ED X st e1 (.int i)) (h2 : ED X st e2 (.int j)) : ED X st (.Compare e1 [.Gt] [e2] pos) (.bool (decide (j < i))) := ed_cmp op_gt (nomark _) h1 h2 (rd_I0 fun _ => .bl _)
theorem ed_leI {i j : Int} (h1 : ED X st e1 (.int i)) (h2 : ED X st e2 (.int j)) : ED X st (.Compare e1 [.LtE] [e2] pos) (.bool (decide (i ≤ j))) := ed_cmp op_le (nomark _) h1 h2 (rd_I0 fun _ => .bl _)
/-! ### == and != of scalars, of data -/
theorem rd_eqS {x y : V} (hx : ∀ B v, Dq K B v a → v = x) (hy : ∀ B v, Dq K B v b → v = y) (hs : scal x y = true) : RD K rEq a b (.bool (decide (x = y))) := fun B H u w s hu hw Q q => by
  rw [hx B u hu, hy B w hw]
  exact ⟨hs, q _ B H (Nx.refl s) (.bl _)⟩
theorem rd_neS {x y : V} (hx : ∀ B v, Dq K B v a → v = x) (hy : ∀ B v, Dq K B v b → v = y) (hs : scal x y = true) : RD K rNe a b (.bool (!decide (x = y))) := fun B H u w s hu hw Q q => by
  rw [hx B u hu, hy B w hw]
  exact ⟨hs, q _ B H (Nx.refl s) (.bl _)⟩
theorem v_int (i j : Int) : decide (V.int i = V.int j) = decide (i = j) := by
  by_cases h : i = j
  · rw [h, decide_eq_true rfl, decide_eq_true rfl]
  · rw [decide_eq_false h, decide_eq_false fun z => h (V.int.inj z)]
theorem v_bl (i j : Bool) : decide (V.bl i = V.bl j) = (i == j) := by cases i <;> cases j <;> rfl
theorem ed_eqI {i j : Int} (h1 : ED X st e1 (.int i)) (h2 : ED X st e2 (.int j)) : ED X st (.Compare e1 [.Eq] [e2] pos) (.bool (decide (i = j))) :=
  (ed_cmp op_eq (nomark _) h1 h2 (rd_eqS (fun _ _ h => h.int_inv) (fun _ _ h => h.int_inv) rfl)).is (by rw [v_int])
theorem ed_neI {i j : Int} (h1 : ED X st e1 (.int i)) (h2 : ED X st e2 (.int j)) : ED X st (.Compare e1 [.NotEq] [e2] pos) (.bool (!decide (i = j))) :=
  (ed_cmp op_ne (nomark _) h1 h2 (rd_neS (fun _ _ h => h.int_inv) (fun _ _ h => h.int_inv) rfl)).is (by rw [v_int])
theorem ed_eqB {i j : Bool} (h1 : ED X st e1 (.bool i)) (h2 : ED X st e2 (.bool j)) : ED X st (.Compare e1 [.Eq] [e2] pos) (.bool (i == j)) :=
  (ed_cmp op_eq (nomark _) h1 h2 (rd_eqS (fun _ _ h => h.bl_inv) (fun _ _ h => h.bl_inv) rfl)).is (by rw [v_bl])
theorem ed_neB {i j : Bool} (h1 : ED X st e1 (.bool i)) (h2 : ED X st e2 (.bool j)) : ED X st (.Compare e1 [.NotEq] [e2] pos) (.bool (!(i == j))) :=
  (ed_cmp op_ne (nomark _) h1 h2 (rd_neS (fun _ _ h => h.bl_inv) (fun _ _ h => h.bl_inv) rfl)).is (by rw [v_bl])
theorem ed_eqD (hu : X.A.units + 64 < cLine) (s1 : SeqAt.shaped a = true) (s2 : SeqAt.shaped b = true) (h1 : ED X st e1 a) (h2 : ED X st e2 b) : ED X st (.Compare e1 [.Eq] [e2] pos) (.bool (PyData.eqv a b)) :=
  ed_cmp (op_eqD hu) (nomark _) h1 h2 fun B H x y s hx hy Q q => ⟨a, b, Dq.dp _ _ (Dq.up s hx), Dq.dp _ _ (Dq.up s hy), s1, s2, q _ B H (Nx.refl s) (.bl _)⟩
theorem ed_neD (hu : X.A.units + 64 < cLine) (s1 : SeqAt.shaped a = true) (s2 : SeqAt.shaped b = true) (h1 : ED X st e1 a) (h2 : ED X st e2 b) : ED X st (.Compare e1 [.NotEq] [e2] pos) (.bool (!PyData.eqv a b)) :=
  ed_cmp (op_neD hu) (nomark _) h1 h2 fun B H x y s hx hy Q q => ⟨a, b, Dq.dp _ _ (Dq.up s hx), Dq.dp _ _ (Dq.up s hy), s1, s2, q _ B H (Nx.refl s) (.bl _)⟩
theorem ed_isB {i j : Bool} (h1 : ED X st e1 (.bool i)) (h2 : ED X st e2 (.bool j)) : ED X st (.Compare e1 [.IsNot] [e2] pos) (.bool (!decide (i = j))) :=
  ed_cmp op_isnot_bl (nomark _) h1 h2 fun B H x y s hx hy Q q => ⟨i, j, hx.bl_inv, hy.bl_inv, q _ B H (Nx.refl s) (.bl _)⟩
/-! ### chains -/
theorem ed_chain {op op' : CmpOp} {r r' : R2} {k k' : Bool} (ho : OpR X (compareOp op) r) (ho' : OpR X (compareOp op') r') (h1 : ED X st e1 a) (h2 : ED X st e2 b) (h3 : ED X st e3 c)
    (hr : RD X.K r a b (.bool k)) (hr' : k = true → RD X.K r' b c (.bool k')) (hm : lastMarks [op, op'] [e2, e3] = false := by with_unfolding_all rfl) : ED X st (.Compare e1 [op, op'] [e2, e3] pos) (.bool (k && k')) := fun m H0 B H σ s l Q q =>
  WE.of (pe_chain ho ho' peW peW peW hm) (h1.any s l fun x B1 H1 n1 d1 => h2.any n1.i (l.nx n1.any) fun y B2 H2 n2 d2 => hr B2 H2 x y n2.i (Dq.up n2.b d1) d2 _ fun v B3 H3 n3 d3 => ⟨k, d3.bl_inv, by
    cases k with
    | false => exact q _ B3 H3 ((n1.trans n2).trans n3) (.bl _)
    | true =>
      exact h3.any n3.i (l.nx ((n1.trans n2).trans n3).any) fun w B4 H4 n4 d4 => hr' rfl B4 H4 y w n4.i (Dq.up (n3.b.trans n4.b) d2) d4 Q fun v5 B5 H5 n5 d5 => q v5 B5 H5 ((((n1.trans n2).trans n3).trans n4).trans n5) d5⟩)
theorem et_chain {op op' : CmpOp} {r r' : R2} {k k' : Bool} (ho : OpR X (compareOp op) r) (ho' : OpR X (compareOp op') r') (h1 : ED X st e1 a) (h2 : ED X st e2 b) (h3 : ED X st e3 c)
    (hr : RD X.K r a b (.bool k)) (hr' : k = true → RD X.K r' b c (.bool k')) (hm : lastMarks [op, op'] [e2, e3] = false := by with_unfolding_all rfl) : ET X st (.Compare e1 [op, op'] [e2, e3] pos) (k && k') := fun m H0 B H σ s l Q q =>
  WT.of (pt_chain ho ho' peW peW peW hm) (h1.any s l fun x B1 H1 n1 d1 => h2.any n1.i (l.nx n1.any) fun y B2 H2 n2 d2 => hr B2 H2 x y n2.i (Dq.up n2.b d1) d2 _ fun v B3 H3 n3 d3 => ⟨k, d3.bl_inv, by
    cases k with
    | false => exact ⟨false, rfl, q B3 H3 ((n1.trans n2).trans n3)⟩
    | true =>
      exact h3.any n3.i (l.nx ((n1.trans n2).trans n3).any) fun w B4 H4 n4 d4 => hr' rfl B4 H4 y w n4.i (Dq.up (n3.b.trans n4.b) d2) d4 _ fun v5 B5 H5 n5 d5 => ⟨k', d5.bl_inv, q B5 H5 ((((n1.trans n2).trans n3).trans n4).trans n5)⟩⟩)
/-! ### and, or, not, if else -/
theorem ed_or {k k' : Bool} {rest : List Expr} (h1 : ED X st e1 (.bool k)) (h2 : k = false → ED X st (.BoolOp .Or (e2 :: rest) pos) (.bool k')) : ED X st (.BoolOp .Or (e1 :: e2 :: rest) pos) (.bool (k || k')) := fun m H0 B H σ s l Q q =>
  WE.of (pe_or peW peW) (h1.any s l fun x B1 H1 n1 d1 => ⟨k, d1.bl_inv, by
    cases k with
    | true => exact q _ B1 H1 n1 (.bl _)
    | false => exact (h2 rfl).any n1.i (l.nx n1.any) fun y B2 H2 n2 d2 => q y B2 H2 (n1.trans n2) d2⟩)
theorem ed_and {k k' : Bool} {rest : List Expr} (h1 : ED X st e1 (.bool k)) (h2 : k = true → ED X st (.BoolOp .And (e2 :: rest) pos) (.bool k')) : ED X st (.BoolOp .And (e1 :: e2 :: rest) pos) (.bool (k && k')) := fun m H0 B H σ s l Q q =>
  WE.of (pe_and peW peW) (h1.any s l fun x B1 H1 n1 d1 => ⟨k, d1.bl_inv, by
    cases k with
    | false => exact q _ B1 H1 n1 (.bl _)
    | true => exact (h2 rfl).any n1.i (l.nx n1.any) fun y B2 H2 n2 d2 => q y B2 H2 (n1.trans n2) d2⟩)
theorem ed_one {op} (h : ED X st e d) : ED X st (.BoolOp op [e] pos) d := fun m H0 B H σ s l Q q => WE.of (pe_one peW) (h.any s l q)
theorem ed_not {k : Bool} (h : ED X st e (.bool k)) : ED X st (.UnaryOp .Not e pos) (.bool (!k)) := fun m H0 B H σ s l Q q =>
  WE.of (pe_not peW) (h.any s l fun x B1 H1 n1 d1 => ⟨k, d1.bl_inv, q _ B1 H1 n1 (.bl _)⟩)
theorem ed_if {k : Bool} (h : ET X st e1 k) (h2 : k = true → ED X st e2 d) (h3 : k = false → ED X st e3 d) : ED X st (.IfExp e1 e2 e3 pos) d := fun m H0 B H σ s l Q q =>
  WE.of (pe_ifExp ptW peW peW) (h m H0 B H σ s l _ fun B1 H1 n1 => by
    cases k with
    | true => exact (h2 rfl).any n1.i (l.nx n1.any) fun y B2 H2 n2 d2 => q y B2 H2 (n1.trans n2) d2
    | false => exact (h3 rfl).any n1.i (l.nx n1.any) fun y B2 H2 n2 d2 => q y B2 H2 (n1.trans n2) d2)
/-! ### tests -/
theorem ET.is {k k' : Bool} (h : ET X st e k) (q : k = k') : ET X st e k' := q ▸ h
theorem et_of {k : Bool} (h : ED X st e (.bool k)) (he : ∀ whole, isTrue e X.env whole = (do let v ← whole; standAt e.pos; holding [v] (truthy v)) := by intro _; rfl) : ET X st e k := fun m H0 B H σ s l Q q =>
  WT.of (pt_val peW he) (h.any s l fun x B1 H1 n1 d1 => ⟨k, d1.bl_inv, q B1 H1 n1⟩)
theorem et_cmp {op : CmpOp} {r : R2} {k : Bool} (ho : OpR X (compareOp op) r) (hm : behindInMarks op e2 = false) (h1 : ED X st e1 a) (h2 : ED X st e2 b) (hr : RD X.K r a b (.bool k)) : ET X st (.Compare e1 [op] [e2] pos) k := fun m H0 B H σ s l Q q =>
  WT.of (pt_cmpR ho peW peW hm) (two h1 h2 hr s l fun v B1 H1 n1 d1 => ⟨k, d1.bl_inv, q B1 H1 n1⟩)
theorem et_not {k : Bool} (h : ET X st e k) : ET X st (.UnaryOp .Not e pos) (!k) := fun m H0 B H σ s l Q q =>
  WT.of (pt_not ptW) (h m H0 B H σ s l _ fun B1 H1 n1 => q B1 H1 n1)
theorem et_w {k : Bool} (h : EW X st e k) : ET X st e k := fun m H0 B H σ s l Q q => WT.of (PW.pt pwW) (h m H0 B H σ s l Q q)
theorem ew_or {k k' : Bool} {rest : List Expr} (h1 : ET X st e1 k) (h2 : k = false → EW X st (.BoolOp .Or (e2 :: rest) pos) k') : EW X st (.BoolOp .Or (e1 :: e2 :: rest) pos) (k || k') := fun m H0 B H σ s l Q q =>
  WW.of (pw_or ptW pwW) (h1 m H0 B H σ s l _ fun B1 H1 n1 => by
    cases k with
    | true => exact q B1 H1 n1
    | false => exact h2 rfl m H0 B1 H1 σ n1.i (l.nx n1.any) Q fun B2 H2 n2 => q B2 H2 (n1.trans n2))
theorem ew_and {k k' : Bool} {rest : List Expr} (h1 : ET X st e1 k) (h2 : k = true → EW X st (.BoolOp .And (e2 :: rest) pos) k') : EW X st (.BoolOp .And (e1 :: e2 :: rest) pos) (k && k') := fun m H0 B H σ s l Q q =>
  WW.of (pw_and ptW pwW) (h1 m H0 B H σ s l _ fun B1 H1 n1 => by
    cases k with
    | false => exact q B1 H1 n1
    | true => exact h2 rfl m H0 B1 H1 σ n1.i (l.nx n1.any) Q fun B2 H2 n2 => q B2 H2 (n1.trans n2))
theorem ew_or1 {k : Bool} (h : ET X st e k) : EW X st (.BoolOp .Or [e] pos) k := fun m H0 B H σ s l Q q => WW.of (pw_or1 ptW) (h m H0 B H σ s l Q q)
theorem ew_and1 {k : Bool} (h : ET X st e k) : EW X st (.BoolOp .And [e] pos) k := fun m H0 B H σ s l Q q => WW.of (pw_and1 ptW) (h m H0 B H σ s l Q q)
/-! ### arguments, displays, calls -/
theorem eds_cons (h : ED X st e d) (hs : EDs X st es ds) (he : starEach (e :: es) X.env = (false, eval e X.env) :: starEach es X.env := by rfl) : EDs X st (e :: es) (d :: ds) := fun m H0 B H σ s l Q q =>
  WA.of (pa_cons peW paW he) (h.any s l fun x B1 H1 n1 d1 => hs m H0 B1 H1 σ n1.i (l.nx n1.any) _ fun xs B2 H2 n2 d2 => q _ B2 H2 (n1.trans n2) (.cons (Dq.up n2.b d1) d2))
theorem eds_1 (h : ED X st e d) (he : starEach [e] X.env = (false, eval e X.env) :: starEach [] X.env := by rfl) : EDs X st [e] [d] := eds_cons h eds_nil he
theorem small {n : Nat} (h : n ≤ 100000) : n ≤ sizeLine := Nat.le_trans h (by decide)
theorem ed_tup {k} (hs : EDs X st es ds) (hl : ds.length ≤ 100000 := by decide) : ED X st (.Tuple es k pos) (.tuple ds) := fun m H0 B H σ s l Q q =>
  WE.of (pe_tup paW) (hs m H0 B H σ s l _ fun xs B1 H1 n1 d1 => ⟨by rw [d1.len]; exact small hl, fun p hp => q _ (upd B1 p (.tup xs)) _ (n1.trans (Nx.new n1.i hp)) (.tup (SqT.of upd_same) (DqAll.up (same_new (same_sub n1.i hp)) d1))⟩)
theorem ed_lst (hs : EDs X st es ds) (hl : ds.length ≤ 100000 := by decide) : ED X st (.List es pos) (.list ds) := fun m H0 B H σ s l Q q =>
  WE.of (pe_lst paW) (hs m H0 B H σ s l _ fun xs B1 H1 n1 d1 => ⟨by rw [d1.len]; exact small hl, fun p hp => q _ (upd B1 p (.lst xs)) _ (n1.trans (Nx.new n1.i hp)) (.lst upd_same (DqAll.up (same_new (same_sub n1.i hp)) d1))⟩)
theorem ed_callB {r : List V → Hp → VK → Prop} {id : String} {x : Str} {p : Pos} (hc : CallR X (.builtin id) r) (hm : X.mg x = none) (hv : bootBuiltins x = some (.builtin id)) (ha : EDs X st (e :: es) ds) (hr : RC X.K r ds d) (hg : Gl X x := by rfl)
    (hn : x ≠ "__name__" := by decide) (hdb : (x == ("__debug__" : Str)) = false := by decide) (he : starEach (e :: es) X.env = (false, eval e X.env) :: starEach es X.env := by rfl) (hpl : (backTo pos (starEach es X.env)).any (·.1) = false := by rfl) : ED X st (.Call (.Name x p) (e :: es) [] pos) d := fun m H0 B H σ s l Q q =>
  WE.of (pe_callB hc hg hm hv paW hn hdb he hpl) (ha m H0 B H σ s l _ fun xs B1 H1 n1 d1 => hr B1 H1 xs n1.i d1 Q fun v B2 H2 n2 d2 => q v B2 H2 (n1.trans n2) d2)
theorem ed_callTy {r : List V → Hp → VK → Prop} {T : String} {x : Str} {p : Pos} (hc : CallR X (.type T) r) (hm : X.mg x = none) (hv : bootBuiltins x = some (.type T)) (ha : EDs X st (e :: es) ds) (hr : RC X.K r ds d) (hg : Gl X x := by rfl)
    (hn : x ≠ "__name__" := by decide) (hdb : (x == ("__debug__" : Str)) = false := by decide) (he : starEach (e :: es) X.env = (false, eval e X.env) :: starEach es X.env := by rfl) (hpl : (backTo pos (starEach es X.env)).any (·.1) = false := by rfl) : ED X st (.Call (.Name x p) (e :: es) [] pos) d := fun m H0 B H σ s l Q q =>
  WE.of (pe_callTy hc hg hm hv paW hn hdb he hpl) (ha m H0 B H σ s l _ fun xs B1 H1 n1 d1 => hr B1 H1 xs n1.i d1 Q fun v B2 H2 n2 d2 => q v B2 H2 (n1.trans n2) d2)
/-! ### tuples and lists: +, slices, items, len -/
theorem rd_catT {xs ys : List D} (hl : xs.length + ys.length ≤ 100000) : RD K (rCatA K) (.tuple xs) (.tuple ys) (.tuple (xs ++ ys)) := fun B H x y s hx hy Q q => by
  obtain ⟨p, us, rfl, h1, a1⟩ := hx.tup_inv
  obtain ⟨r, ws, rfl, h2, a2⟩ := hy.tup_inv
  have l1 := a1.len
  have l2 := a2.len
  refine ⟨p, r, us, ws, rfl, rfl, sqT_mono s h1, sqT_mono s h2, by rw [l1, l2]; exact small hl, fun e => ?_, fun e e' => ?_, fun _ _ t ht => ?_⟩
  · subst e
    cases a1
    exact q _ B H (Nx.refl s) hy
  · subst e'
    cases a2
    exact q _ B H (Nx.refl s) (by rw [List.append_nil]; exact hx)
  · exact q _ (upd B t (.tup (us ++ ws))) _ (Nx.new s ht) (.tup (SqT.of upd_same) (DqAll.up (same_new (same_sub s ht)) (a1.app a2)))
theorem ed_addT {xs ys : List D} (hl : xs.length + ys.length ≤ 100000) (h1 : ED X st e1 (.tuple xs)) (h2 : ED X st e2 (.tuple ys)) : ED X st (.BinOp e1 .Add e2 pos) (.tuple (xs ++ ys)) := ed_bin op_catA h1 h2 (rd_catT hl)
/-- the cut of a list of data -/
def cutD (xs : List D) (lo hi : Option Int) : List D := (xs.drop (HT.sIx xs.length 0 lo)).take (HT.sIx xs.length xs.length hi - HT.sIx xs.length 0 lo)
theorem DqAll_cut {vs : List V} {xs : List D} (h : DqAll K B vs xs) (lo hi : Option Int) : DqAll K B (cutV vs lo hi) (cutD xs lo hi) := by
  unfold cutV cutD
  rw [h.len]
  exact (h.drop _).take _
def OI (X : Cx) (st : Sto) (o : Option Expr) (i : Option Int) : Prop := match o, i with
  | none, none => True
  | some e, some i => ED X st e (.int i)
  | _, _ => False
theorem cut_whole {xs : List D} {lo hi : Option Int} (h : HT.sIx xs.length 0 lo = 0 ∧ HT.sIx xs.length xs.length hi = xs.length) : cutD xs lo hi = xs := by
  unfold cutD
  rw [h.1, h.2, List.drop_zero, Nat.sub_zero, List.take_length]
theorem ed_slT {xs : List D} {lo hi : Option Expr} {i j : Option Int} {p2 : Pos} (h : ED X st e (.tuple xs)) (h1 : OI X st lo i) (h2 : OI X st hi j) : ED X st (.Subscript e (.Slice lo hi none p2) pos) (.tuple (cutD xs i j)) := fun m H0 B H σ s l Q q => by
  have fin : ∀ (v : V) (B1 H1 : Hp), Nx none B H B1 H1 → Dq X.K B1 v (.tuple xs) → rSlA X.K v i j H1 Q := fun v B1 H1 n1 d1 => by
    obtain ⟨p, us, rfl, t1, a1⟩ := d1.tup_inv
    refine ⟨p, us, rfl, sqT_mono n1.i t1, fun w => ?_, fun w t ht => ?_⟩
    · refine q _ B1 H1 n1 ?_
      rw [a1.len] at w
      rw [cut_whole w]
      exact d1
    · exact q _ (upd B1 t (.tup (cutV us i j))) _ (n1.trans (Nx.new n1.i ht)) (.tup (SqT.of upd_same) (DqAll.up (same_new (same_sub n1.i ht)) (DqAll_cut a1 i j)))
  cases lo with
  | none =>
    cases i with
    | some _ => exact h1.elim
    | none =>
      cases hi with
      | none =>
        cases j with
        | some _ => exact h2.elim
        | none => exact WE.of (pe_slice sl_tupA peW po_none po_none) (h.any s l fun v B1 H1 n1 d1 => fin v B1 H1 n1 d1)
      | some u =>
        cases j with
        | none => exact h2.elim
        | some j =>
          have h2 : ED X st u (.int j) := h2
          exact WE.of (pe_slice sl_tupA peW po_none (po_some peW)) (h.any s l fun v B1 H1 n1 d1 => h2.any n1.i (l.nx n1.any) fun w B2 H2 n2 d2 => ⟨j, d2.int_inv, fin v B2 H2 (n1.trans n2) (Dq.up n2.b d1)⟩)
  | some u =>
    cases i with
    | none => exact h1.elim
    | some i =>
      have h1 : ED X st u (.int i) := h1
      cases hi with
      | none =>
        cases j with
        | some _ => exact h2.elim
        | none => exact WE.of (pe_slice sl_tupA peW (po_some peW) po_none) (h.any s l fun v B1 H1 n1 d1 => h1.any n1.i (l.nx n1.any) fun w B2 H2 n2 d2 => ⟨i, d2.int_inv, fin v B2 H2 (n1.trans n2) (Dq.up n2.b d1)⟩)
      | some u2 =>
        cases j with
        | none => exact h2.elim
        | some j =>
          have h2 : ED X st u2 (.int j) := h2
          exact WE.of (pe_slice sl_tupA peW (po_some peW) (po_some peW)) (h.any s l fun v B1 H1 n1 d1 => h1.any n1.i (l.nx n1.any) fun w B2 H2 n2 d2 => ⟨i, d2.int_inv, h2.any n2.i (l.nx (n1.trans n2).any) fun w3 B3 H3 n3 d3 => ⟨j, d3.int_inv, fin v B3 H3 ((n1.trans n2).trans n3) (Dq.up (n2.b.trans n3.b) d1)⟩⟩)
theorem atI_D {vs : List V} {xs : List D} {i : Int} (h : DqAll K B vs xs) (e : atI xs i = some d) : ∃ v, atI vs i = some v ∧ Dq K B v d := by
  unfold atI at e ⊢
  rw [h.len]
  cases q : ixN xs.length i with
  | none => rw [q] at e; cases e
  | some j =>
    rw [q] at e
    exact h.at_ (i := j) e
theorem ed_ixT {xs : List D} {i : Int} (h1 : ED X st e1 (.tuple xs)) (h2 : ED X st e2 (.int i)) (ha : atI xs i = some d) (hs : PlainIx e2 := by exact fun _ _ => rfl) : ED X st (.Subscript e1 e2 pos) d :=
  ed_ix ix_tup h1 h2 (fun B H x y s hx hy Q q => by
    obtain ⟨p, us, rfl, t1, a1⟩ := hx.tup_inv
    obtain ⟨v, hv, dv⟩ := atI_D a1 ha
    exact ⟨p, us, i, v, rfl, hy.int_inv, sqT_mono s t1, hv, q v B H (Nx.refl s) dv⟩) hs
theorem ed_ixL {xs : List D} {i : Int} (h1 : ED X st e1 (.list xs)) (h2 : ED X st e2 (.int i)) (ha : atI xs i = some d) (hs : PlainIx e2 := by exact fun _ _ => rfl) : ED X st (.Subscript e1 e2 pos) d :=
  ed_ix ix_list h1 h2 (fun B H x y s hx hy Q q => by
    obtain ⟨p, us, rfl, t1, a1⟩ := hx.lst_inv
    obtain ⟨v, hv, dv⟩ := atI_D a1 ha
    exact ⟨p, us, i, v, rfl, hy.int_inv, SqL.of (s _ _ t1), hv, q v B H (Nx.refl s) dv⟩) hs
theorem rc_lenT {xs : List D} : RC K (fun vs H Q => ∃ p ys, vs = [.ref p] ∧ (SqL K H p ys ∨ SqT K H p ys) ∧ Q (.int ys.length) H) [.tuple xs] (.int xs.length) := fun B H vs s ha Q q => by
  cases ha with
  | cons h t =>
    cases t
    obtain ⟨p, us, rfl, t1, a1⟩ := h.tup_inv
    exact ⟨p, us, rfl, .inr (sqT_mono s t1), q _ B H (Nx.refl s) (by rw [a1.len]; exact .int _)⟩
theorem rc_lenL {xs : List D} : RC K (fun vs H Q => ∃ p ys, vs = [.ref p] ∧ (SqL K H p ys ∨ SqT K H p ys) ∧ Q (.int ys.length) H) [.list xs] (.int xs.length) := fun B H vs s ha Q q => by
  cases ha with
  | cons h t =>
    cases t
    obtain ⟨p, us, rfl, t1, a1⟩ := h.lst_inv
    exact ⟨p, us, rfl, .inl (SqL.of (s _ _ t1)), q _ B H (Nx.refl s) (by rw [a1.len]; exact .int _)⟩
theorem ed_lenT {xs : List D} {p : Pos} (hm : X.mg "len" = none) (h : ED X st e (.tuple xs)) (hg : Gl X "len" := by rfl) (he : starEach [e] X.env = (false, eval e X.env) :: starEach [] X.env := by rfl) : ED X st (.Call (.Name "len" p) [e] [] pos) (.int xs.length) := ed_callB call_len_seq hm PySem.boot_len (eds_1 h he) rc_lenT hg (he := he)
theorem ed_lenL {xs : List D} {p : Pos} (hm : X.mg "len" = none) (h : ED X st e (.list xs)) (hg : Gl X "len" := by rfl) (he : starEach [e] X.env = (false, eval e X.env) :: starEach [] X.env := by rfl) : ED X st (.Call (.Name "len" p) [e] [] pos) (.int xs.length) := ed_callB call_len_seq hm PySem.boot_len (eds_1 h he) rc_lenL hg (he := he)
/-! ### the call of a def that changes nothing -/
/-- a promise: with such data, that data -/
def PP (K : PySem.W.Frag) (G : List D → D → Prop) : Sp := fun vs H Q _ => ∃ (B : Hp) (ds : List D) (d : D), Same B H ∧ DqAll K B vs ds ∧ G ds d ∧ ∀ v B2 H2, Nx none B H B2 H2 → Dq K B2 v d → Q v H2
theorem ed_call {k : Nat} {f : Addr} {fd : FuncData} {ps : List Str} {G : List D → D → Prop} {x : Str} {p : Pos} (F : FnOk X.prog X.w X.K X.mg X.base CX0 k f fd ps (PP X.K G)) (hr : Room k X.A) (hm : X.mg x = some (.ref f)) (hk : PySem.W.keepIn X.K (.ref f) = true) (hb : Binds X.K fd ps [])
    (ha : EDs X st (e :: es) ds) (hG : G ds d) (hg : Gl X x := by rfl) (hdb : (x == ("__debug__" : Str)) = false := by decide) (he : starEach (e :: es) X.env = (false, eval e X.env) :: starEach es X.env := by rfl) (hpl : (backTo pos (starEach es X.env)).any (·.1) = false := by rfl) : ED X st (.Call (.Name x p) (e :: es) [] pos) d := fun m H0 B H σ s l Q q =>
  WE.of (pe_call F hr hg hm hk hb .nil pass0 paW hdb he hpl) (ha m H0 B H σ s l _ fun xs B1 H1 n1 d1 => by
    rw [List.append_nil]
    exact ⟨B1, ds, d, n1.i, d1, hG, fun v B2 H2 n2 d2 => q v B2 H2 (n1.trans n2) d2⟩)
end
end K45
set_option maxHeartbeats 4000000
/-! Statements over data; loops; list comprehensions. -/
namespace K45
open PySem PySem.Spec PyProof.Rows L2
structure EndD where
  nx : Sto → Prop
  rt : D → Prop
  bk : Sto → Prop := fun _ => False
  ct : Sto → Prop := fun _ => False
  fr : Bool := false
/-- the bag (a list of ints that others change) stands outside of B -/
def BagOk (m : Option Addr) (B H : Hp) : Prop := ∀ b, m = some b → B b = none ∧ ∃ bs : List Int, H b = some (.lst (bs.map V.int))
def StOk (K : PySem.W.Frag) (m : Option Addr) (Bf B0 H0 : Hp) (st : Sto) (σ : St) (H : Hp) : Prop := ∃ B, Same Bf B ∧ Nx m B0 H0 B H ∧ BagOk m B H ∧ Sl K m H0 B H st σ
def lift (K : PySem.W.Frag) (m : Option Addr) (Bf B0 H0 : Hp) (E : EndD) : Ends where
  nx := fun σ H => ∃ st, E.nx st ∧ StOk K m Bf B0 H0 st σ H
  rt := fun v H => ∃ d B, E.rt d ∧ Same Bf B ∧ Nx m B0 H0 B H ∧ BagOk m B H ∧ Dq K B v d ∧ (E.fr = true → ∃ l, v = .ref l ∧ H0 l = none)
  bk := fun σ H => ∃ st, E.bk st ∧ StOk K m Bf B0 H0 st σ H
  ct := fun σ H => ∃ st, E.ct st ∧ StOk K m Bf B0 H0 st σ H
def HS (X : Cx) (m : Option Addr) (st : Sto) (sts : List Stmt) (E : EndD) : Prop := ∀ Bf B0 H0 σ H, StOk X.K m Bf B0 H0 st σ H → WSs X sts (lift X.K m Bf B0 H0 E) σ H
def HS1 (X : Cx) (m : Option Addr) (st : Sto) (s : Stmt) (E : EndD) : Prop := ∀ Bf B0 H0 σ H, StOk X.K m Bf B0 H0 st σ H → WS X s (lift X.K m Bf B0 H0 E) σ H
section
variable {X : Cx} {st st1 st2 : Sto} {e e1 e2 e3 : Expr} {es : List Expr} {a b c d : D} {ds : List D} {pos : Pos} {K : PySem.W.Frag} {m : Option Addr} {B H H0 B0 Bf B2 H2 : Hp} {σ : St} {s : Stmt} {rest body : List Stmt} {E E' : EndD}
theorem BagOk.nx (x : Nx none B H B2 H2) (h : BagOk m B H) : BagOk m B2 H2 := fun b e => by
  obtain ⟨h1, bs, h2⟩ := h b e
  exact ⟨(x.n b (by rw [h2]; exact fun z => nomatch z)).trans h1, bs, x.same b _ h2⟩
theorem SP.mono {X : Cx} {pins : List (Addr × Obj)} {D1 D2 : Ends} (h1 : ∀ σ H, D1.nx σ H → D2.nx σ H) (h2 : ∀ v H, D1.rt v H → D2.rt v H) (h3 : ∀ σ H, D1.bk σ H → D2.bk σ H) (h4 : ∀ σ H, D1.ct σ H → D2.ct σ H) {f : Flow} {s' : Shared} (h : SP X pins D1 f s') : SP X pins D2 f s' := by
  cases f with
  | next => obtain ⟨σ', H', I, q⟩ := h; exact ⟨σ', H', I, h1 _ _ q⟩
  | brk => obtain ⟨σ', H', I, q⟩ := h; exact ⟨σ', H', I, h3 _ _ q⟩
  | cont => obtain ⟨σ', H', I, q⟩ := h; exact ⟨σ', H', I, h4 _ _ q⟩
  | ret u => obtain ⟨v, σ', H', I, r, q⟩ := h; exact ⟨v, σ', H', I, r, h2 _ _ q⟩
theorem WS.mono {D1 D2 : Ends} (h : WS X s D1 σ H) (h1 : ∀ σ H, D1.nx σ H → D2.nx σ H) (h2 : ∀ v H, D1.rt v H → D2.rt v H) (h3 : ∀ σ H, D1.bk σ H → D2.bk σ H) (h4 : ∀ σ H, D1.ct σ H → D2.ct σ H) : WS X s D2 σ H := fun pins s I =>
  thn (h pins s I) fun _ _ q => SP.mono h1 h2 h3 h4 q
theorem WSs.mono {D1 D2 : Ends} (h : WSs X body D1 σ H) (h1 : ∀ σ H, D1.nx σ H → D2.nx σ H) (h2 : ∀ v H, D1.rt v H → D2.rt v H) (h3 : ∀ σ H, D1.bk σ H → D2.bk σ H) (h4 : ∀ σ H, D1.ct σ H → D2.ct σ H) : WSs X body D2 σ H := fun pins s I =>
  thn (h pins s I) fun _ _ q => SP.mono h1 h2 h3 h4 q
theorem StOk.nx (x : StOk K m Bf B0 H0 st σ H) : ∃ B, Same B H ∧ Same Bf B ∧ Sl K m H0 B H st σ ∧ BagOk m B H ∧ Nx m B0 H0 B H ∧ ∀ B2 H2, Nx none B H B2 H2 → StOk K m Bf B0 H0 st σ H2 := by
  obtain ⟨B, f, n, g, l⟩ := x
  exact ⟨B, n.i, f, l, g, n, fun B2 H2 y => ⟨B2, f.trans y.b, n.trans y.any, g.nx y, l.nx y.any⟩⟩
theorem hs_nil (h : E.nx st) : HS X m st [] E := fun Bf B0 H0 σ H o => WSs.of pss_nil ⟨st, h, o⟩
theorem hs_cons (h : HS1 X m st s { E with nx := fun st' => HS X m st' rest E }) : HS X m st (s :: rest) E := fun Bf B0 H0 σ H o =>
  WSs.of (pss_cons psW pssW) (WS.mono (h Bf B0 H0 σ H o) (fun σ' H' ⟨st', h', o'⟩ => h' Bf B0 H0 σ' H' o') (fun _ _ q => q) (fun _ _ q => q) (fun _ _ q => q))
theorem HS.mono (h : HS X m st body E) (h1 : ∀ s, E.nx s → E'.nx s) (h2 : ∀ s, E.rt s → E'.rt s) (h3 : ∀ s, E.bk s → E'.bk s) (h4 : ∀ s, E.ct s → E'.ct s) (h5 : E'.fr = true → E.fr = true := by intro h; exact h) : HS X m st body E' := fun Bf B0 H0 σ H o =>
  WSs.mono (h Bf B0 H0 σ H o) (fun _ _ ⟨s, q, r⟩ => ⟨s, h1 s q, r⟩) (fun _ _ ⟨d, B, q, r1, r2, r3, r4, r5⟩ => ⟨d, B, h2 d q, r1, r2, r3, r4, fun z => r5 (h5 z)⟩) (fun _ _ ⟨s, q, r⟩ => ⟨s, h3 s q, r⟩) (fun _ _ ⟨s, q, r⟩ => ⟨s, h4 s q, r⟩)
theorem hs_never {p : Prop} (h : False) : HS X m st body E := h.elim
/-- fewer things told -/
theorem HS.weak (h : HS X m st1 body E) (hl : st1.length = st.length) (w : ∀ (i : Nat) (s : Sv), st1[i]? = some (some s) → st[i]? = some (some s)) : HS X m st body E := fun Bf B0 H0 σ H ⟨B, f, n, g, l⟩ => h Bf B0 H0 σ H ⟨B, f, n, g, l.weak hl w⟩
/-! ### name = e, return, if, e -/
theorem hs_set (i : Nat) {x : Str} {p' : Pos} (nd : X.N.Nodup) (he : ED X st e d) (h : HS X m (st.set i (some (.d d))) rest E) (hi : X.N[i]? = some x := by rfl) (hx : Loc X.env.scope x := by first | exact Or.inl rfl | exact Or.inr rfl)
    (hs : swapsWith e (some (.Name x p')) pos.line X.env = pure false := by rfl) (hf : X.fn x = true ∨ X.env.scope.names.lookup x = some .local := by first | exact .inl rfl | exact .inr rfl) : HS X m st (.Assign [.Name x p'] e pos :: rest) E :=
  hs_cons fun Bf B0 H0 σ H o => by
    obtain ⟨B, sm, f, l, g, n, up⟩ := o.nx
    refine WS.of (ps_set nd hi hx peW hs hf) (he.any sm l fun v B1 H1 n1 d1 => ?_)
    exact ⟨_, h, B1, f.trans n1.b, n.trans n1.any, g.nx n1, (l.nx n1.any).set i d1⟩
theorem hs_ret (he : ED X st e d) (h : E.rt d) (hfr : E.fr = false := by rfl) : HS X m st (.Return (some e) pos :: rest) E :=
  hs_cons fun Bf B0 H0 σ H o => by
    obtain ⟨B, sm, f, l, g, n, up⟩ := o.nx
    exact WS.of (ps_ret peW) (he.any sm l fun v B1 H1 n1 d1 => ⟨d, B1, h, f.trans n1.b, n.trans n1.any, g.nx n1, d1, fun z => nomatch hfr.symm.trans z⟩)
theorem hs_if {k : Bool} {u w : List Stmt} (hc : ET X st e k) (h1 : k = true → HS X m st u { E with nx := fun st' => HS X m st' rest E }) (h2 : k = false → HS X m st w { E with nx := fun st' => HS X m st' rest E }) : HS X m st (.If e u w pos :: rest) E :=
  hs_cons fun Bf B0 H0 σ H o => by
    obtain ⟨B, sm, f, l, g, n, up⟩ := o.nx
    refine WS.of (ps_if ptW pssW pssW) (hc m H0 B H σ sm l _ fun B1 H1 n1 => ?_)
    cases k with
    | true => exact h1 rfl Bf B0 H0 σ H1 (up B1 H1 n1)
    | false => exact h2 rfl Bf B0 H0 σ H1 (up B1 H1 n1)
/-- if without else, the branch taken or not -/
theorem hs_when {k : Bool} {u : List Stmt} (hc : ET X st e k) (h1 : k = true → HS X m st u { E with nx := fun st' => HS X m st' rest E }) (h2 : k = false → HS X m st rest E) : HS X m st (.If e u [] pos :: rest) E :=
  hs_if hc h1 fun z => hs_nil (h2 z)
theorem hs_expr (he : ED X st e d) (h : HS X m st rest E) (hs : swapsWith e none pos.line X.env = pure false := by rfl) : HS X m st (.Expr e pos :: rest) E :=
  hs_cons fun Bf B0 H0 σ H o => by
    obtain ⟨B, sm, f, l, g, n, up⟩ := o.nx
    exact WS.of (ps_expr peW hs) (he.any sm l fun v B1 H1 n1 d1 => ⟨st, h, up B1 H1 n1⟩)
/-- a, b = e1, e2 -/
theorem hs_par (i j : Nat) {x y : Str} {px py pt : Pos} {kt k2 pt2} (nd : X.N.Nodup) (h1 : ED X st e1 a) (h2 : ED X st e2 b) (h : HS X m ((st.set i (some (.d a))).set j (some (.d b))) rest E) (hc : X.calm = true := by rfl)
    (hi : X.N[i]? = some x := by rfl) (hj : X.N[j]? = some y := by rfl) (hij : i ≠ j := by decide) (hx : X.env.scope.names.lookup x = some .local := by rfl) (hy : X.env.scope.names.lookup y = some .local := by rfl)
    (hw : swappedStores [.Tuple [.Name x px, .Name y py] kt pt] (.Tuple [e1, e2] k2 pt2) X.env = pure (some [x, y]) := by rfl) (hs : swapsWithSole [.Tuple [.Name x px, .Name y py] kt pt] (.Tuple [e1, e2] k2 pt2) pos.line X.env = pure false := by rfl)
    (he1 : starEach [e1, e2] X.env = (false, eval e1 X.env) :: starEach [e2] X.env := by rfl) (he2 : starEach [e2] X.env = (false, eval e2 X.env) :: starEach [] X.env := by rfl) :
    HS X m st (.Assign [.Tuple [.Name x px, .Name y py] kt pt] (.Tuple [e1, e2] k2 pt2) pos :: rest) E :=
  hs_cons fun Bf B0 H0 σ H o => by
    obtain ⟨B, sm, f, l, g, n, up⟩ := o.nx
    refine WS.of (ps_par hc nd hi hj hij hx hy paW hw hs) (eds_cons h1 (eds_1 h2 he2) he1 m H0 B H σ sm l _ fun vs B1 H1 n1 d1 => ?_)
    cases d1 with
    | cons p q =>
      cases q with
      | cons p' q' =>
        cases q'
        exact ⟨_, _, rfl, _, h, B1, f.trans n1.b, n.trans n1.any, g.nx n1, ((l.nx n1.any).set i (s := .d a) p).set j (s := .d b) p'⟩
/-! ### targets -/
def GT (K : PySem.W.Frag) (m : Option Addr) (g : TG) (st : Sto) (d : D) (st' : Sto) : Prop := ∀ H0 B H σ v, Same B H → Sl K m H0 B H st σ → Dq K B v d → ∀ Q : St → Hp → Prop, (∀ σ', Sl K m H0 B H st' σ' → Q σ' H) → g v σ H Q
theorem gt_name (i : Nat) : GT K m (gName i) st d (st.set i (some (.d d))) := fun H0 B H σ v _ l h Q q => q _ (l.set i (s := .d d) h)
theorem gt_pair (i j : Nat) : GT K m (gTup K 2 (gCons (gName i) (gCons (gName j) gNil))) st (.tuple [a, b]) ((st.set i (some (.d a))).set j (some (.d b))) := fun H0 B H σ v sm l h Q q => by
  obtain ⟨p, xs, rfl, t, aa⟩ := h.tup_inv
  cases aa with
  | cons h1 t1 =>
    cases t1 with
    | cons h2 t2 =>
      cases t2
      exact ⟨p, _, rfl, sqT_mono sm t, rfl, _, _, rfl, _, _, rfl, rfl, q _ ((l.set i (s := .d a) h1).set j (s := .d b) h2)⟩
theorem gt_four (i j k n : Nat) : GT K m (gTup K 4 (gCons (gName i) (gCons (gName j) (gCons (gName k) (gCons (gName n) gNil))))) st (.tuple [a, b, c, d]) ((((st.set i (some (.d a))).set j (some (.d b))).set k (some (.d c))).set n (some (.d d))) := fun H0 B H σ v sm l h Q q => by
  obtain ⟨p, xs, rfl, t, aa⟩ := h.tup_inv
  cases aa with
  | cons h1 t1 =>
    cases t1 with
    | cons h2 t2 =>
      cases t2 with
      | cons h3 t3 =>
        cases t3 with
        | cons h4 t4 =>
          cases t4
          exact ⟨p, _, rfl, sqT_mono sm t, rfl, _, _, rfl, _, _, rfl, _, _, rfl, _, _, rfl, rfl, q _ ((((l.set i (s := .d a) h1).set j (s := .d b) h2).set k (s := .d c) h3).set n (s := .d d) h4)⟩
/-- target = e, the target of any form -/
theorem hs_asg {tg : Expr} {g : TG} (hg : PG X tg g) (he : ED X st e d) (gt : GT X.K m g st d st1) (h : HS X m st1 rest E) (hs : swapsWithSole [tg] e pos.line X.env = pure false := by rfl) (hw : swappedStores [tg] e X.env = pure none := by rfl)
    (h1 : (assignEach [tg] X.env).map (·.2) = [assign tg X.env] := by rfl) : HS X m st (.Assign [tg] e pos :: rest) E :=
  hs_cons fun Bf B0 H0 σ H o => by
    obtain ⟨B, sm, f, l, g, n, up⟩ := o.nx
    exact WS.of (ps_asg peW hg hs hw h1) (he.any sm l fun v B1 H1 n1 d1 => gt H0 B1 H1 σ v n1.i (l.nx n1.any) d1 _ fun σ' l' => ⟨_, h, B1, f.trans n1.b, n.trans n1.any, g.nx n1, l'⟩)
/-! ### what is walked -/
def JD (K : PySem.W.Frag) (J : It) (B1 : Hp) (xs : List D) : Prop := ∀ B H, Same B1 B → Same B H → ∀ i : Nat,
  (∀ d, xs[i]? = some d → J.go i H ∧ ∀ x H', J.yld i H x H' → ∃ B', Nx none B H B' H' ∧ Dq K B' x d) ∧ (i = xs.length → J.stop i H)
def EI (X : Cx) (st : Sto) (tg iter : Expr) (xs : List D) : Prop := ∃ wi : TI, PI X tg iter wi ∧ ∀ (m : Option Addr) (H0 B H : Hp) (σ : St), Same B H → Sl X.K m H0 B H st σ →
  ∀ R : It → Hp → Prop, (∀ J B1 H1, Nx none B H B1 H1 → JD X.K J B1 xs → R J H1) → wi σ H R
theorem ei_list {tg : Expr} {xs : List D} (h : ED X st e (.list xs)) : EI X st tg e xs := ⟨_, pi_list peW, fun m H0 B H σ s l R r => h.any s l fun v B1 H1 n1 d1 => by
  obtain ⟨p, us, rfl, t, aa⟩ := d1.lst_inv
  refine ⟨p, rfl, ⟨us, SqL.of (n1.i _ _ t)⟩, r _ B1 H1 n1 fun B2 H2 s1 s2 i => ⟨fun d hd => ?_, fun hi => ?_⟩⟩
  · obtain ⟨v, hv, dv⟩ := aa.at_ hd
    refine ⟨⟨us, v, SqL.of (s2 _ _ (s1 _ _ t)), hv⟩, fun x H' y => ?_⟩
    obtain ⟨rfl, y⟩ := y
    have e := (y us (SqL.of (s2 _ _ (s1 _ _ t)))).symm.trans hv
    cases e
    exact ⟨B2, Nx.refl s2, Dq.up s1 dv⟩
  · exact ⟨us, SqL.of (s2 _ _ (s1 _ _ t)), by rw [aa.len]; omega⟩⟩
theorem ei_tup {tg : Expr} {xs : List D} (h : ED X st e (.tuple xs)) : EI X st tg e xs := ⟨_, pi_tup peW, fun m H0 B H σ s l R r => h.any s l fun v B1 H1 n1 d1 => by
  obtain ⟨p, us, rfl, t, aa⟩ := d1.tup_inv
  refine ⟨p, rfl, ⟨us, sqT_mono n1.i t⟩, r _ B1 H1 n1 fun B2 H2 s1 s2 i => ⟨fun d hd => ?_, fun hi => ?_⟩⟩
  · obtain ⟨v, hv, dv⟩ := aa.at_ hd
    refine ⟨⟨us, v, sqT_mono s2 (sqT_mono s1 t), hv⟩, fun x H' y => ?_⟩
    obtain ⟨rfl, y⟩ := y
    have e := (y us (sqT_mono s2 (sqT_mono s1 t))).symm.trans hv
    cases e
    exact ⟨B2, Nx.refl s2, Dq.up s1 dv⟩
  · exact ⟨us, sqT_mono s2 (sqT_mono s1 t), by rw [aa.len]; omega⟩⟩
/-- lo, lo + 1, .., n of them -/
def upD (lo : Int) (n : Nat) : List D := (List.range n).map fun (i : Nat) => PyData.int (lo + (i : Int))
theorem upD_at {lo : Int} {n i : Nat} {d : D} (h : (upD lo n)[i]? = some d) : i < n ∧ d = .int (lo + (i : Int)) := by
  unfold upD at h
  rw [List.getElem?_map] at h
  by_cases hi : i < n
  · rw [List.getElem?_range hi] at h
    exact ⟨hi, (Option.some.inj h).symm⟩
  · rw [List.getElem?_eq_none (by rw [List.length_range]; omega)] at h
    cases h
theorem upD_len (lo : Int) (n : Nat) : (upD lo n).length = n := by unfold upD; rw [List.length_map, List.length_range]
theorem jd_range {lo : Int} {n : Nat} {B1 : Hp} : JD K (Itr lo n) B1 (upD lo n) := fun B H s1 s2 i => ⟨fun d hd => by
  obtain ⟨hi, rfl⟩ := upD_at hd
  refine ⟨hi, fun x H' y => ?_⟩
  obtain ⟨rfl, rfl⟩ := y
  exact ⟨B, Nx.refl s2, .int _⟩, fun hi => by
  rw [upD_len] at hi
  exact Nat.le_of_eq hi.symm⟩
theorem ei_range1 {tg : Expr} {p : Pos} {n : Int} (hm : X.mg "range" = none) (h : ED X st e (.int n)) (hn : -(2 ^ 62) ≤ n ∧ n < 2 ^ 62) (hg : Gl X "range" := by rfl) (hs : starEach [e] X.env = [(false, eval e X.env)] := by rfl) : EI X st tg (.Call (.Name "range" p) [e] [] pos) (upD 0 n.toNat) :=
  ⟨_, pi_range1 hg hm paW hs, fun m H0 B H σ s l R r => eds_1 h hs m H0 B H σ s l _ fun vs B1 H1 n1 d1 => by
    cases d1 with
    | cons h1 t =>
      cases t; cases h1
      exact ⟨n, rfl, hn.1, hn.2, r _ B1 H1 n1 jd_range⟩⟩
theorem ei_range2 {tg : Expr} {p : Pos} {i j : Int} (hm : X.mg "range" = none) (h1 : ED X st e1 (.int i)) (h2 : ED X st e2 (.int j)) (hn : -(2 ^ 62) ≤ i ∧ i < 2 ^ 62 ∧ -(2 ^ 62) ≤ j ∧ j < 2 ^ 62) (hg : Gl X "range" := by rfl)
    (hs : starEach [e1, e2] X.env = [(false, eval e1 X.env), (false, eval e2 X.env)] := by rfl) (hs2 : starEach [e2] X.env = [(false, eval e2 X.env)] := by rfl) : EI X st tg (.Call (.Name "range" p) [e1, e2] [] pos) (upD i (j - i).toNat) :=
  ⟨_, pi_range2 hg hm paW hs hs2, fun m H0 B H σ s l R r => eds_cons h1 (eds_1 h2 hs2) (by rw [hs, hs2]) m H0 B H σ s l _ fun vs B1 H1 n1 d1 => by
    cases d1 with
    | cons h1 t =>
      cases t with
      | cons h2 t => cases t; cases h1; cases h2; exact ⟨i, j, rfl, hn, r _ B1 H1 n1 jd_range⟩⟩
/-! ### for -/
theorem hs_for {tg iter : Expr} {g : TG} {xs : List D} (P : Nat → Sto → Prop) (hg : PG X tg g) (hi : EI X st tg iter xs) (h0 : P 0 st)
    (hs : ∀ i d st', xs[i]? = some d → P i st' → ∃ st2, GT X.K m g st' d st2 ∧ HS X m st2 body { nx := P (i + 1), rt := E.rt, bk := fun s => HS X m s rest E, ct := P (i + 1), fr := E.fr }) (hd : ∀ st', P xs.length st' → HS X m st' rest E)
    (hp : PassesOwn (model X.prog X.w) X.A X.env X.xe := by exact PassesOwn.never) (hc : X.calm = true := by rfl) (hf : ∀ x, foldedSetIterable iter X.env x = pure x := by intro _; rfl) : HS X m st (.For tg iter body [] pos :: rest) E :=
  hs_cons fun Bf B0 H0 σ H o => by
    obtain ⟨B, sm, f, l, g, n, up⟩ := o.nx
    obtain ⟨wi, hpi, hw⟩ := hi
    refine WS.of (ps_for hp hc hpi hg pssW hf) (hw m H0 B H σ sm l _ fun J B1 H1 n1 jd => ?_)
    refine ⟨fun i k σ' H' => k = xs.length - i ∧ i ≤ xs.length ∧ ∃ st', P i st' ∧ StOk X.K m B1 B0 H0 st' σ' H', ⟨xs.length, rfl, Nat.zero_le _, st, h0, B1, Same.refl B1, n.trans n1.any, g.nx n1, l.nx n1.any⟩, ?_⟩
    rintro i k σ' H' ⟨rfl, hik, st', p, o'⟩
    obtain ⟨B2, f2, m2, g2, l2⟩ := o'
    have jd' := jd B2 H' f2 m2.i i
    by_cases hlt : i < xs.length
    · refine .inr ?_
      obtain ⟨go, yl⟩ := jd'.1 _ (List.getElem?_eq_getElem hlt)
      refine ⟨go, fun σ3 H3 => ∃ st3, P (i + 1) st3 ∧ StOk X.K m B1 B0 H0 st3 σ3 H3, fun σ3 H3 q => ⟨xs.length - (i + 1), by omega, rfl, hlt, q⟩, fun x H3 y => ?_⟩
      obtain ⟨B3, n3, d3⟩ := yl x H3 y
      obtain ⟨st2, gt, hb⟩ := hs i _ st' (List.getElem?_eq_getElem hlt) p
      refine gt H0 B3 H3 σ' x n3.i (l2.nx n3.any) d3 _ fun σ4 l4 => ?_
      exact WSs.mono (hb B1 B0 H0 σ4 H3 ⟨B3, f2.trans n3.b, m2.trans n3.any, g2.nx n3, l4⟩) (fun _ _ q => q) (fun v H5 ⟨d, B5, q1, q2, q3⟩ => ⟨d, B5, q1, f.trans (n1.b.trans q2), q3⟩) (fun σ5 H5 ⟨st5, q1, B5, q2, q3⟩ => ⟨st5, q1, B5, f.trans (n1.b.trans q2), q3⟩) (fun _ _ q => q)
    · have e : i = xs.length := by omega
      refine .inl ⟨jd'.2 e, st', ?_, B2, f.trans (n1.b.trans f2), m2, g2, l2⟩
      subst e
      exact hd st' p
/-! ### while -/
theorem hs_while (P : Nat → Sto → Prop) (k0 : Nat) (h0 : P k0 st)
    (hs : ∀ k st', P k st' → ∃ b, ET X st' e b ∧ (b = true → HS X m st' body { nx := fun s => ∃ k', k' < k ∧ P k' s, rt := E.rt, bk := fun s => HS X m s rest E, ct := fun s => ∃ k', k' < k ∧ P k' s, fr := E.fr }) ∧ (b = false → HS X m st' rest E))
    (hp : PassesOwn (model X.prog X.w) X.A X.env X.xe := by exact PassesOwn.never) : HS X m st (.While e body [] pos :: rest) E :=
  hs_cons fun Bf B0 H0 σ H o => by
    refine WS.of (ps_while hp ptW pssW) ⟨fun k σ' H' => ∃ st', P k st' ∧ StOk X.K m Bf B0 H0 st' σ' H', ⟨k0, st, h0, o⟩, ?_⟩
    rintro k σ' H' ⟨st', p, o'⟩
    obtain ⟨b, ht, h1, h2⟩ := hs k st' p
    obtain ⟨B, sm, f, l, g, n, up⟩ := o'.nx
    refine ht m H0 B H' σ' sm l _ fun B1 H1 n1 => ?_
    cases b with
    | true =>
      refine ⟨fun σ3 H3 => ∃ st3, (∃ k', k' < k ∧ P k' st3) ∧ StOk X.K m Bf B0 H0 st3 σ3 H3, fun σ3 H3 ⟨st3, ⟨k', hk, p3⟩, o3⟩ => ⟨k', hk, st3, p3, o3⟩, ?_⟩
      exact h1 rfl Bf B0 H0 σ' H1 (up B1 H1 n1)
    | false => exact ⟨st', h2 rfl, up B1 H1 n1⟩
/-! ### list comprehensions -/
/-- the stores with the block's own names forgotten -/
def wipeS (st : Sto) : List Nat → Sto
  | [] => st
  | v :: vs => (wipeS st vs).set v none
theorem Sl.wipes (h : Sl K m H0 B H st σ) : ∀ vs, Sl K m H0 B H (wipeS st vs) (L2.wipe σ vs)
  | [] => h
  | v :: vs => (Sl.wipes h vs).wipe v
/-- the target's store touches the block's own names alone -/
def GW (g : TG) (vs : List Nat) : Prop := ∀ v (σ : St) (H : Hp) (Q2 : St → Hp → Prop), g v (L2.wipe σ vs) H Q2 → g v (L2.wipe σ vs) H fun σ' H' => L2.wipe σ' vs = L2.wipe σ vs ∧ Q2 σ' H'
theorem wipe_one (σ : St) (i : Nat) (x : Option V) : L2.wipe ((L2.wipe σ [i]).set i x) [i] = L2.wipe σ [i] := by
  show ((σ.set i none).set i x).set i none = σ.set i none
  rw [List.set_set, List.set_set]
theorem wipe_two (σ : St) {i j : Nat} (h : i ≠ j) (x y : Option V) : L2.wipe (((L2.wipe σ [i, j]).set i x).set j y) [i, j] = L2.wipe σ [i, j] := by
  show (((((σ.set j none).set i none).set i x).set j y).set j none).set i none = (σ.set j none).set i none
  have e1 : ∀ A : St, (((A.set i x).set j y).set j none).set i none = (A.set j none).set i none := fun A => by
    rw [List.set_set, List.set_comm _ _ h, List.set_set]
  have e2 : ((σ.set j none).set i none).set j none = (σ.set j none).set i none := by
    rw [List.set_comm _ _ h, List.set_set]
  rw [e1, e2, List.set_set]
theorem gw_name {i : Nat} : GW (gName i) [i] := fun v σ H Q2 h => ⟨wipe_one σ i _, h⟩
theorem gw_pair {i j : Nat} (hij : i ≠ j := by decide) : GW (gTup K 2 (gCons (gName i) (gCons (gName j) gNil))) [i, j] := fun v σ H Q2 h => by
  obtain ⟨p, xs, rfl, t, hl, v1, r1, rfl, v2, r2, rfl, e, h⟩ := h
  exact ⟨p, _, rfl, t, hl, v1, _, rfl, v2, _, rfl, e, wipe_two σ hij _ _, h⟩
abbrev famE (X : Cx) (scope : Scope) (e : Expr) : TE := fun σ H Q => ∀ s H' C cl fp, WE (X.blk s H' scope (compEnvC scope cl C X.env) fp) e σ H Q
abbrev famT (X : Cx) (scope : Scope) (e : Expr) : TT := fun σ H Q => ∀ s H' C cl fp, WT (X.blk s H' scope (compEnvC scope cl C X.env) fp) e σ H Q
/-- the judgements in every such block -/
def BE (X : Cx) (scope : Scope) (st : Sto) (e : Expr) (d : D) : Prop := ∀ s H' C cl fp, ED (X.blk s H' scope (compEnvC scope cl C X.env) fp) st e d
def BT (X : Cx) (scope : Scope) (st : Sto) (e : Expr) (b : Bool) : Prop := ∀ s H' C cl fp, ET (X.blk s H' scope (compEnvC scope cl C X.env) fp) st e b
theorem filter_take_succ {α : Type} {p : α → Bool} {xs : List α} {i : Nat} {d : α} (h : xs[i]? = some d) : (xs.take (i + 1)).filter p = (xs.take i).filter p ++ if p d = true then [d] else [] := by
  rw [List.take_add_one, h, List.filter_append]
  congr 1
  show List.filter p [d] = _
  rw [List.filter_cons]
  rfl
theorem lc_read {elt : Expr} {scope : Scope} {vs : List Nat} {g : TG} {tt : TT} {α : Type} {ys : List α} {ι f : α → D} {p : α → Bool} {wi : TI}
    (hw : ∀ (m : Option Addr) (H0 B H : Hp) (σ : St), Same B H → Sl X.K m H0 B H st σ → ∀ R : It → Hp → Prop, (∀ J B1 H1, Nx none B H B1 H1 → JD X.K J B1 (ys.map ι) → R J H1) → wi σ H R)
    (gw : GW g vs) (hz : ys.length ≤ 100000)
    (hb : ∀ m, ∀ y ∈ ys, ∃ st2, GT X.K m g (wipeS st vs) (ι y) st2 ∧ (∀ H0 B H σ, Same B H → Sl X.K m H0 B H st2 σ → ∀ Q : Bool → Hp → Prop, (∀ B2 H2, Nx none B H B2 H2 → Q (p y) H2) → tt σ H Q) ∧ (p y = true → BE X scope st2 elt (f y)))
    (m : Option Addr) (H0 B H : Hp) (σ : St) (s : Same B H) (l : Sl X.K m H0 B H st σ) (Q : VK) (q : ∀ v B2 H2, Nx none B H B2 H2 → Dq X.K B2 v (.list ((ys.filter p).map f)) → Q v H2) :
    tLc wi g tt (famE X scope elt) vs σ H Q := by
  refine hw m H0 B H σ s l _ fun J B1 H1 n1 jd Da hDa => ?_
  -- what holds ahead of the i-th turn
  let Pv : Nat → Hp → Prop := fun i H' => ∃ B' acc, Nx none B1 H1 B' H' ∧ B' Da = none ∧ H' Da = some (.lst acc) ∧ DqAll X.K B' acc (((ys.take i).filter p).map f)
  have hDB : B1 Da = none := same_sub n1.i hDa
  have h0 : Pv 0 (upd H1 Da (.lst [])) := ⟨B1, [], (Nx.refl n1.i).put (.inl hDa) hDB, hDB, upd_same, .nil⟩
  refine ⟨fun i k H' => k = ys.length - i ∧ i ≤ ys.length ∧ Pv i H', ⟨ys.length, rfl, Nat.zero_le _, h0⟩, ?_⟩
  rintro i k H' ⟨rfl, hik, B', acc, n2, bD, hD, da⟩
  have jd' := jd B' H' n2.b n2.i i
  by_cases hlt : i < ys.length
  · refine .inr ?_
    have hy : ys[i]? = some ys[i] := List.getElem?_eq_getElem hlt
    obtain ⟨go, yl⟩ := jd'.1 (ι ys[i]) (by rw [List.getElem?_map, hy]; rfl)
    refine ⟨go, Pv (i + 1), fun H3 q3 => ⟨ys.length - (i + 1), by omega, rfl, hlt, q3⟩, fun x H3 y3 => ?_⟩
    obtain ⟨B3, n3, d3⟩ := yl x H3 y3
    obtain ⟨st2, gt, htt, hel⟩ := hb m _ (List.getElem_mem hlt)
    have hD3 : H3 Da = some (.lst acc) := n3.same Da _ hD
    have bD3 : B3 Da = none := (n3.n Da (by rw [hD]; exact fun z => nomatch z)).trans bD
    have l3 : Sl X.K m H0 B3 H3 (wipeS st vs) (L2.wipe σ vs) := Sl.wipes (l.nx ((n1.trans n2).trans n3).any) _
    refine gw x σ H3 _ ?_
    refine gt H0 B3 H3 _ x n3.i l3 d3 _ fun σ4 l4 => ?_
    refine htt H0 B3 H3 σ4 n3.i l4 _ fun B4 H4 n4 => ?_
    have hD4 : H4 Da = some (.lst acc) := n4.same Da _ hD3
    have bD4 : B4 Da = none := (n4.n Da (by rw [hD3]; exact fun z => nomatch z)).trans bD3
    by_cases hp : p ys[i] = true
    · rw [if_pos hp]
      intro s5 H5 C5 cl5 fp5
      refine hel hp s5 H5 C5 cl5 fp5 m H0 B4 H4 σ4 n4.i (l4.nx n4.any) _ fun v B6 H6 n6 d6 => ?_
      have hD6 : H6 Da = some (.lst acc) := n6.same Da _ hD4
      have bD6 : B6 Da = none := (n6.n Da (by rw [hD4]; exact fun z => nomatch z)).trans bD4
      have hla := da.len
      refine ⟨acc, hD6, ?_, B6, acc ++ [v], (((n2.trans n3).trans n4).trans n6).put (.inl hDa) bD6, bD6, upd_same, ?_⟩
      · rw [hla, List.length_map]
        have h1 := List.length_filter_le p (ys.take i)
        have h2 : (ys.take i).length ≤ i := List.length_take_le _ _
        exact Nat.lt_of_lt_of_le (show _ < 100000 by omega) (by decide)
      · rw [filter_take_succ hy, if_pos hp, List.map_append]
        exact (DqAll.up ((n3.b.trans n4.b).trans n6.b) da).app (.cons d6 .nil)
    · rw [if_neg hp]
      refine ⟨B4, acc, (n2.trans n3).trans n4, bD4, hD4, ?_⟩
      rw [filter_take_succ hy, if_neg hp, List.append_nil]
      exact DqAll.up (n3.b.trans n4.b) da
  · have e : i = ys.length := by omega
    refine .inl ⟨jd'.2 (by rw [List.length_map]; exact e), ?_⟩
    rw [e, List.take_length] at da
    exact q (.ref Da) (upd B' Da (.lst acc)) H' (n1.trans (n2.freeze hDa bD hD)) (.lst upd_same (DqAll.up (same_new bD) da))
theorem ed_lc_core {tg iter elt : Expr} {ifs : List Expr} {scope : Scope} {own : List (Str × Nat)} {g : TG} {tt : TT} {α : Type} {ys : List α} {ι f : α → D} {p : α → Bool} (hc : X.calm = true) (nd : X.N.Nodup) (hi : EI X st tg iter (ys.map ι)) (ok : BlkOk X.N X.env.scope scope own)
    (hg : ∀ (s : Shared) (H : Hp) (C : Addr) (cl : List (Str × Addr)) (fp : List Addr), PG (X.blk s H scope (compEnvC scope cl C X.env) fp) tg g) (ht : ∀ (s : Shared) (H : Hp) (C : Addr) (cl : List (Str × Addr)) (fp : List Addr), PTs (X.blk s H scope (compEnvC scope cl C X.env) fp) ifs tt)
    (gw : GW g (own.map (·.2))) (hz : ys.length ≤ 100000)
    (hb : ∀ m, ∀ y ∈ ys, ∃ st2, GT X.K m g (wipeS st (own.map (·.2))) (ι y) st2 ∧ (∀ H0 B H σ, Same B H → Sl X.K m H0 B H st2 σ → ∀ Q : Bool → Hp → Prop, (∀ B2 H2, Nx none B H B2 H2 → Q (p y) H2) → tt σ H Q) ∧ (p y = true → BE X scope st2 elt (f y)))
    (hs : ∀ x, foldedSetIterable iter X.env x = pure x := by intro _; rfl) : ED X st (.ListComp elt [⟨tg, iter, ifs, 0⟩] scope pos) (.list ((ys.filter p).map f)) := by
  intro m H0 B H σ s l Q q
  obtain ⟨wi, hpi, hw⟩ := hi
  exact WE.of (pe_lc (te := famE X scope elt) hc nd hpi ok hg ht (fun s H C cl fp => ⟨fun pins s' σ' H' Q I h => h s H C cl fp pins s' I⟩) hs) (lc_read hw gw hz hb m H0 B H σ s l Q q)
/-- name = [..] -/
theorem hs_setLc_core {tg iter elt : Expr} {ifs : List Expr} {scope : Scope} {own : List (Str × Nat)} {g : TG} {tt : TT} {α : Type} {ys : List α} {ι f : α → D} {p : α → Bool} {i : Nat} {y : Str} {py lpos : Pos} (hc : X.calm = true) (nd : X.N.Nodup) (hi : EI X st tg iter (ys.map ι)) (ok : BlkOk X.N X.env.scope scope own)
    (hg : ∀ (s : Shared) (H : Hp) (C : Addr) (cl : List (Str × Addr)) (fp : List Addr), PG (X.blk s H scope (compEnvC scope cl C X.env) fp) tg g) (ht : ∀ (s : Shared) (H : Hp) (C : Addr) (cl : List (Str × Addr)) (fp : List Addr), PTs (X.blk s H scope (compEnvC scope cl C X.env) fp) ifs tt)
    (gw : GW g (own.map (·.2))) (hz : ys.length ≤ 100000)
    (hb : ∀ m, ∀ y ∈ ys, ∃ st2, GT X.K m g (wipeS st (own.map (·.2))) (ι y) st2 ∧ (∀ H0 B H σ, Same B H → Sl X.K m H0 B H st2 σ → ∀ Q : Bool → Hp → Prop, (∀ B2 H2, Nx none B H B2 H2 → Q (p y) H2) → tt σ H Q) ∧ (p y = true → BE X scope st2 elt (f y)))
    (hy : X.N[i]? = some y) (hyl : X.env.scope.names.lookup y = some .local) (hsw : swapsWith (.ListComp elt [⟨tg, iter, ifs, 0⟩] scope lpos) (some (.Name y py)) pos.line X.env = pure true)
    (h : HS X m (st.set i (some (.d (.list ((ys.filter p).map f))))) rest E) (hs : ∀ x, foldedSetIterable iter X.env x = pure x := by intro _; rfl) : HS X m st (.Assign [.Name y py] (.ListComp elt [⟨tg, iter, ifs, 0⟩] scope lpos) pos :: rest) E :=
  hs_cons fun Bf B0 H0 σ H o => by
    obtain ⟨B, sm, fl, l, gb, n, up⟩ := o.nx
    obtain ⟨wi, hpi, hw⟩ := hi
    refine WS.of (ps_setLc (te := famE X scope elt) hc nd hy hyl hsw hpi ok hg ht (fun s H C cl fp => ⟨fun pins s' σ' H' Q I h => h s H C cl fp pins s' I⟩) hs) (lc_read hw gw hz hb m H0 B H σ sm l _ fun v B1 H1 n1 d1 => ?_)
    exact ⟨_, h, B1, fl.trans n1.b, n.trans n1.any, gb.nx n1, (l.nx n1.any).set i d1⟩
theorem ed_lc {tg iter elt : Expr} {scope : Scope} {own : List (Str × Nat)} {g : TG} {α : Type} {ys : List α} {ι f : α → D} (nd : X.N.Nodup) (hi : EI X st tg iter (ys.map ι)) (ok : BlkOk X.N X.env.scope scope own)
    (hg : ∀ (s : Shared) (H : Hp) (C : Addr) (cl : List (Str × Addr)) (fp : List Addr), PG (X.blk s H scope (compEnvC scope cl C X.env) fp) tg g) (gw : GW g (own.map (·.2))) (hz : ys.length ≤ 100000)
    (hb : ∀ m, ∀ y ∈ ys, ∃ st2, GT X.K m g (wipeS st (own.map (·.2))) (ι y) st2 ∧ BE X scope st2 elt (f y)) (hc : X.calm = true := by rfl)
    (hs : ∀ x, foldedSetIterable iter X.env x = pure x := by intro _; rfl) : ED X st (.ListComp elt [⟨tg, iter, [], 0⟩] scope pos) (.list (ys.map f)) :=
  (ed_lc_core (p := fun _ => true) hc nd hi ok hg (fun _ _ _ _ _ => pts_nil) gw hz (fun m y hy => by
    obtain ⟨st2, h1, h2⟩ := hb m y hy
    exact ⟨st2, h1, fun H0 B H σ s l Q q => q B H (Nx.refl s), fun _ => h2⟩) hs).is (by rw [List.filter_eq_self.mpr fun _ _ => rfl])
theorem ed_lcIf {tg iter elt c : Expr} {scope : Scope} {own : List (Str × Nat)} {g : TG} {α : Type} {ys : List α} {ι f : α → D} {p : α → Bool} (nd : X.N.Nodup) (hi : EI X st tg iter (ys.map ι)) (ok : BlkOk X.N X.env.scope scope own)
    (hg : ∀ (s : Shared) (H : Hp) (C : Addr) (cl : List (Str × Addr)) (fp : List Addr), PG (X.blk s H scope (compEnvC scope cl C X.env) fp) tg g) (gw : GW g (own.map (·.2))) (hz : ys.length ≤ 100000)
    (hb : ∀ m, ∀ y ∈ ys, ∃ st2, GT X.K m g (wipeS st (own.map (·.2))) (ι y) st2 ∧ BT X scope st2 c (p y) ∧ (p y = true → BE X scope st2 elt (f y))) (hc : X.calm = true := by rfl)
    (hs : ∀ x, foldedSetIterable iter X.env x = pure x := by intro _; rfl) : ED X st (.ListComp elt [⟨tg, iter, [c], 0⟩] scope pos) (.list ((ys.filter p).map f)) :=
  ed_lc_core (tt := famT X scope c) hc nd hi ok hg (fun s H C cl fp => pts_one ⟨fun pins s' σ' H' Q I h => h s H C cl fp pins s' I⟩) gw hz (fun m y hy => by
    obtain ⟨st2, h1, h2, h3⟩ := hb m y hy
    exact ⟨st2, h1, fun H0 B H σ s l Q q s5 H5 C5 cl5 fp5 => h2 s5 H5 C5 cl5 fp5 m H0 B H σ s l Q q, h3⟩) hs
theorem hs_setLc {tg iter elt : Expr} {scope : Scope} {own : List (Str × Nat)} {g : TG} {α : Type} {ys : List α} {ι f : α → D} (i : Nat) {y : Str} {py lpos : Pos} (nd : X.N.Nodup) (hi : EI X st tg iter (ys.map ι)) (ok : BlkOk X.N X.env.scope scope own)
    (hg : ∀ (s : Shared) (H : Hp) (C : Addr) (cl : List (Str × Addr)) (fp : List Addr), PG (X.blk s H scope (compEnvC scope cl C X.env) fp) tg g) (gw : GW g (own.map (·.2))) (hz : ys.length ≤ 100000)
    (hb : ∀ m, ∀ y ∈ ys, ∃ st2, GT X.K m g (wipeS st (own.map (·.2))) (ι y) st2 ∧ BE X scope st2 elt (f y)) (h : HS X m (st.set i (some (.d (.list (ys.map f))))) rest E) (hc : X.calm = true := by rfl)
    (hy : X.N[i]? = some y := by rfl) (hyl : X.env.scope.names.lookup y = some .local := by rfl) (hsw : swapsWith (.ListComp elt [⟨tg, iter, [], 0⟩] scope lpos) (some (.Name y py)) pos.line X.env = pure true := by exact sw_true rfl rfl rfl (by decide +kernel))
    (hs : ∀ x, foldedSetIterable iter X.env x = pure x := by intro _; rfl) : HS X m st (.Assign [.Name y py] (.ListComp elt [⟨tg, iter, [], 0⟩] scope lpos) pos :: rest) E :=
  hs_setLc_core (p := fun _ => true) hc nd hi ok hg (fun _ _ _ _ _ => pts_nil) gw hz (fun m y hy => by
    obtain ⟨st2, h1, h2⟩ := hb m y hy
    exact ⟨st2, h1, fun H0 B H σ s l Q q => q B H (Nx.refl s), fun _ => h2⟩) hy hyl hsw (by rw [List.filter_eq_self.mpr fun _ _ => rfl]; exact h) hs
theorem hs_setLcIf {tg iter elt c : Expr} {scope : Scope} {own : List (Str × Nat)} {g : TG} {α : Type} {ys : List α} {ι f : α → D} {p : α → Bool} (i : Nat) {y : Str} {py lpos : Pos} (nd : X.N.Nodup) (hi : EI X st tg iter (ys.map ι)) (ok : BlkOk X.N X.env.scope scope own)
    (hg : ∀ (s : Shared) (H : Hp) (C : Addr) (cl : List (Str × Addr)) (fp : List Addr), PG (X.blk s H scope (compEnvC scope cl C X.env) fp) tg g) (gw : GW g (own.map (·.2))) (hz : ys.length ≤ 100000)
    (hb : ∀ m, ∀ y ∈ ys, ∃ st2, GT X.K m g (wipeS st (own.map (·.2))) (ι y) st2 ∧ BT X scope st2 c (p y) ∧ (p y = true → BE X scope st2 elt (f y))) (h : HS X m (st.set i (some (.d (.list ((ys.filter p).map f))))) rest E) (hc : X.calm = true := by rfl)
    (hy : X.N[i]? = some y := by rfl) (hyl : X.env.scope.names.lookup y = some .local := by rfl) (hsw : swapsWith (.ListComp elt [⟨tg, iter, [c], 0⟩] scope lpos) (some (.Name y py)) pos.line X.env = pure true := by exact sw_true rfl rfl rfl (by decide +kernel))
    (hs : ∀ x, foldedSetIterable iter X.env x = pure x := by intro _; rfl) : HS X m st (.Assign [.Name y py] (.ListComp elt [⟨tg, iter, [c], 0⟩] scope lpos) pos :: rest) E :=
  hs_setLc_core (tt := famT X scope c) hc nd hi ok hg (fun s H C cl fp => pts_one ⟨fun pins s' σ' H' Q I h => h s H C cl fp pins s' I⟩) gw hz (fun m y hy => by
    obtain ⟨st2, h1, h2, h3⟩ := hb m y hy
    exact ⟨st2, h1, fun H0 B H σ s l Q q s5 H5 C5 cl5 fp5 => h2 s5 H5 C5 cl5 fp5 m H0 B H σ s l Q q, h3⟩) hy hyl hsw h hs
end
end K45
set_option maxHeartbeats 4000000
/-! Defs and their contracts over data; further rules. -/
namespace K45
open PySem PySem.Spec PyProof.Rows L2
theorem hu64 {A : Around} {k : Nat} (hr : Room k A) : A.units + 64 < cLine := Nat.lt_of_le_of_lt (Nat.add_le_add_left (by decide : 64 ≤ 64) _) hr.units
section
variable {P : Program} {w : World} {K : PySem.W.Frag} {mg : Str → Option Value} {base : Heap}
/-- a def that may be called: with data in G's graph it gives that data -/
structure Cl (P : Program) (w : World) (K : PySem.W.Frag) (mg : Str → Option Value) (base : Heap) (k : Nat) (x : Str) (ps : List Str) (G : List D → D → Prop) : Prop where
  ex : ∃ f fd, FnOk P w K mg base CX0 k f fd ps (PP K G) ∧ mg x = some (.ref f) ∧ PySem.W.keepIn K (.ref f) = true ∧ Binds K fd ps []
/-- a def of the text -/
structure Df (K : PySem.W.Frag) (mg : Str → Option Value) (x : Str) (st : Stmt) (ps : List Str) : Prop where
  ex : ∃ f fd, Fun K x x st f fd ∧ mg x = some (.ref f) ∧ Binds K fd ps []
def st0 (N : List Str) (ds : List D) : Sto := (ds.map fun d => some (Sv.d d)) ++ List.replicate (N.length - ds.length) none
theorem sl_start {m : Option Addr} {H0 B H : Hp} : ∀ {N : List Str} {vs : List V} {ds : List D}, DqAll K B vs ds → Sl K m H0 B H (st0 N ds) (L2.start N vs) := fun {N vs ds} h => by
  have hl := h.len
  refine ⟨?_, fun i s e => ?_⟩
  · unfold st0 L2.start
    simp [hl]
  · unfold st0 at e
    unfold L2.start
    by_cases hi : i < ds.length
    · rw [List.getElem?_append_left (by rw [List.length_map]; exact hi), List.getElem?_map] at e
      cases q : ds[i]? with
      | none => rw [q] at e; cases e
      | some d =>
        rw [q] at e
        cases e
        obtain ⟨v, hv, dv⟩ := h.at_ q
        refine ⟨v, ?_, dv⟩
        rw [List.getElem?_append_left (by rw [List.length_map, hl]; exact hi), List.getElem?_map, hv]
        rfl
    · rw [List.getElem?_append_right (by rw [List.length_map]; omega), List.getElem?_replicate] at e
      split at e <;> cases e
abbrev cx (P : Program) (w : World) (K : PySem.W.Frag) (mg : Str → Option Value) (base : Heap) (N : List Str) (x : Str) (st : Stmt) (f : Addr) (cdv : Value) (A : Around) (outer : List Env) (s : Shared) (H : Hp) (E : XK) : Cx :=
  (cxOf CX0 P w K mg base N x (defScope st) f cdv A outer s H E).nox
theorem Df.ok {x : Str} {st : Stmt} {ps N : List Str} {k : Nat} {G : List D → D → Prop} (F : Df K mg x st ps) (S : FnScope N ps (defScope st)) (hl : ∀ ds d, G ds d → ds.length = ps.length)
    (hb : ∀ f cdv A outer s H E ds d, Room k (A.deeper (envOfC x (defScope st) s.heap.objs.size f cdv)) → G ds d →
      HS (cx P w K mg base N x st f cdv A outer s H E) none (st0 N ds) (defBody st) { nx := fun _ => d = .none, rt := fun d' => d' = d }) : Cl P w K mg base (k + 1) x ps G := by
  obtain ⟨f, fd, F, hm, hbn⟩ := F.ex
  refine ⟨f, fd, ?_, hm, F.kp, hbn⟩
  refine F.ok S (fun vs H Q E h => ?_) (fun cdv A outer s H vs Q E hr h => ?_)
  · obtain ⟨B, ds, d, _, ha, g, _⟩ := h
    rw [ha.len]
    exact hl ds d g
  · obtain ⟨B, ds, d, sm, ha, g, q⟩ := h
    refine ⟨fun E' σ' H' => WSs (cx P w K mg base N x st f cdv A outer s H E) (defBody st) E' σ' H', pssW, ?_⟩
    refine WSs.mono (hb f cdv A outer s H E ds d hr g B B H _ H ⟨B, Same.refl B, Nx.refl sm, (fun _ z => nomatch z), sl_start ha⟩) (fun σ' H' ⟨st', e, B', _, n, _, _⟩ => ?_) (fun v H' ⟨d', B', e, _, n, _, dv, _⟩ => ?_) (fun σ' H' ⟨st', e, _⟩ => (show False from e)) (fun σ' H' ⟨st', e, _⟩ => (show False from e))
    · have e : d = .none := e
      subst e
      exact q .non B' H' n .non
    · have e : d' = d := e
      subst e
      exact q v B' H' n dv
theorem Cl.imp {x : Str} {ps : List Str} {k : Nat} {G G' : List D → D → Prop} (c : Cl P w K mg base k x ps G) (h : ∀ ds d, G' ds d → G ds d) : Cl P w K mg base k x ps G' := by
  obtain ⟨f, fd, F, r⟩ := c.ex
  exact ⟨f, fd, F.imp fun vs H Q E ⟨B, ds, d, s, a, g, q⟩ => ⟨B, ds, d, s, a, h ds d g, q⟩, r⟩
theorem Cl.mono {x : Str} {ps : List Str} {j k : Nat} {G : List D → D → Prop} (c : Cl P w K mg base j x ps G) (h : j ≤ k) : Cl P w K mg base k x ps G := by
  obtain ⟨f, fd, F, r⟩ := c.ex
  exact ⟨f, fd, F.mono h, r⟩
end
section
variable {X : Cx} {st st1 st2 : Sto} {e e1 e2 e3 e4 : Expr} {es : List Expr} {a b c d : D} {ds : List D} {pos : Pos} {K : PySem.W.Frag} {m : Option Addr} {B H H0 B0 Bf B2 H2 : Hp} {σ : St}
theorem ed_cl {j k : Nat} {ps : List Str} {G : List D → D → Prop} {x : Str} {p : Pos} (c : Cl X.prog X.w X.K X.mg X.base j x ps G) (hr : Room k X.A) (ha : EDs X st (e :: es) ds) (hG : G ds d) (hj : j ≤ k := by decide) (hg : Gl X x := by rfl)
    (hdb : (x == ("__debug__" : Str)) = false := by decide) (he : starEach (e :: es) X.env = (false, eval e X.env) :: starEach es X.env := by rfl) (hpl : (backTo pos (starEach es X.env)).any (·.1) = false := by rfl) : ED X st (.Call (.Name x p) (e :: es) [] pos) d := by
  obtain ⟨f, fd, F, hm, hk, hb⟩ := c.ex
  exact ed_call F (hr.mono hj) hm hk hb ha hG hg hdb he hpl
theorem ite_b {k : Bool} {p q : Prop} (h1 : k = true → p) (h2 : k = false → q) : if k = true then p else q := by
  cases k with
  | true => exact h1 rfl
  | false => exact h2 rfl
/-- a < b < c < d -/
theorem ed_chain3 {i j k n : Int} (h1 : ED X st e1 (.int i)) (h2 : ED X st e2 (.int j)) (h3 : ED X st e3 (.int k)) (h4 : ED X st e4 (.int n)) (hm : lastMarks [.Lt, .Lt, .Lt] [e2, e3, e4] = false := by with_unfolding_all rfl) :
    ED X st (.Compare e1 [.Lt, .Lt, .Lt] [e2, e3, e4] pos) (.bool (decide (i < j) && (decide (j < k) && decide (k < n)))) := fun m H0 B H σ s l Q q pins s0 I => by
  refine Compare_chain (thn (h1.any s l (Q := fun v H1 => ∃ B1, v = .int i ∧ Nx none B H B1 H1) (fun v B1 H1 n1 d1 => ⟨B1, d1.int_inv, n1⟩) pins s0 I) fun v s1 ⟨x, H1, I1, r1, B1, ex, n1⟩ => ?_) hm
  subst ex
  obtain ⟨t1, rfl⟩ := r1
  refine chain_link (thn (h2.any n1.i (l.nx n1.any) (Q := fun v H2 => ∃ B2, v = .int j ∧ Nx none B H B2 H2) (fun v B2 H2 n2 d2 => ⟨B2, d2.int_inv, n1.trans n2⟩) pins s1 I1) fun v s2 ⟨x, H2, I2, r2, B2, ex, n2⟩ => ?_)
  subst ex
  obtain ⟨t2, rfl⟩ := r2
  refine lt_int (wpAny_truthy_bool (ite_b (fun hb => ?_) (fun hb => ?_)))
  · refine chain_link (thn (h3.any n2.i (l.nx n2.any) (Q := fun v H3 => ∃ B3, v = .int k ∧ Nx none B H B3 H3) (fun v B3 H3 n3 d3 => ⟨B3, d3.int_inv, n2.trans n3⟩) pins s2 I2) fun v s3 ⟨x, H3, I3, r3, B3, ex, n3⟩ => ?_)
    subst ex
    obtain ⟨t3, rfl⟩ := r3
    refine lt_int (wpAny_truthy_bool (ite_b (fun hb3 => ?_) (fun hb3 => ?_)))
    · refine chain_last (thn (h4.any n3.i (l.nx n3.any) (Q := fun v H4 => ∃ B4, v = .int n ∧ Nx none B H B4 H4) (fun v B4 H4 n4 d4 => ⟨B4, d4.int_inv, n3.trans n4⟩) pins s3 I3) fun v s4 ⟨x, H4, I4, r4, B4, ex, n4⟩ => ?_)
      subst ex
      obtain ⟨t4, rfl⟩ := r4
      refine lt_int ⟨.bl _, H4, I4, rfl, q _ B4 H4 n4 ?_⟩
      rw [hb, hb3, Bool.true_and, Bool.true_and]
      exact .bl _
    · refine ⟨.bl _, H3, I3, rfl, q _ B3 H3 n3 ?_⟩
      rw [hb3, hb, Bool.false_and, Bool.and_false]
      exact .bl _
  · refine ⟨.bl _, H2, I2, rfl, q _ B2 H2 n2 ?_⟩
    rw [hb, Bool.false_and]
    exact .bl _
end
end K45
set_option maxHeartbeats 4000000
/-! Further rules: lists, own lists, built-ins. -/
namespace K45
open PySem PySem.Spec PyProof.Rows L2
section
variable {X : Cx} {st st1 st2 : Sto} {e e1 e2 e3 e4 : Expr} {es : List Expr} {a b c d : D} {ds : List D} {pos : Pos} {K : PySem.W.Frag} {m : Option Addr} {B H H0 B0 Bf B2 H2 : Hp} {σ : St} {rest body : List Stmt} {E : EndD}
/-! ### weaker stores -/
inductive Wk : Sto → Sto → Prop
  | nil : Wk [] []
  | no {x : Option Sv} {a b : Sto} (h : Wk a b) : Wk (none :: a) (x :: b)
  | so {x : Option Sv} {a b : Sto} (h : Wk a b) : Wk (x :: a) (x :: b)
theorem Wk.len : ∀ {a b : Sto}, Wk a b → a.length = b.length
  | _, _, .nil => rfl
  | _, _, .no h => congrArg (· + 1) h.len
  | _, _, .so h => congrArg (· + 1) h.len
theorem Wk.at_ : ∀ {a b : Sto}, Wk a b → ∀ (i : Nat) (s : Sv), a[i]? = some (some s) → b[i]? = some (some s)
  | _, _, .nil, i, s, e => e
  | _, _, .no h, 0, s, e => by cases e
  | _, _, .no h, i + 1, s, e => h.at_ i s (by simpa using e)
  | _, _, .so h, 0, s, e => e
  | _, _, .so h, i + 1, s, e => h.at_ i s (by simpa using e)
theorem hs_end (h : E.nx st1) (w : Wk st1 st) : HS X m st [] E := (hs_nil h).weak w.len w.at_
theorem HS.wk (h : HS X m st1 body E) (w : Wk st1 st) : HS X m st body E := h.weak w.len w.at_
/-! ### tests of comparisons -/
theorem et_ltI {i j : Int} (h1 : ED X st e1 (.int i)) (h2 : ED X st e2 (.int j)) : ET X st (.Compare e1 [.Lt] [e2] pos) (decide (i < j)) := et_cmp op_lt (nomark _) h1 h2 (rd_I0 fun _ => .bl _)
theorem et_gtI {i j : Int} (h1 : ED X st e1 (.int i)) (h2 : ED X st e2 (.int j)) : ET X st (.Compare e1 [.Gt] [e2] pos) (decide (j < i)) := et_cmp op_gt (nomark _) h1 h2 (rd_I0 fun _ => .bl _)
theorem et_geI {i j : Int} (h1 : ED X st e1 (.int i)) (h2 : ED X st e2 (.int j)) : ET X st (.Compare e1 [.GtE] [e2] pos) (decide (j ≤ i)) := et_cmp op_ge (nomark _) h1 h2 (rd_I0 fun _ => .bl _)
theorem et_eqI {i j : Int} (h1 : ED X st e1 (.int i)) (h2 : ED X st e2 (.int j)) : ET X st (.Compare e1 [.Eq] [e2] pos) (decide (i = j)) :=
  (et_cmp op_eq (nomark _) h1 h2 (rd_eqS (fun _ _ h => h.int_inv) (fun _ _ h => h.int_inv) rfl)).is (by rw [v_int])
theorem et_neI {i j : Int} (h1 : ED X st e1 (.int i)) (h2 : ED X st e2 (.int j)) : ET X st (.Compare e1 [.NotEq] [e2] pos) (!decide (i = j)) :=
  (et_cmp op_ne (nomark _) h1 h2 (rd_neS (fun _ _ h => h.int_inv) (fun _ _ h => h.int_inv) rfl)).is (by rw [v_int])
theorem et_eqB {i j : Bool} (h1 : ED X st e1 (.bool i)) (h2 : ED X st e2 (.bool j)) : ET X st (.Compare e1 [.Eq] [e2] pos) (i == j) :=
  (et_cmp op_eq (nomark _) h1 h2 (rd_eqS (fun _ _ h => h.bl_inv) (fun _ _ h => h.bl_inv) rfl)).is (by rw [v_bl])
theorem et_neB {i j : Bool} (h1 : ED X st e1 (.bool i)) (h2 : ED X st e2 (.bool j)) : ET X st (.Compare e1 [.NotEq] [e2] pos) (!(i == j)) :=
  (et_cmp op_ne (nomark _) h1 h2 (rd_neS (fun _ _ h => h.bl_inv) (fun _ _ h => h.bl_inv) rfl)).is (by rw [v_bl])
theorem et_eqD (hu : X.A.units + 64 < cLine) (s1 : SeqAt.shaped a = true) (s2 : SeqAt.shaped b = true) (h1 : ED X st e1 a) (h2 : ED X st e2 b) : ET X st (.Compare e1 [.Eq] [e2] pos) (PyData.eqv a b) :=
  et_cmp (op_eqD hu) (nomark _) h1 h2 fun B H x y s hx hy Q q => ⟨a, b, Dq.dp _ _ (Dq.up s hx), Dq.dp _ _ (Dq.up s hy), s1, s2, q _ B H (Nx.refl s) (.bl _)⟩
theorem et_neD (hu : X.A.units + 64 < cLine) (s1 : SeqAt.shaped a = true) (s2 : SeqAt.shaped b = true) (h1 : ED X st e1 a) (h2 : ED X st e2 b) : ET X st (.Compare e1 [.NotEq] [e2] pos) (!PyData.eqv a b) :=
  et_cmp (op_neD hu) (nomark _) h1 h2 fun B H x y s hx hy Q q => ⟨a, b, Dq.dp _ _ (Dq.up s hx), Dq.dp _ _ (Dq.up s hy), s1, s2, q _ B H (Nx.refl s) (.bl _)⟩
theorem et_isB {i j : Bool} (h1 : ED X st e1 (.bool i)) (h2 : ED X st e2 (.bool j)) : ET X st (.Compare e1 [.IsNot] [e2] pos) (!decide (i = j)) :=
  et_cmp op_isnot_bl (nomark _) h1 h2 fun B H x y s hx hy Q q => ⟨i, j, hx.bl_inv, hy.bl_inv, q _ B H (Nx.refl s) (.bl _)⟩
/-! ### list + list -/
theorem ed_addL {xs ys : List D} (hl : xs.length + ys.length ≤ 100000) (h1 : ED X st e1 (.list xs)) (h2 : ED X st e2 (.list ys)) : ED X st (.BinOp e1 .Add e2 pos) (.list (xs ++ ys)) := ed_bin op_cat h1 h2 fun B H x y s hx hy Q q => by
  obtain ⟨p, us, rfl, t1, a1⟩ := hx.lst_inv
  obtain ⟨r, ws, rfl, t2, a2⟩ := hy.lst_inv
  exact ⟨p, r, us, ws, rfl, rfl, s _ _ t1, s _ _ t2, by rw [a1.len, a2.len]; exact small hl, fun t ht => q _ (upd B t (.lst (us ++ ws))) _ (Nx.new s ht) (.lst upd_same (DqAll.up (same_new (same_sub s ht)) (a1.app a2)))⟩
/-! ### min, max, any, all, tuple(list), ranges -/
theorem ed_min {i j : Int} {p : Pos} (hm : X.mg "min" = none) (h1 : ED X st e1 (.int i)) (h2 : ED X st e2 (.int j)) (hc : X.calm = true := by rfl) (hg : Gl X "min" := by rfl) (he1 : starEach [e1, e2] X.env = (false, eval e1 X.env) :: starEach [e2] X.env := by rfl)
    (he2 : starEach [e2] X.env = (false, eval e2 X.env) :: starEach [] X.env := by rfl) (hpl : (backTo pos (starEach [e2] X.env)).any (·.1) = false := by rfl) : ED X st (.Call (.Name "min" p) [e1, e2] [] pos) (.int (min i j)) :=
  (ed_callB (call_min2 hc) hm (by decide +kernel) (eds_cons h1 (eds_1 h2 he2) he1) (fun B H vs s ha Q q => by
    cases ha with
    | cons x t => cases t with | cons y t => cases t; cases x; cases y; exact ⟨i, j, rfl, q _ B H (Nx.refl s) (.int _)⟩) hg (he := he1) (hpl := hpl)).is (by
      congr 1
      by_cases h : j < i
      · rw [if_pos h]; omega
      · rw [if_neg h]; omega)
theorem ed_max {i j : Int} {p : Pos} (hm : X.mg "max" = none) (h1 : ED X st e1 (.int i)) (h2 : ED X st e2 (.int j)) (hc : X.calm = true := by rfl) (hg : Gl X "max" := by rfl) (he1 : starEach [e1, e2] X.env = (false, eval e1 X.env) :: starEach [e2] X.env := by rfl)
    (he2 : starEach [e2] X.env = (false, eval e2 X.env) :: starEach [] X.env := by rfl) (hpl : (backTo pos (starEach [e2] X.env)).any (·.1) = false := by rfl) : ED X st (.Call (.Name "max" p) [e1, e2] [] pos) (.int (max i j)) :=
  (ed_callB (call_max2 hc) hm (by decide +kernel) (eds_cons h1 (eds_1 h2 he2) he1) (fun B H vs s ha Q q => by
    cases ha with
    | cons x t => cases t with | cons y t => cases t; cases x; cases y; exact ⟨i, j, rfl, q _ B H (Nx.refl s) (.int _)⟩) hg (he := he1) (hpl := hpl)).is (by
      congr 1
      by_cases h : j > i
      · rw [if_pos h]; omega
      · rw [if_neg h]; omega)
theorem ed_any {bs : List Bool} {p : Pos} (hm : X.mg "any" = none) (h : ED X st e (.list (bs.map .bool))) (hc : X.calm = true := by rfl) (hg : Gl X "any" := by rfl) (he : starEach [e] X.env = (false, eval e X.env) :: starEach [] X.env := by rfl) :
    ED X st (.Call (.Name "any" p) [e] [] pos) (.bool (bs.any id)) := ed_callB (cr_any hc) hm (by decide +kernel) (eds_1 h he) (fun B H vs s ha Q q => by
    cases ha with
    | cons x t =>
      cases t
      obtain ⟨r, us, rfl, t1, a1⟩ := x.lst_inv
      rw [a1.bools_inv] at t1
      exact ⟨r, bs, rfl, SqL.of (s _ _ t1), q _ B H (Nx.refl s) (.bl _)⟩) hg (he := he) (hpl := by rfl)
theorem ed_all {bs : List Bool} {p : Pos} (hm : X.mg "all" = none) (h : ED X st e (.list (bs.map .bool))) (hc : X.calm = true := by rfl) (hg : Gl X "all" := by rfl) (he : starEach [e] X.env = (false, eval e X.env) :: starEach [] X.env := by rfl) :
    ED X st (.Call (.Name "all" p) [e] [] pos) (.bool (bs.all id)) := ed_callB (cr_all hc) hm (by decide +kernel) (eds_1 h he) (fun B H vs s ha Q q => by
    cases ha with
    | cons x t =>
      cases t
      obtain ⟨r, us, rfl, t1, a1⟩ := x.lst_inv
      rw [a1.bools_inv] at t1
      exact ⟨r, bs, rfl, SqL.of (s _ _ t1), q _ B H (Nx.refl s) (.bl _)⟩) hg (he := he) (hpl := by rfl)
theorem ed_tupOf {xs : List D} {p : Pos} (hm : X.mg "tuple" = none) (h : ED X st e (.list xs)) (hg : Gl X "tuple" := by rfl) (he : starEach [e] X.env = (false, eval e X.env) :: starEach [] X.env := by rfl) :
    ED X st (.Call (.Name "tuple" p) [e] [] pos) (.tuple xs) := fun m H0 B H σ s l Q q =>
  WE.of (pe_tupleOf hg hm peW he) (h.any s l fun v B1 H1 n1 d1 => by
    obtain ⟨r, us, rfl, t1, a1⟩ := d1.lst_inv
    exact .inl ⟨r, us, rfl, SqL.of (n1.i _ _ t1), fun t ht => q _ (upd B1 t (.tup us)) _ (n1.trans (Nx.new n1.i ht)) (.tup (SqT.of upd_same) (DqAll.up (same_new (same_sub n1.i ht)) a1))⟩)
theorem upD_rg (a b : Int) : DqAll K H (rgV a b) (upD a (b - a).toNat) := by
  unfold rgV upD
  generalize (List.range (b - a).toNat) = l
  induction l with
  | nil => exact .nil
  | cons x l ih => exact .cons (.int _) ih
theorem ed_tupRg {n : Int} {p p2 pos2 : Pos} (hm : X.mg "tuple" = none) (hm2 : X.mg "range" = none) (h : ED X st e (.int n)) (hn : 0 ≤ n ∧ n ≤ 1000) (hc : X.calm = true := by rfl) (hg : Gl X "tuple" := by rfl) (hg2 : Gl X "range" := by rfl)
    (he : starEach [e] X.env = (false, eval e X.env) :: starEach [] X.env := by rfl) (na : starEach [.Call (.Name "range" p2) [e] [] pos2] X.env = (false, eval (.Call (.Name "range" p2) [e] [] pos2) X.env) :: starEach [] X.env := by rfl) :
    ED X st (.Call (.Name "tuple" p) [.Call (.Name "range" p2) [e] [] pos2] [] pos) (.tuple (upD 0 n.toNat)) := fun m H0 B H σ s l Q q =>
  WE.of (pe_tupRg hc hg hm (prg_1 hg2 hm2 peW he) na) (h.any s l fun v B1 H1 n1 d1 => ⟨n, d1.int_inv, RgOk.of_le (Int.le_refl 0) (by omega) (by decide) hn.1, fun t ht => by
    have e0 : (n - 0).toNat = n.toNat := by omega
    refine q _ (upd B1 t (.tup (rgV 0 n))) _ (n1.trans (Nx.new n1.i ht)) ?_
    rw [← e0]
    exact .tup (SqT.of upd_same) (upD_rg 0 n)⟩)
/-! ### lists of the def's own -/
def noOwn : Sto → Bool
  | [] => true
  | some (.own _) :: _ => false
  | _ :: r => noOwn r
theorem noOwn_at : ∀ {st : Sto} {i : Nat} {xs : List D}, noOwn st = true → st[i]? ≠ some (some (.own xs))
  | [], i, xs, _, e => by simp at e
  | some (.own _) :: _, _, _, h, _ => by cases h
  | none :: r, 0, _, _, e => by cases e
  | some (.d _) :: r, 0, _, _, e => by cases e
  | some (.v _) :: r, 0, _, _, e => by cases e
  | some (.x _ _) :: r, 0, _, _, e => by cases e
  | none :: r, i + 1, xs, h, e => noOwn_at (st := r) (i := i) (xs := xs) h (by simpa using e)
  | some (.d _) :: r, i + 1, xs, h, e => noOwn_at (st := r) (i := i) (xs := xs) h (by simpa using e)
  | some (.v _) :: r, i + 1, xs, h, e => noOwn_at (st := r) (i := i) (xs := xs) h (by simpa using e)
  | some (.x _ _) :: r, i + 1, xs, h, e => noOwn_at (st := r) (i := i) (xs := xs) h (by simpa using e)
/-- the one own list is changed -/
theorem Sl.own_put {i : Nat} {xs ys : List D} {l : Addr} {ws : List V} (h : Sl K m H0 B H st σ) (hi : st[i]? = some (some (.own xs))) (hno : noOwn (st.set i none) = true) (hσ : σ[i]? = some (some (.ref l))) (h1 : some l ≠ m) (h0 : H0 l = none) (hb : B l = none)
    (ha : DqAll K B ws ys) : Sl K m H0 B (upd H l (.lst ws)) (st.set i (some (.own ys))) σ := by
  have hlt : i < st.length := (List.getElem?_eq_some_iff.mp hi).1
  refine ⟨by rw [List.length_set]; exact h.1, fun j s e => ?_⟩
  by_cases hj : i = j
  · subst hj
    rw [List.getElem?_set_self hlt] at e
    cases e
    exact ⟨_, hσ, l, ws, rfl, h1, h0, hb, upd_same, ha⟩
  · rw [List.getElem?_set_ne hj] at e
    obtain ⟨v, hv, ok⟩ := h.2 j s e
    refine ⟨v, hv, ?_⟩
    cases s with
    | d y => exact ok
    | v y => exact ok
    | x φ up => exact ok
    | own zs => exact absurd (by rw [List.getElem?_set_ne hj]; exact e) (noOwn_at (i := j) (xs := zs) hno)
theorem BagOk.put {l : Addr} {o : HO} (h : BagOk m B H) (h1 : some l ≠ m) : BagOk m B (upd H l o) := fun b e => by
  obtain ⟨h2, bs, h3⟩ := h b e
  refine ⟨h2, bs, ?_⟩
  rw [upd_ne fun z => h1 (by rw [← z, e])]
  exact h3
theorem hs_ownNil (i : Nat) {x : Str} {p' p2 : Pos} (nd : X.N.Nodup) (h : HS X m (st.set i (some (.own []))) rest E) (hi : X.N[i]? = some x := by rfl) (hx : Loc X.env.scope x := by first | exact Or.inl rfl | exact Or.inr rfl)
    (hs : swapsWith (.List [] p2) (some (.Name x p')) pos.line X.env = pure false := by rfl) (hf : X.fn x = true ∨ X.env.scope.names.lookup x = some .local := by first | exact .inl rfl | exact .inr rfl) : HS X m st (.Assign [.Name x p'] (.List [] p2) pos :: rest) E :=
  hs_cons fun Bf B0 H0 σ H o => by
    obtain ⟨B, sm, f, l, g, n, up⟩ := o.nx
    refine WS.of (ps_set nd hi hx (pe_lst pa_nil) hs hf) ⟨Nat.zero_le _, fun p hp => ?_⟩
    have hB : B p = none := same_sub sm hp
    have h0 : H0 p = none := by
      cases q : H0 p with
      | none => rfl
      | some o => exact absurd hp (n.k p (by rw [q]; exact fun z => nomatch z))
    have h1 : some p ≠ m := fun z => by
      obtain ⟨_, bs, e⟩ := g p z.symm
      rw [hp] at e; cases e
    have n1 : Nx m B0 H0 B (upd H p (.lst [])) := n.put (.inl h0) hB
    have l1 : Sl X.K m H0 B (upd H p (.lst [])) st σ := ⟨l.1, fun j s e => by
      obtain ⟨v, hv, ok⟩ := l.2 j s e
      refine ⟨v, hv, ?_⟩
      cases s with
      | d y => exact ok
      | v y => exact ok
      | x φ up => exact ok
      | own zs =>
        obtain ⟨k, vs, e1, e2, e3, e4, e5, e6⟩ := ok
        exact ⟨k, vs, e1, e2, e3, e4, (upd_ne (ne_of_none e5 hp)).trans e5, e6⟩⟩
    exact ⟨_, h, B, f, n1, g.put h1, l1.set i (s := .own []) ⟨p, [], rfl, h1, h0, hB, upd_same, .nil⟩⟩
theorem hs_append (i : Nat) {x : Str} {p1 p2 p3 : Pos} {xs : List D} (hi : st[i]? = some (some (.own xs)) := by rfl) (he : ED X st e d) (hz : xs.length < 100000) (h : HS X m (st.set i (some (.own (xs ++ [d])))) rest E) (hno : noOwn (st.set i none) = true := by rfl)
    (hN : X.N[i]? = some x := by rfl) (hv : Vis X.env.scope x := by first | exact Or.inl rfl | exact Or.inr (Or.inl rfl) | exact Or.inr (Or.inr rfl))
    (hd : (x == ("__debug__" : Str)) = false := by decide) (hcd : (x == ("__classdict__" : Str)) = false := by decide) (hs : swapsWith (.Call (.Attribute (.Name x p1) "append" p2) [e] [] p3) none pos.line X.env = pure false := by rfl)
    (he1 : starEach [e] X.env = (false, eval e X.env) :: starEach [] X.env := by rfl) (hpe : ∀ {t : TE} {ta : TA}, PE X (.Name x p1) t → PA X [e] ta → PE X (.Call (.Attribute (.Name x p1) "append" p2) [e] [] p3) (tBM X.K "list" rAppend t ta) := by
      intro t ta h1 h2; exact pe_bm PySem.F.plainAttrs_list PySem.F.slot_list_append PySem.F.type_list_append mt_append h1 h2) :
    HS X m st (.Expr (.Call (.Attribute (.Name x p1) "append" p2) [e] [] p3) pos :: rest) E :=
  hs_cons fun Bf B0 H0 σ H o => by
    obtain ⟨B, sm, f, l, g, n, up⟩ := o.nx
    obtain ⟨v, hv1, k, vs, rfl, q1, q2, q3, q4, q5⟩ := l.2 i _ hi
    refine WS.of (ps_expr (hpe (pe_var hN hv hd hcd) paW) hs) ⟨_, hv1, .inl ⟨rfl, _, SqL.of q4⟩, eds_1 he he1 m H0 B H σ sm l _ fun ws B1 H1 n1 d1 => ?_⟩
    cases d1 with
    | cons y t =>
      cases t
      rename_i y'
      have hk : H1 k = some (.lst vs) := n1.same _ _ q4
      have bk : B1 k = none := (n1.n k (by rw [q4]; exact fun z => nomatch z)).trans q3
      refine ⟨k, vs, y', rfl, rfl, hk, ?_, _, h, B1, f.trans n1.b, (n.trans n1.any).put (.inl q2) bk, (g.nx n1).put q1, (l.nx n1.any).own_put hi hno hv1 q1 q2 bk ((DqAll.up n1.b q5).app (.cons y .nil))⟩
      rw [q5.len]
      exact Nat.lt_of_lt_of_le hz (by decide)
theorem hs_retOwn (i : Nat) {x : Str} {p' : Pos} {xs : List D} (hi : st[i]? = some (some (.own xs)) := by rfl) (h : E.rt (.list xs)) (hN : X.N[i]? = some x := by rfl) (hv : Vis X.env.scope x := by first | exact Or.inl rfl | exact Or.inr (Or.inl rfl) | exact Or.inr (Or.inr rfl))
    (hd : (x == ("__debug__" : Str)) = false := by decide) (hcd : (x == ("__classdict__" : Str)) = false := by decide) : HS X m st (.Return (some (.Name x p')) pos :: rest) E :=
  hs_cons fun Bf B0 H0 σ H o => by
    obtain ⟨B, sm, f, l, g, n, up⟩ := o.nx
    obtain ⟨v, hv1, k, vs, rfl, q1, q2, q3, q4, q5⟩ := l.2 i _ hi
    refine WS.of (ps_ret (pe_var hN hv hd hcd)) ⟨_, hv1, .list xs, upd B k (.lst vs), h, f.trans (same_new q3), n.freeze q2 q3 q4, fun b e => ?_, .lst upd_same (DqAll.up (same_new q3) q5), fun _ => ⟨k, rfl, q2⟩⟩
    obtain ⟨g1, bs, g2⟩ := g b e
    exact ⟨by rw [upd_ne fun z => q1 (by rw [← z, e])]; exact g1, bs, g2⟩
end
/-! ### data: equality, shape -/
theorem eqv_ints : ∀ xs ys : List Int, PyData.eqvAll (xs.map .int) (ys.map .int) = decide (xs = ys)
  | [], [] => by simp [PyData.eqvAll]
  | [], y :: ys => by simp [PyData.eqvAll]
  | x :: xs, [] => by simp [PyData.eqvAll]
  | x :: xs, y :: ys => by
    rw [List.map_cons, List.map_cons]
    unfold PyData.eqvAll PyData.eqv
    rw [eqv_ints xs ys]
    by_cases h : x = y
    · subst h
      simp
    · simp [h]
theorem canInts : ∀ xs : List Int, PyData.canLayAll0 (xs.map .int) = true
  | [] => by simp [PyData.canLayAll0]
  | x :: xs => by simp [PyData.canLayAll0, PyData.canLay0, canInts xs]
theorem depthInts : ∀ xs : List Int, PyData.depthAll (xs.map .int) = 0
  | [] => by simp [PyData.depthAll]
  | x :: xs => by simp [PyData.depthAll, PyData.depth, depthInts xs]
def oD (o : List Int) : D := .tuple (o.map .int)
theorem canO : ∀ os : List (List Int), PyData.canLayAll0 (os.map oD) = true
  | [] => by simp [PyData.canLayAll0]
  | o :: os => by simp [PyData.canLayAll0, PyData.canLay0, oD, canInts o, canO os]
theorem depthO : ∀ os : List (List Int), PyData.depthAll (os.map oD) ≤ 1
  | [] => by simp [PyData.depthAll]
  | o :: os => by
    have h := depthO os
    simp [PyData.depthAll, PyData.depth, oD, depthInts o]
    omega
theorem shaped_t (xs : List Int) : SeqAt.shaped (.tuple (xs.map .int)) = true := by simp [SeqAt.shaped, PyData.canLay0, canInts, PyData.depth, depthInts]
theorem shaped_l (xs : List Int) : SeqAt.shaped (.list (xs.map .int)) = true := by simp [SeqAt.shaped, PyData.canLay0, canInts, PyData.depth, depthInts]
theorem shaped_lo (os : List (List Int)) : SeqAt.shaped (.list (os.map oD)) = true := by
  have h := depthO os
  simp [SeqAt.shaped, PyData.canLay0, canO, PyData.depth]
  omega
theorem eqv_nil (xs : List D) : PyData.eqv (.list xs) (.list []) = xs.isEmpty := by cases xs <;> simp [PyData.eqv, PyData.eqvAll]
theorem eqv_nilT (xs : List D) : PyData.eqv (.tuple xs) (.tuple []) = xs.isEmpty := by cases xs <;> simp [PyData.eqv, PyData.eqvAll]
theorem eqv_oD (x y : List Int) : PyData.eqv (oD x) (oD y) = decide (x = y) := by
  show PyData.eqv (.tuple _) (.tuple _) = _
  unfold PyData.eqv
  exact eqv_ints x y
theorem eqv_os : ∀ xs ys : List (List Int), PyData.eqvAll (xs.map oD) (ys.map oD) = decide (xs = ys)
  | [], [] => by simp [PyData.eqvAll]
  | [], y :: ys => by simp [PyData.eqvAll]
  | x :: xs, [] => by simp [PyData.eqvAll]
  | x :: xs, y :: ys => by
    rw [List.map_cons, List.map_cons]
    unfold PyData.eqvAll
    rw [eqv_oD, eqv_os xs ys]
    by_cases h : x = y
    · subst h
      simp
    · simp [h]
theorem eqv_los (xs ys : List (List Int)) : PyData.eqv (.list (xs.map oD)) (.list (ys.map oD)) = decide (xs = ys) := by
  unfold PyData.eqv
  exact eqv_os xs ys
/-! ### items and cuts of orders -/
theorem atO {o : List Int} {i : Nat} (h : i < o.length) : atI (o.map PyData.int) (i : Int) = some (.int (o.getD i 0)) := by
  refine atI_nat ?_
  rw [List.getElem?_map, List.getElem?_eq_getElem h, List.getD_eq_getElem?_getD, List.getElem?_eq_getElem h]
  rfl
theorem cut_take {α : Type} (f : α → D) (xs : List α) (i : Nat) : cutD (xs.map f) none (some (i : Int)) = (xs.take i).map f := by
  unfold cutD
  rw [HT.sIx_none, HT.sIx_nat, List.drop_zero, Nat.sub_zero, List.length_map, ← List.map_take]
  congr 1
  by_cases h : i ≤ xs.length
  · rw [Nat.min_eq_left h]
  · rw [Nat.min_eq_right (by omega), List.take_length, List.take_of_length_le (by omega)]
theorem cut_drop {α : Type} (f : α → D) (xs : List α) (i : Nat) : cutD (xs.map f) (some (i : Int)) none = (xs.drop i).map f := by
  unfold cutD
  rw [HT.sIx_none, HT.sIx_nat, List.length_map, ← List.map_drop, List.take_of_length_le (by rw [List.length_map, List.length_drop]; omega)]
  congr 1
  by_cases h : i ≤ xs.length
  · rw [Nat.min_eq_left h]
  · rw [Nat.min_eq_right (by omega), List.drop_length, List.drop_eq_nil_of_le (by omega)]
theorem cut_mid {α : Type} (f : α → D) (xs : List α) (i j : Nat) (h : i ≤ j) (hj : j ≤ xs.length) : cutD (xs.map f) (some (i : Int)) (some (j : Int)) = ((xs.drop i).take (j - i)).map f := by
  unfold cutD
  rw [HT.sIx_nat, HT.sIx_nat, List.length_map, Nat.min_eq_left hj, Nat.min_eq_left (by omega), ← List.map_drop, ← List.map_take]
end K45
set_option maxHeartbeats 4000000
/-! The text: each def by its place, its names by slots. -/
namespace K45
open PySem PySem.Spec PyProof.Rows L2
def topS (i : Nat) : Stmt := PySem.Challenge.pw_wiredorders_k45_whole_smooth_orders_and.main.body.getD i (.Pass ⟨0, 0, 0, 0⟩)
abbrev s_is_whole : Stmt := topS 10
abbrev N_is_whole : List Str := ["value", "low", "high"]
theorem sc_is_whole : FnScope N_is_whole ["value", "low", "high"] (defScope s_is_whole) := ⟨rfl, rfl, rfl, by decide +kernel, rfl, by decide +kernel, by decide +kernel⟩
abbrev s_fits_order : Stmt := topS 11
abbrev N_fits_order : List Str := ["value", "thing"]
theorem sc_fits_order : FnScope N_fits_order ["value"] (defScope s_fits_order) := ⟨rfl, rfl, rfl, by decide +kernel, rfl, by decide +kernel, by decide +kernel⟩
abbrev s_opposite_of : Stmt := topS 12
abbrev N_opposite_of : List Str := ["order", "places", "place", "thing"]
theorem sc_opposite_of : FnScope N_opposite_of ["order"] (defScope s_opposite_of) := ⟨rfl, rfl, rfl, by decide +kernel, rfl, by decide +kernel, by decide +kernel⟩
abbrev s_need_order : Stmt := topS 13
abbrev N_need_order : List Str := ["value"]
theorem sc_need_order : FnScope N_need_order ["value"] (defScope s_need_order) := ⟨rfl, rfl, rfl, by decide +kernel, rfl, by decide +kernel, by decide +kernel⟩
abbrev s_need_many : Stmt := topS 14
abbrev N_need_many : List Str := ["value"]
theorem sc_need_many : FnScope N_need_many ["value"] (defScope s_need_many) := ⟨rfl, rfl, rfl, by decide +kernel, rfl, by decide +kernel, by decide +kernel⟩
abbrev s_need_few : Stmt := topS 15
abbrev N_need_few : List Str := ["many", "limit"]
theorem sc_need_few : FnScope N_need_few ["many", "limit"] (defScope s_need_few) := ⟨rfl, rfl, rfl, by decide +kernel, rfl, by decide +kernel, by decide +kernel⟩
abbrev s_last_order : Stmt := topS 16
abbrev N_last_order : List Str := ["many"]
theorem sc_last_order : FnScope N_last_order ["many"] (defScope s_last_order) := ⟨rfl, rfl, rfl, by decide +kernel, rfl, by decide +kernel, by decide +kernel⟩
abbrev s_opposite : Stmt := topS 17
abbrev N_opposite : List Str := ["order"]
theorem sc_opposite : FnScope N_opposite ["order"] (defScope s_opposite) := ⟨rfl, rfl, rfl, by decide +kernel, rfl, by decide +kernel, by decide +kernel⟩
abbrev s_turned_about : Stmt := topS 18
abbrev N_turned_about : List Str := ["order"]
theorem sc_turned_about : FnScope N_turned_about ["order"] (defScope s_turned_about) := ⟨rfl, rfl, rfl, by decide +kernel, rfl, by decide +kernel, by decide +kernel⟩
abbrev s_turned_over : Stmt := topS 19
abbrev N_turned_over : List Str := ["order", "thing"]
theorem sc_turned_over : FnScope N_turned_over ["order"] (defScope s_turned_over) := ⟨rfl, rfl, rfl, by decide +kernel, rfl, by decide +kernel, by decide +kernel⟩
abbrev s_pairs_of : Stmt := topS 21
abbrev N_pairs_of : List Str := ["order", "found", "place", "thing", "other"]
theorem sc_pairs_of : FnScope N_pairs_of ["order"] (defScope s_pairs_of) := ⟨rfl, rfl, rfl, by decide +kernel, rfl, by decide +kernel, by decide +kernel⟩
abbrev s_size_by : Stmt := topS 22
abbrev N_size_by : List Str := ["order"]
theorem sc_size_by : FnScope N_size_by ["order"] (defScope s_size_by) := ⟨rfl, rfl, rfl, by decide +kernel, rfl, by decide +kernel, by decide +kernel⟩
abbrev s_size_of : Stmt := topS 23
abbrev N_size_of : List Str := ["order"]
theorem sc_size_of : FnScope N_size_of ["order"] (defScope s_size_of) := ⟨rfl, rfl, rfl, by decide +kernel, rfl, by decide +kernel, by decide +kernel⟩
abbrev s_changed_places : Stmt := topS 25
abbrev N_changed_places : List Str := ["order", "first", "second"]
theorem sc_changed_places : FnScope N_changed_places ["order", "first", "second"] (defScope s_changed_places) := ⟨rfl, rfl, rfl, by decide +kernel, rfl, by decide +kernel, by decide +kernel⟩
abbrev s_bare_pairs : Stmt := topS 26
abbrev N_bare_pairs : List Str := ["order", "up", "found", "first", "second", "low", "high", "between", "thing"]
theorem sc_bare_pairs : FnScope N_bare_pairs ["order", "up"] (defScope s_bare_pairs) := ⟨rfl, rfl, rfl, by decide +kernel, rfl, by decide +kernel, by decide +kernel⟩
abbrev s_steps_from : Stmt := topS 27
abbrev N_steps_from : List Str := ["order", "up", "first", "second"]
theorem sc_steps_from : FnScope N_steps_from ["order", "up"] (defScope s_steps_from) := ⟨rfl, rfl, rfl, by decide +kernel, rfl, by decide +kernel, by decide +kernel⟩
abbrev s_strong_drops : Stmt := topS 28
abbrev N_strong_drops : List Str := ["order"]
theorem sc_strong_drops : FnScope N_strong_drops ["order"] (defScope s_strong_drops) := ⟨rfl, rfl, rfl, by decide +kernel, rfl, by decide +kernel, by decide +kernel⟩
abbrev s_is_rough : Stmt := topS 31
abbrev N_is_rough : List Str := ["four", "a", "b", "c", "d"]
theorem sc_is_rough : FnScope N_is_rough ["four"] (defScope s_is_rough) := ⟨rfl, rfl, rfl, by decide +kernel, rfl, by decide +kernel, by decide +kernel⟩
abbrev s_fours_of : Stmt := topS 32
abbrev N_fours_of : List Str := ["order", "found", "thing", "some"]
theorem sc_fours_of : FnScope N_fours_of ["order"] (defScope s_fours_of) := ⟨rfl, rfl, rfl, by decide +kernel, rfl, by decide +kernel, by decide +kernel⟩
abbrev s_below_by_size : Stmt := topS 33
abbrev N_below_by_size : List Str := ["order", "found", "line", "later", "here"]
theorem sc_below_by_size : FnScope N_below_by_size ["order"] (defScope s_below_by_size) := ⟨rfl, rfl, rfl, by decide +kernel, rfl, by decide +kernel, by decide +kernel⟩
abbrev s_is_smooth : Stmt := topS 34
abbrev N_is_smooth : List Str := ["order", "four"]
theorem sc_is_smooth : FnScope N_is_smooth ["order"] (defScope s_is_smooth) := ⟨rfl, rfl, rfl, by decide +kernel, rfl, by decide +kernel, by decide +kernel⟩
abbrev s_sizes_below : Stmt := topS 35
abbrev N_sizes_below : List Str := ["order"]
theorem sc_sizes_below : FnScope N_sizes_below ["order"] (defScope s_sizes_below) := ⟨rfl, rfl, rfl, by decide +kernel, rfl, by decide +kernel, by decide +kernel⟩
abbrev s_beside : Stmt := topS 37
abbrev N_beside : List Str := ["one", "other", "thing"]
theorem sc_beside : FnScope N_beside ["one", "other"] (defScope s_beside) := ⟨rfl, rfl, rfl, by decide +kernel, rfl, by decide +kernel, by decide +kernel⟩
abbrev s_side_by_side : Stmt := topS 38
abbrev N_side_by_side : List Str := ["one", "other"]
theorem sc_side_by_side : FnScope N_side_by_side ["one", "other"] (defScope s_side_by_side) := ⟨rfl, rfl, rfl, by decide +kernel, rfl, by decide +kernel, by decide +kernel⟩
abbrev s_l_cell : Stmt := topS 40
abbrev N_l_cell : List Str := ["_law_script", "_law_k"]
theorem sc_l_cell : FnScope N_l_cell ["_law_script", "_law_k"] (defScope s_l_cell) := ⟨rfl, rfl, rfl, by decide +kernel, rfl, by decide +kernel, by decide +kernel⟩
abbrev s_l_draws : Stmt := topS 41
abbrev N_l_draws : List Str := ["_law_script", "_law_k", "_law_many", "_law_base", "_law_primes", "_law_cell_here", "_law_rest", "_law_row", "_law_j", "_law_mash"]
theorem sc_l_draws : FnScope N_l_draws ["_law_script", "_law_k", "_law_many", "_law_base"] (defScope s_l_draws) := ⟨rfl, rfl, rfl, by decide +kernel, rfl, by decide +kernel, by decide +kernel⟩
abbrev s_l_bag : Stmt := topS 42
abbrev N_l_bag : List Str := ["_law_script", "_law_k"]
theorem sc_l_bag : FnScope N_l_bag ["_law_script", "_law_k"] (defScope s_l_bag) := ⟨rfl, rfl, rfl, by decide +kernel, rfl, by decide +kernel, by decide +kernel⟩
abbrev s_l_take : Stmt := topS 43
abbrev N_l_take : List Str := ["_law_bag_here", "_law_many", "_law_draw"]
theorem sc_l_take : FnScope N_l_take ["_law_bag_here", "_law_many"] (defScope s_l_take) := ⟨rfl, rfl, rfl, by decide +kernel, rfl, by decide +kernel, by decide +kernel⟩
abbrev s_l_choice : Stmt := topS 44
abbrev N_l_choice : List Str := ["_law_bag_here", "_law_some"]
theorem sc_l_choice : FnScope N_l_choice ["_law_bag_here", "_law_some"] (defScope s_l_choice) := ⟨rfl, rfl, rfl, by decide +kernel, rfl, by decide +kernel, by decide +kernel⟩
abbrev s_l_order : Stmt := topS 45
abbrev N_l_order : List Str := ["_law_bag_here", "_law_many", "_law_left", "_law_found"]
theorem sc_l_order : FnScope N_l_order ["_law_bag_here", "_law_many"] (defScope s_l_order) := ⟨rfl, rfl, rfl, by decide +kernel, rfl, by decide +kernel, by decide +kernel⟩
abbrev s_l_near : Stmt := topS 46
abbrev N_l_near : List Str := ["_law_bag_here", "_law_order_here", "_law_steps", "_law_turn"]
theorem sc_l_near : FnScope N_l_near ["_law_bag_here", "_law_order_here", "_law_steps"] (defScope s_l_near) := ⟨rfl, rfl, rfl, by decide +kernel, rfl, by decide +kernel, by decide +kernel⟩
abbrev s_l_swap : Stmt := topS 47
abbrev N_l_swap : List Str := ["_law_order_here", "_law_place"]
theorem sc_l_swap : FnScope N_l_swap ["_law_order_here", "_law_place"] (defScope s_l_swap) := ⟨rfl, rfl, rfl, by decide +kernel, rfl, by decide +kernel, by decide +kernel⟩
abbrev s_l_pairs : Stmt := topS 48
abbrev N_l_pairs : List Str := ["_law_order_here", "_law_found", "_law_place", "_law_thing", "_law_other"]
theorem sc_l_pairs : FnScope N_l_pairs ["_law_order_here"] (defScope s_l_pairs) := ⟨rfl, rfl, rfl, by decide +kernel, rfl, by decide +kernel, by decide +kernel⟩
abbrev s_l_changed : Stmt := topS 49
abbrev N_l_changed : List Str := ["_law_order_here", "_law_first", "_law_second", "_law_row"]
theorem sc_l_changed : FnScope N_l_changed ["_law_order_here", "_law_first", "_law_second"] (defScope s_l_changed) := ⟨rfl, rfl, rfl, by decide +kernel, rfl, by decide +kernel, by decide +kernel⟩
abbrev s_l_ups : Stmt := topS 50
abbrev N_l_ups : List Str := ["_law_order_here", "_law_found", "_law_size", "_law_first", "_law_second", "_law_there"]
theorem sc_l_ups : FnScope N_l_ups ["_law_order_here"] (defScope s_l_ups) := ⟨rfl, rfl, rfl, by decide +kernel, rfl, by decide +kernel, by decide +kernel⟩
abbrev s_l_plain : Stmt := topS 51
abbrev N_l_plain : List Str := ["_law_many"]
theorem sc_l_plain : FnScope N_l_plain ["_law_many"] (defScope s_l_plain) := ⟨rfl, rfl, rfl, by decide +kernel, rfl, by decide +kernel, by decide +kernel⟩
abbrev s_l_named_error : Stmt := topS 52
abbrev N_l_named_error : List Str := ["_law_e", "_law_some", "_law_label", "_law_good"]
theorem sc_l_named_error : FnScope N_l_named_error ["_law_e"] (defScope s_l_named_error) := ⟨rfl, rfl, rfl, by decide +kernel, rfl, by decide +kernel, by decide +kernel⟩
abbrev s_l_error : Stmt := topS 53
abbrev N_l_error : List Str := ["_law_call", "_law_e"]
theorem sc_l_error : FnScope N_l_error ["_law_call"] (defScope s_l_error) := ⟨rfl, rfl, rfl, by decide +kernel, rfl, by decide +kernel, by decide +kernel⟩
abbrev s_l_truly : Stmt := topS 54
abbrev N_l_truly : List Str := ["_law_found", "_law_due"]
theorem sc_l_truly : FnScope N_l_truly ["_law_found", "_law_due"] (defScope s_l_truly) := ⟨rfl, rfl, rfl, by decide +kernel, rfl, by decide +kernel, by decide +kernel⟩
abbrev s_l_all_refused : Stmt := topS 55
abbrev N_l_all_refused : List Str := ["_law_call", "_law_odds", "_law_name", "_law_odd"]
theorem sc_l_all_refused : FnScope N_l_all_refused ["_law_call", "_law_odds", "_law_name"] (defScope s_l_all_refused) := ⟨rfl, rfl, rfl, by decide +kernel, rfl, by decide +kernel, by decide +kernel⟩
abbrev s_l_bad_orders : Stmt := topS 56
abbrev N_l_bad_orders : List Str := ["_law_some"]
theorem sc_l_bad_orders : FnScope N_l_bad_orders [] (defScope s_l_bad_orders) := ⟨rfl, rfl, rfl, by decide +kernel, rfl, by decide +kernel, by decide +kernel⟩
abbrev s_l_is_rough : Stmt := topS 57
abbrev N_l_is_rough : List Str := ["_law_order_here", "_law_many", "_law_a", "_law_b", "_law_c", "_law_d", "_law_some", "_law_thing"]
theorem sc_l_is_rough : FnScope N_l_is_rough ["_law_order_here"] (defScope s_l_is_rough) := ⟨rfl, rfl, rfl, by decide +kernel, rfl, by decide +kernel, by decide +kernel⟩
abbrev s_l_sizes : Stmt := topS 58
abbrev N_l_sizes : List Str := ["_law_order_here", "_law_found", "_law_line", "_law_later", "_law_here", "_law_some"]
theorem sc_l_sizes : FnScope N_l_sizes ["_law_order_here"] (defScope s_l_sizes) := ⟨rfl, rfl, rfl, by decide +kernel, rfl, by decide +kernel, by decide +kernel⟩
abbrev s_l_small_right : Stmt := topS 59
abbrev N_l_small_right : List Str := ["_law_order_here", "_law_told"]
theorem sc_l_small_right : FnScope N_l_small_right ["_law_order_here"] (defScope s_l_small_right) := ⟨rfl, rfl, rfl, by decide +kernel, rfl, by decide +kernel, by decide +kernel⟩
abbrev s_l_great_right : Stmt := topS 60
abbrev N_l_great_right : List Str := ["_law_bag_here", "_law_order_here", "_law_told", "_law_small"]
theorem sc_l_great_right : FnScope N_l_great_right ["_law_bag_here", "_law_order_here"] (defScope s_l_great_right) := ⟨rfl, rfl, rfl, by decide +kernel, rfl, by decide +kernel, by decide +kernel⟩
abbrev s_law : Stmt := topS 61
abbrev N_law : List Str := ["_law_script", "_law_bag_here", "_law_order_here", "_law_great", "_law_call", "_law_told", "_law_some"]
theorem sc_law : FnScope N_law ["_law_script"] (defScope s_law) := ⟨rfl, rfl, rfl, by decide +kernel, rfl, by decide +kernel, by decide +kernel⟩
end K45
set_option maxHeartbeats 4000000
/-! Orders as data. -/
namespace K45
open PySem PySem.Spec PyProof.Rows L2
structure Fr (mg : Str → Option Value) : Prop where
  len : mg "len" = none
  range : mg "range" = none
  tuple : mg "tuple" = none
  list : mg "list" = none
  set : mg "set" = none
  dict : mg "dict" = none
  sorted : mg "sorted" = none
  min : mg "min" = none
  max : mg "max" = none
  any : mg "any" = none
  all : mg "all" = none
  isinstance : mg "isinstance" = none
  int : mg "int" = none
  bool : mg "bool" = none
  enumerate : mg "enumerate" = none
  zip : mg "zip" = none
  ve : mg "ValueError" = none
  sup : mg "super" = none
  things : ∃ t, mg "THINGS" = some (.int 30 t)
  few : ∃ t, mg "FEW_THINGS" = some (.int 6 t)
section
variable {X : Cx} {st st1 st2 : Sto} {e e1 e2 e3 e4 : Expr} {es : List Expr} {pos p p2 : Pos} {o u : List Int}
theorem ed_addO (hl : o.length + u.length ≤ 100000) (h1 : ED X st e1 (oD o)) (h2 : ED X st e2 (oD u)) : ED X st (.BinOp e1 .Add e2 pos) (oD (o ++ u)) :=
  (ed_addT (by rw [List.length_map, List.length_map]; exact hl) h1 h2).is (by unfold oD; rw [List.map_append])
theorem ed_takeO {i : Int} {k : Nat} (h : ED X st e (oD o)) (h1 : ED X st e1 (.int i)) (hi : i = (k : Int)) : ED X st (.Subscript e (.Slice none (some e1) none p2) pos) (oD (o.take k)) :=
  (ed_slT h (lo := none) (i := none) True.intro (hi := some e1) (j := some i) h1).is (by rw [hi, cut_take]; rfl)
theorem ed_dropO {i : Int} {k : Nat} (h : ED X st e (oD o)) (h1 : ED X st e1 (.int i)) (hi : i = (k : Int)) : ED X st (.Subscript e (.Slice (some e1) none none p2) pos) (oD (o.drop k)) :=
  (ed_slT h (lo := some e1) (i := some i) h1 (hi := none) (j := none) True.intro).is (by rw [hi, cut_drop]; rfl)
theorem ed_midO {i j : Int} {k n : Nat} (h : ED X st e (oD o)) (h1 : ED X st e1 (.int i)) (h2 : ED X st e2 (.int j)) (hi : i = (k : Int)) (hj : j = (n : Int)) (hk : k ≤ n) (hn : n ≤ o.length) : ED X st (.Subscript e (.Slice (some e1) (some e2) none p2) pos) (oD ((o.drop k).take (n - k))) :=
  (ed_slT h (lo := some e1) (i := some i) h1 (hi := some e2) (j := some j) h2).is (by rw [hi, hj, cut_mid _ _ _ _ hk hn]; rfl)
theorem ed_tup1 {x : Int} {k} (h : ED X st e (.int x)) (he : starEach [e] X.env = (false, eval e X.env) :: starEach [] X.env := by rfl) : ED X st (.Tuple [e] k pos) (oD [x]) := ed_tup (eds_1 h he) (show 1 ≤ 100000 by decide)
theorem ed_tup2 {x y : Int} {k} (h1 : ED X st e1 (.int x)) (h2 : ED X st e2 (.int y)) (he : starEach [e1, e2] X.env = (false, eval e1 X.env) :: starEach [e2] X.env := by rfl) (he2 : starEach [e2] X.env = (false, eval e2 X.env) :: starEach [] X.env := by rfl) : ED X st (.Tuple [e1, e2] k pos) (oD [x, y]) :=
  ed_tup (eds_cons h1 (eds_1 h2 he2) he) (show 2 ≤ 100000 by decide)
theorem ed_atO {i : Int} {k : Nat} (h1 : ED X st e1 (oD o)) (h2 : ED X st e2 (.int i)) (hi : i = (k : Int)) (hk : k < o.length) (hs : PlainIx e2 := by exact fun _ _ => rfl) : ED X st (.Subscript e1 e2 pos) (.int (o.getD k 0)) :=
  ed_ixT h1 h2 (by rw [hi]; exact atO hk) hs
theorem ed_lenO (hm : X.mg "len" = none) (h : ED X st e (oD o)) (hg : Gl X "len" := by rfl) (he : starEach [e] X.env = (false, eval e X.env) :: starEach [] X.env := by rfl) : ED X st (.Call (.Name "len" p) [e] [] pos) (.int (o.length : Int)) :=
  (ed_lenT hm h hg he).is (by rw [List.length_map])
end
end K45
set_option maxHeartbeats 4000000
/-! Sorted lists of tuples. -/
namespace K45
open PySem PySem.Spec PyProof.Rows L2
abbrev cd : List Int → Int := TS.code 64
abbrev Bd : List Int → Prop := TS.Bd 64
/-- tuples of d ints below 64 -/
def Al (d : Nat) (os : List (List Int)) : Prop := ∀ o ∈ os, o.length = d ∧ Bd o
theorem cd_inj : ∀ {a b : List Int}, a.length = b.length → Bd a → Bd b → cd a = cd b → a = b
  | [], [], _, _, _, _ => rfl
  | [], _ :: _, h, _, _, _ => by cases h
  | _ :: _, [], h, _, _, _ => by cases h
  | x :: a, y :: b, h, ha, hb, e => by
    have hl : a.length = b.length := Nat.succ.inj h
    have e0 : x = y := by
      by_cases h1 : x < y
      · exact absurd e (Int.ne_of_lt (TS.code_lt hl ha.tail hb.tail h1))
      · by_cases h2 : y < x
        · exact absurd e.symm (Int.ne_of_lt (TS.code_lt hl.symm hb.tail ha.tail h2))
        · omega
    subst e0
    have e1 : cd a = cd b := by
      have h1 := TS.code_same (B := 64) (d := x) hl
      have h2 := TS.code_same (B := 64) (d := x) hl.symm
      have n1 : ¬ cd a < cd b := fun z => by
        have := h1.mpr z
        exact absurd e (Int.ne_of_lt this)
      have n2 : ¬ cd b < cd a := fun z => by
        have := h2.mpr z
        exact absurd e.symm (Int.ne_of_lt this)
      omega
    rw [cd_inj hl ha.tail hb.tail e1]
/-! ### the sort -/
def insS (x : List Int) : List (List Int) → List (List Int)
  | [] => [x]
  | y :: r => if cd x ≤ cd y then x :: y :: r else y :: insS x r
def isrt (l : List (List Int)) : List (List Int) := l.foldr insS []
theorem insS_perm (x : List Int) : ∀ l, (insS x l).Perm (x :: l)
  | [] => List.Perm.refl _
  | y :: r => by
    unfold insS
    split
    · exact List.Perm.refl _
    · exact ((insS_perm x r).cons y).trans (List.Perm.swap x y r)
theorem isrt_perm : ∀ l, (isrt l).Perm l
  | [] => List.Perm.refl _
  | x :: l => (insS_perm x (isrt l)).trans ((isrt_perm l).cons x)
theorem insS_sorted (x : List Int) : ∀ l, l.Pairwise (fun a b => cd a ≤ cd b) → (insS x l).Pairwise (fun a b => cd a ≤ cd b)
  | [], _ => List.pairwise_singleton _ _
  | y :: r, h => by
    unfold insS
    obtain ⟨h1, h2⟩ := List.pairwise_cons.mp h
    split
    · rename_i hc
      refine List.pairwise_cons.mpr ⟨fun z hz => ?_, h⟩
      rcases List.mem_cons.mp hz with rfl | hz
      · exact hc
      · exact Int.le_trans hc (h1 z hz)
    · rename_i hc
      refine List.pairwise_cons.mpr ⟨fun z hz => ?_, insS_sorted x r h2⟩
      rcases List.mem_cons.mp ((insS_perm x r).mem_iff.mp hz) with rfl | hz
      · omega
      · exact h1 z hz
theorem isrt_sorted : ∀ l, (isrt l).Pairwise (fun a b => cd a ≤ cd b)
  | [] => List.Pairwise.nil
  | x :: l => insS_sorted x _ (isrt_sorted l)
theorem Al.perm {d : Nat} {a b : List (List Int)} (h : Al d a) (p : b.Perm a) : Al d b := fun o ho => h o (p.mem_iff.mp ho)
theorem isrt_one {d : Nat} {a l : List (List Int)} (h : Al d l) (p : a.Perm l) (s : a.Pairwise (fun a b => cd a ≤ cd b)) : a = isrt l :=
  (p.trans (isrt_perm l).symm).eq_of_pairwise (fun x y hx hy h1 h2 => by
    have ax := h x (p.mem_iff.mp hx)
    have ay := h y ((isrt_perm l).mem_iff.mp hy)
    exact cd_inj (ax.1.trans ay.1.symm) ax.2 ay.2 (Int.le_antisymm h1 h2)) s (isrt_sorted l)
/-! ### the sort of a set -/
def insU (x : List Int) : List (List Int) → List (List Int)
  | [] => [x]
  | y :: r => if cd x < cd y then x :: y :: r else if cd x = cd y then y :: r else y :: insU x r
def dd (l : List (List Int)) : List (List Int) := l.foldr insU []
theorem insU_mem {d : Nat} {x z : List Int} : ∀ {l}, Al d (x :: l) → (z ∈ insU x l ↔ z = x ∨ z ∈ l)
  | [], _ => by simp [insU]
  | y :: r, h => by
    unfold insU
    split
    · simp
    · split
      · rename_i _ hc
        have hx := h x List.mem_cons_self
        have hy := h y (List.mem_cons_of_mem _ List.mem_cons_self)
        have e := cd_inj (hx.1.trans hy.1.symm) hx.2 hy.2 hc
        subst e
        simp
      · have ih := insU_mem (d := d) (x := x) (z := z) (l := r) fun o ho => by
          rcases List.mem_cons.mp ho with rfl | ho
          · exact h _ List.mem_cons_self
          · exact h o (List.mem_cons_of_mem _ (List.mem_cons_of_mem _ ho))
        rw [List.mem_cons, ih, List.mem_cons]
        constructor <;> (intro q; rcases q with q | q | q <;> simp [q])
theorem dd_mem {d : Nat} {z : List Int} : ∀ {l}, Al d l → (z ∈ dd l ↔ z ∈ l)
  | [], _ => Iff.rfl
  | x :: l, h => by
    have hl : Al d l := fun o ho => h o (List.mem_cons_of_mem _ ho)
    have ih : ∀ z, z ∈ dd l ↔ z ∈ l := fun z => dd_mem hl
    have h2 : Al d (x :: dd l) := fun o ho => by
      rcases List.mem_cons.mp ho with rfl | ho
      · exact h _ List.mem_cons_self
      · exact hl o ((ih o).mp ho)
    show z ∈ insU x (dd l) ↔ _
    rw [insU_mem h2, ih, List.mem_cons]
theorem insU_sorted (x : List Int) : ∀ l, l.Pairwise (fun a b => cd a < cd b) → (insU x l).Pairwise (fun a b => cd a < cd b) ∧ ∀ z ∈ insU x l, z = x ∨ z ∈ l
  | [], _ => ⟨List.pairwise_singleton _ _, fun z hz => .inl (List.mem_singleton.mp hz)⟩
  | y :: r, h => by
    unfold insU
    obtain ⟨h1, h2⟩ := List.pairwise_cons.mp h
    split
    · rename_i hc
      refine ⟨List.pairwise_cons.mpr ⟨fun z hz => ?_, h⟩, fun z hz => by simpa using hz⟩
      rcases List.mem_cons.mp hz with rfl | hz
      · exact hc
      · exact Int.lt_trans hc (h1 z hz)
    · split
      · exact ⟨h, fun z hz => .inr hz⟩
      · rename_i hc hc2
        obtain ⟨i1, i2⟩ := insU_sorted x r h2
        refine ⟨List.pairwise_cons.mpr ⟨fun z hz => ?_, i1⟩, fun z hz => ?_⟩
        · rcases i2 z hz with rfl | hz
          · omega
          · exact h1 z hz
        · rcases List.mem_cons.mp hz with rfl | hz
          · exact .inr List.mem_cons_self
          · rcases i2 z hz with rfl | hz
            · exact .inl rfl
            · exact .inr (List.mem_cons_of_mem _ hz)
theorem dd_sorted : ∀ l, (dd l).Pairwise (fun a b => cd a < cd b)
  | [] => List.Pairwise.nil
  | x :: l => (insU_sorted x _ (dd_sorted l)).1
theorem strict_one : ∀ {a b : List (List Int)}, a.Pairwise (fun a b => cd a < cd b) → b.Pairwise (fun a b => cd a < cd b) → (∀ z, z ∈ a ↔ z ∈ b) → a = b
  | [], [], _, _, _ => rfl
  | [], y :: b, _, _, h => by have := (h y).mpr List.mem_cons_self; cases this
  | x :: a, [], _, _, h => by have := (h x).mp List.mem_cons_self; cases this
  | x :: a, y :: b, ha, hb, h => by
    obtain ⟨a1, a2⟩ := List.pairwise_cons.mp ha
    obtain ⟨b1, b2⟩ := List.pairwise_cons.mp hb
    have e : x = y := by
      rcases List.mem_cons.mp ((h x).mp List.mem_cons_self) with e | hx
      · exact e
      · rcases List.mem_cons.mp ((h y).mpr List.mem_cons_self) with e | hy
        · exact e.symm
        · have q1 := b1 x hx
          have q2 := a1 y hy
          omega
    subst e
    rw [strict_one a2 b2 fun z => ?_]
    constructor
    · intro hz
      rcases List.mem_cons.mp ((h z).mp (List.mem_cons_of_mem _ hz)) with e | q
      · subst e
        have := a1 z hz
        omega
      · exact q
    · intro hz
      rcases List.mem_cons.mp ((h z).mpr (List.mem_cons_of_mem _ hz)) with e | q
      · subst e
        have := b1 z hz
        omega
      · exact q
theorem dd_one {d : Nat} {a l : List (List Int)} (h : Al d l) (hm : ∀ z, z ∈ a ↔ z ∈ l) (s : a.Pairwise (fun a b => cd a < cd b)) : a = dd l :=
  strict_one s (dd_sorted l) fun z => (hm z).trans (dd_mem h).symm
/-! ### sorted(list of tuples) -/
section
variable {K : PySem.W.Frag} {B H : Hp}
theorem DqAll.perm {xs ys : List V} (p : ys.Perm xs) : ∀ {ds : List D}, DqAll K B xs ds → ∃ es : List D, es.Perm ds ∧ DqAll K B ys es := by
  induction p with
  | nil => intro ds h; exact ⟨ds, List.Perm.refl _, h⟩
  | cons x _ ih =>
    intro ds h
    cases h with
    | cons h1 h2 =>
      obtain ⟨es, p, q⟩ := ih h2
      exact ⟨_, p.cons _, .cons h1 q⟩
  | swap x y l =>
    intro ds h
    cases h with
    | cons h1 h2 =>
      cases h2 with
      | cons h3 h4 => exact ⟨_, List.Perm.swap _ _ _, .cons h3 (.cons h1 h4)⟩
  | trans _ _ ih1 ih2 =>
    intro ds h
    obtain ⟨es, p, q⟩ := ih2 h
    obtain ⟨fs, p2, q2⟩ := ih1 q
    exact ⟨fs, p2.trans p, q2⟩
theorem perm_map_inv {α β : Type} {f : α → β} {l : List α} {m : List β} (p : m.Perm (l.map f)) : ∃ l' : List α, l'.Perm l ∧ m = l'.map f := by
  generalize hm : l.map f = r at p
  induction p generalizing l with
  | nil => exact ⟨l, List.Perm.refl _, hm.symm⟩
  | cons x _ ih =>
    cases l with
    | nil => cases hm
    | cons a l =>
      injection hm with h1 h2
      obtain ⟨l', p', e⟩ := ih h2
      exact ⟨a :: l', p'.cons a, by rw [List.map_cons, h1, e]⟩
  | swap x y t =>
    match l, hm with
    | [], hm => cases hm
    | [a], hm => injection hm with _ h; cases h
    | a :: b :: l, hm =>
      injection hm with h1 h2
      injection h2 with h2 h3
      exact ⟨b :: a :: l, List.Perm.swap _ _ _, by rw [List.map_cons, List.map_cons, h1, h2, h3]⟩
  | trans _ _ ih1 ih2 =>
    obtain ⟨l1, p1, e1⟩ := ih2 hm
    obtain ⟨l2, p2, e2⟩ := ih1 e1.symm
    exact ⟨l2, p2.trans p1, e2⟩
theorem DqAll.tup_at {xs : List V} : ∀ {os : List (List Int)}, DqAll K B xs (os.map oD) → Same B H → ∀ x ∈ xs, ∃ o ∈ os, TupI K H x o
  | [], h, _, x, hx => by cases h; cases hx
  | o :: os, h, s, x, hx => by
    cases h with
    | cons h1 h2 =>
      rcases List.mem_cons.mp hx with rfl | hx
      · obtain ⟨t, us, rfl, ht, ha⟩ := h1.tup_inv
        rw [ha.ints_inv] at ht
        exact ⟨o, List.mem_cons_self, t, rfl, sqT_mono s ht⟩
      · obtain ⟨o', m, q⟩ := DqAll.tup_at h2 s x hx
        exact ⟨o', List.mem_cons_of_mem _ m, q⟩
theorem DqAll.tup_of {xs : List V} : ∀ {os : List (List Int)}, DqAll K B xs (os.map oD) → Same B H → ∀ o ∈ os, ∃ x ∈ xs, TupI K H x o
  | [], h, _, o, ho => by cases ho
  | o :: os, h, s, o', ho => by
    cases h with
    | cons h1 h2 =>
      rcases List.mem_cons.mp ho with rfl | ho
      · obtain ⟨t, us, rfl, ht, ha⟩ := h1.tup_inv
        rw [ha.ints_inv] at ht
        exact ⟨_, List.mem_cons_self, t, rfl, sqT_mono s ht⟩
      · obtain ⟨x, m, q⟩ := DqAll.tup_of h2 s o' ho
        exact ⟨x, List.mem_cons_of_mem _ m, q⟩
theorem DqAll.tup_pair {xs : List V} {R : List Int → List Int → Prop} : ∀ {os : List (List Int)}, DqAll K B xs (os.map oD) → Same B H → xs.Pairwise (fun x y => ∀ n m, TupI K H x n → TupI K H y m → R n m) → os.Pairwise R
  | [], h, _, _ => List.Pairwise.nil
  | o :: os, h, s, p => by
    cases h with
    | cons h1 h2 =>
      obtain ⟨p1, p2⟩ := List.pairwise_cons.mp p
      refine List.pairwise_cons.mpr ⟨fun o' ho => ?_, DqAll.tup_pair h2 s p2⟩
      obtain ⟨x, hx, tx⟩ := DqAll.tup_of h2 s o' ho
      obtain ⟨t, us, rfl, ht, ha⟩ := h1.tup_inv
      rw [ha.ints_inv] at ht
      exact p1 x hx _ _ ⟨t, rfl, sqT_mono s ht⟩ tx
end
section
variable {X : Cx} {st : Sto} {e : Expr} {pos p : Pos}
theorem ed_sortedO {os : List (List Int)} {d : Nat} (hm : X.mg "sorted" = none) (h : ED X st e (.list (os.map oD))) (hd : 1 ≤ d) (ha : Al d os) (hl : os.length < 64) (hg : Gl X "sorted" := by rfl) (he : starEach [e] X.env = (false, eval e X.env) :: starEach [] X.env := by rfl) :
    ED X st (.Call (.Name "sorted" p) [e] [] pos) (.list ((isrt os).map oD)) := ed_callB (cr_sortT (d := d) (B := 64) hd) hm (by decide +kernel) (eds_1 h he) (fun B H vs s hv Q q => by
    cases hv with
    | cons x t =>
      cases t
      obtain ⟨r, us, rfl, t1, a1⟩ := x.lst_inv
      refine ⟨r, us, rfl, SqL.of (s _ _ t1), by rw [a1.len, List.length_map]; exact hl, fun x hx => ?_, fun ys p hp hs hn => ?_⟩
      · obtain ⟨o, ho, q⟩ := a1.tup_at s x hx
        exact ⟨o, q, ha o ho⟩
      · obtain ⟨es, pe, de⟩ := DqAll.perm hp a1
        obtain ⟨os', po, rfl⟩ := perm_map_inv pe
        have e1 : os' = isrt os := isrt_one ha po (de.tup_pair s hs)
        rw [e1] at de
        exact q _ (upd B p (.lst ys)) _ (Nx.new s hn) (.lst upd_same (DqAll.up (same_new (same_sub s hn)) de))) hg (he := he) (hpl := by rfl)
end
end K45
set_option maxHeartbeats 4000000
/-! isinstance of data. -/
namespace K45
open PySem PySem.Spec PyProof.Rows L2
def tyD : D → String
  | .none => "NoneType"
  | .bool _ => "bool"
  | .int _ => "int"
  | .str _ => "str"
  | .list _ => "list"
  | .tuple _ => "tuple"
  | .dict _ => "dict"
theorem kit_bi : kitB "bool" "int" = some true := by decide +kernel
theorem kit_bb : kitB "bool" "bool" = some true := by decide +kernel
theorem kit_ii : kitB "int" "int" = some true := by decide +kernel
theorem kit_ib : kitB "int" "bool" = some false := by decide +kernel
theorem bt_int : bootBuiltins "int" = some (.type "int") := by decide +kernel
theorem bt_bool : bootBuiltins "bool" = some (.type "bool") := by decide +kernel
theorem bt_tuple : bootBuiltins "tuple" = some (.type "tuple") := by decide +kernel
section
variable {X : Cx} {st : Sto} {e : Expr} {d : D} {pos p p2 : Pos} {K : PySem.W.Frag} {H : Hp} {v : V}
theorem tyx_of (h : Dq K H v d) : TyX K H v (.type (tyD d)) := by
  cases h with
  | non => exact .base .non
  | bl b => exact .base (.bl b)
  | int i => exact .base (.int i)
  | str x => exact .base (.str x)
  | lst h k => exact .base (.lst h)
  | tup h k =>
    rcases h with (h | ⟨o, h⟩) | ⟨o, its, n, h, c, _⟩
    · exact .base (.tup h)
    · exact .fTuple h
    · exact .kTuple h c
theorem ed_isinst {tn : Str} {T : String} {b : Bool} (hm : X.mg "isinstance" = none) (hmt : X.mg tn = none) (hv : bootBuiltins tn = some (.type T)) (hk : kitB (tyD d) T = some b) (h : ED X st e d) (hg : Gl X "isinstance" := by rfl) (hgt : Gl X tn := by rfl) (hn : tn ≠ "__name__" := by decide)
    (hdb : (tn == ("__debug__" : Str)) = false := by decide) (he : starEach [e, .Name tn p2] X.env = (false, eval e X.env) :: starEach [.Name tn p2] X.env := by rfl) (he2 : starEach [.Name tn p2] X.env = (false, eval (.Name tn p2) X.env) :: starEach [] X.env := by rfl)
    (hpl : (backTo pos (starEach [.Name tn p2] X.env)).any (·.1) = false := by rfl) : ED X st (.Call (.Name "isinstance" p) [e, .Name tn p2] [] pos) (.bool b) := fun m H0 B H σ s l Q q =>
  WE.of (pe_callB call_isi hg hm (by decide +kernel) (pa_cons peW (pa_cons (pe_bltn (v := .ty T) hgt hmt hv rfl hn hdb) pa_nil he2) he) (he := he) (hpl := hpl)) (h.any s l fun x B1 H1 n1 d1 => ⟨x, .ty T, .type (tyD d), .type T, b, rfl, .ty T, tyx_of (Dq.up n1.i d1), kit_ty hk, q _ B1 H1 n1 (.bl b)⟩)
end
end K45
set_option maxHeartbeats 4000000
/-! Tuples turned about; enumerate of a tuple; len(set(tuple)). -/
namespace K45
open PySem PySem.Spec PyProof.Rows L2
/-! ### t[::-1] -/
section
variable {prog : Program} {w : World} {A : Around} {E : Value → Shared → Prop} {s : Shared}
theorem fmap_same {α β : Type} {f g : α → Option β} : ∀ {l : List α}, (∀ k ∈ l, f k = g k) → l.filterMap f = l.filterMap g
  | [], _ => rfl
  | a :: l, h => by
    rw [List.filterMap_cons, List.filterMap_cons, h a List.mem_cons_self, fmap_same fun k hk => h k (List.mem_cons_of_mem _ hk)]
theorem revPick (items : Array Value) : ((List.range items.size).filterMap fun (k : Nat) => items[(((items.size : Int) - 1) + (k : Int) * (-1)).toNat]?).toArray = items.toList.reverse.toArray := by
  congr 1
  have e1 : (List.range items.size).filterMap (fun (k : Nat) => items[(((items.size : Int) - 1) + (k : Int) * (-1)).toNat]?) = ((List.range items.size).map fun k => items.size - 1 - k).filterMap (items[·]?) := by
    rw [List.filterMap_map]
    refine fmap_same fun k hk => ?_
    have hk' := List.mem_range.mp hk
    have e : (((items.size : Int) - 1) + (k : Int) * (-1)).toNat = items.size - 1 - k := by omega
    show items[_]? = items[_]?
    rw [e]
  rw [e1, PySem.W.krv_range, List.filterMap_reverse, PySem.W.krv_all]
theorem backPlaces (n : Nat) : Builtin.Slice.slicePlaces ((n : Int) - 1) (-1) (-1) = n := by
  unfold Builtin.Slice.slicePlaces
  have h1 : ¬ ((-1 : Int) > 0) := by decide
  rw [if_neg h1]
  by_cases h : (n : Int) - 1 > -1
  · rw [if_pos h, show (- -1 : Int) = 1 by decide, Int.ediv_one]
    omega
  · rw [if_neg h]
    omega
theorem tupleBack {t sl : Addr} {items : Array Value} {u : Tok} {Q : Value → Shared → Prop} (ht : IsTup s.heap t items) (hs : s.heap.IsSliceOf sl .none .none (.int (-1) u))
    (h : Q (.ref s.heap.objs.size) { s with heap := s.heap.push { cls := .type "tuple", data := .seq items.toList.reverse.toArray } }) (hsz : items.size ≤ sizeLine) : wpAny (model prog w) A (getItem (.ref t) (.ref sl)) Q E s := by
  have hok : sizeOk (.seq items.toList.reverse.toArray) := by
    show items.toList.reverse.toArray.size ≤ sizeLine
    rw [List.size_toArray, List.length_reverse, Array.length_toList]; exact hsz
  obtain ⟨os, hos, hcs, hds⟩ := id hs
  have hTs : s.TypeIs (.ref sl) "slice" := ⟨os, hos, hcs⟩
  unfold getItem
  try with_reducible refine wpAny_holding ?_
  first | refine wpAny_bind (wpAny_pure ?_) | skip
  refine wpAny_bind (wpAny_sequenceKey ht.typeIs (by decide) ?_)
  refine wpAny_bind (wpAny_callSpecial?_slot (name := Str.ofString "__getitem__") ht.typeIs PyProof.Rows.slot_tuple_getitem (wpAny_call_entry PyProof.Rows.slot_tuple_getitem ht.typeIs entry_tuple_getitem ?_ (args_tuple_getitem _ _)))
  show wpAny _ _ (Builtin.Tuple.tupleItemsOf (.ref t) >>= _) _ _ s
  refine wpAny_bind (tupleItemsOf_ ht (wpAny_bind (wpAny_typeOf hTs ?_)))
  rw [if_pos (by decide)]
  refine wpAny_bind ?_
  unfold Builtin.Slice.sliceApplied Builtin.Slice.sliceFields
  refine wpAny_bind (wpAny_bind (wpAny_field hos hds (x := .none) rfl (wpAny_bind (wpAny_field hos hds (x := .none) rfl (wpAny_bind (wpAny_field hos hds (x := .int (-1) u) rfl (wpAny_pure ?_)))))))
  refine wpAny_bind (HT.slicePart_ (.int (-1) u) ?_)
  show wpAny _ _ (if ((-1 : Int) == 0) = true then _ else _) _ _ s
  rw [if_neg (by decide)]
  refine wpAny_bind (HT.slicePart_ .none (wpAny_bind (HT.slicePart_ .none (wpAny_bind (wpAny_pure ?_)))))
  show wpAny _ _ (pure (((items.size : Int) - 1), (-1 : Int), Builtin.Slice.slicePlaces ((items.size : Int) - 1) (-1) (-1))) _ _ s
  rw [backPlaces]
  refine wpAny_pure ?_
  have hno : ¬ ((((items.size : Int) - 1) == 0 && (-1 : Int) == 1 && items.size == items.size) = true) := by simp
  show wpAny _ _ (if (((items.size : Int) - 1) == 0 && (-1 : Int) == 1 && items.size == items.size) = true then _ else _) _ _ s
  rw [if_neg hno, revPick]
  first
    | exact wpAny_bind (m := Builtin.Tuple.tupleExact _) (wpAny_newObj_type (wpAny_pure ⟨_, rfl, wpAny_pure h⟩) hok)
    | exact wpAny_bind (m := Builtin.Tuple.tupleExact _) (wpAny_newObj_type (wpAny_bind (wpAny_pure (wpAny_pure ⟨_, rfl, wpAny_pure h⟩))) hok)
    | exact wpAny_bind (wpAny_bind (m := Builtin.Tuple.tupleExact _) (wpAny_newObj_type (wpAny_pure (wpAny_pure ⟨_, rfl, wpAny_pure h⟩)) hok))
end
section
variable {X : Cx} {st : Sto} {e : Expr} {es : List Expr} {d : D} {ds : List D} {pos p p2 p3 : Pos} {K : PySem.W.Frag}
def tBack (K : PySem.W.Frag) (te : TE) : TE := fun σ H Q => te σ H fun x H1 => ∃ a xs, x = .ref a ∧ SqT K H1 a xs ∧ ∀ p, H1 p = none → Q (.ref p) (upd H1 p (.tup xs.reverse))
theorem pe_back {te : TE} {k : Nat} {q1 q2 q3 : Pos} (he : PE X e te) : PE X (.Subscript e (.Slice none none (some (.UnaryOp .USub (.Constant (.int 1) k q1) q2)) q3) pos) (tBack X.K te) := by
  refine ⟨fun pins s σ H Q I h => ?_⟩
  refine Subscript_ (thn (he.run pins s σ H _ I h) fun v s1 ⟨x, H1, I1, r1, a, xs, ex, hx, q⟩ => ?_)
  subst ex
  cases r1
  have hst : PO X (some (.UnaryOp .USub (.Constant (.int 1) k q1) q2)) (tPart (tUn (rU fun i => .int (-i)) (tC (.int 1)))) := po_some (pe_un un_neg pe_int)
  refine wpAny_Slice (thn (po_none.run pins s1 σ H1 (fun o H2 => o = none ∧ H2 = H1) I1 ⟨rfl, rfl⟩) fun vl s2 ⟨l, H2, I2, pl, el, e2⟩ => ?_)
  subst el e2
  refine thn (po_none.run pins s2 σ H2 (fun o H3 => o = none ∧ H3 = H2) I2 ⟨rfl, rfl⟩) fun vu s3 ⟨u, H3, I3, pu, eu, e3⟩ => ?_
  subst eu e3
  refine thn (hst.run pins s3 σ H3 (fun o H4 => o = some (-1) ∧ H4 = H3) I3 ⟨1, rfl, -1, rfl, rfl, rfl⟩) fun vs s4 ⟨o, H4, I4, ps, eo, e4⟩ => ?_
  subst eo e4
  cases pl
  cases pu
  cases ps with
  | int i t =>
    have I5 : Inv X pins σ H4 { s4 with heap := s4.heap.push { cls := .type "slice", data := .fields #[.none, .none, .int (-1) t] } } := I4.kept (t' := s4.toks) fun b ob q => Heap.get?_push_of_some _ q
    obtain ⟨its, r, ht, hz⟩ := I5.tuple hx
    have hlen := r.length
    show wpAny (model X.prog X.w) X.A (subscriptTail e (.Slice none none (some (.UnaryOp .USub (.Constant (.int 1) k q1) q2)) q3) (.ref a) (.ref s4.heap.objs.size)) (EP X pins σ Q) X.xe { s4 with heap := s4.heap.push { cls := .type "slice", data := .fields #[.none, .none, .int (-1) t] } }
    refine tail_any (ops := [.ref a, .ref s4.heap.objs.size]) ht.typeIs (PyProof.Rows.slot_tuple_getitem.lookup) ?_ (by with_unfolding_all rfl)
    refine tupleBack ht (Heap.IsSliceOf.new _ .none .none (.int (-1) t)) ?_ (by rw [List.size_toArray]; omega)
    refine ⟨.ref _, _, I5.laid (t' := s4.toks) (o := .tup xs.reverse) (fun b ob q => Heap.get?_push_of_some _ q) (Nat.le_refl _) ?_, rfl, q _ (I5.hok.fresh (Nat.le_refl _))⟩
    exact ⟨by rw [List.length_reverse]; exact hz, _, r.reverse, IsTup.new _ _⟩
theorem ed_back {xs : List D} {k : Nat} {q1 q2 q3 : Pos} (h : ED X st e (.tuple xs)) : ED X st (.Subscript e (.Slice none none (some (.UnaryOp .USub (.Constant (.int 1) k q1) q2)) q3) pos) (.tuple xs.reverse) := fun m H0 B H σ s l Q q =>
  WE.of (pe_back peW) (h.any s l fun v B1 H1 n1 d1 => by
    obtain ⟨a, us, rfl, t1, a1⟩ := d1.tup_inv
    exact ⟨a, us, rfl, sqT_mono n1.i t1, fun t ht => q _ (upd B1 t (.tup us.reverse)) _ (n1.trans (Nx.new n1.i ht)) (.tup (SqT.of upd_same) (DqAll.up (same_new (same_sub n1.i ht)) a1.rev))⟩)
/-! ### enumerate(t) -/
def Itu (K : PySem.W.Frag) (a : Addr) : It :=
  ⟨fun i H => ∃ (xs : List V) (x : V), SqT K H a xs ∧ xs[i]? = some x, fun i H v H' => ∃ T x, v = .ref T ∧ H T = none ∧ H' = upd H T (.tup [.int (i : Nat), x]) ∧ ∀ xs, SqT K H a xs → xs[i]? = some x, fun i H => ∃ xs : List V, SqT K H a xs ∧ xs.length = i⟩
theorem iter_ne {h : Heap} {it a : Addr} {i : Nat} {its : Array Value} (x : h.IsTupleIter it a i) (y : IsTup h a its) : a ≠ it := fun z => by
  obtain ⟨o, ho, hc, hd⟩ := x
  obtain ⟨o', ho', hc', _⟩ := y
  rw [z, ho] at ho'
  cases ho'
  rw [hc] at hc'
  exact absurd (Value.type.inj hc') (by decide)
theorem turn_enumT {P : Program} {w : World} {elts : List Expr} {kk : Nat} {tpos : Pos} (a e it : Addr) :
    Turn P w K (.Tuple elts kk tpos) (Itu K a) [e, it] e (fun i h => (∃ old, IsEnum h e it ((i : Nat) : Int) old) ∧ h.IsTupleIter it a i ∧ e ≠ it) where
  mem := by simp
  obj := fun i h st b hb => by
    obtain ⟨⟨old, he⟩, ⟨o, ho, hc, hd⟩, _⟩ := st
    have e' : b = e ∨ b = it := by simpa using hb
    rcases e' with z | z
    · subst z
      exact ⟨_, he, fun v q => nomatch q⟩
    · exact ⟨o, z ▸ ho, fun v q => by rw [hd] at q; cases q⟩
  keep := fun i h h' st k => by
    obtain ⟨⟨old, he⟩, hi, hne⟩ := st
    exact ⟨⟨old, k e (by simp) _ he⟩, hi.at fun o q => k it (by simp) o q, hne⟩
  item := by
    intro X hP hw hK hc i pins s σ H E I hf st hg
    subst hP hw hK
    obtain ⟨⟨old, he⟩, hit, hne⟩ := st
    obtain ⟨xs, x, hq, hx⟩ := hg
    obtain ⟨its, rv, p, hz⟩ := I.tuple hq
    obtain ⟨u, hu, ru⟩ := rv.get hx
    have hel : e < s.heap.objs.size := Heap.lt_size he
    have hil : it < s.heap.objs.size := by obtain ⟨_, q, _⟩ := hit; exact Heap.lt_size q
    have hai : a ≠ it := iter_ne hit p
    have hea : e ∉ [it, a] := fun z => by
      rcases List.mem_cons.mp z with z | z
      · exact hne z
      · have z := List.mem_singleton.mp z
        obtain ⟨o', ho', hc', _⟩ := p
        have he2 : s.heap.get? e = _ := he
        rw [z, ho'] at he2
        cases he2
        exact absurd (Value.type.inj hc') (by decide)
    have hin : i < its.toArray.size := by
      rw [List.size_toArray, ← rv.length]
      exact (List.getElem?_eq_some_iff.mp hx).1
    refine wpAny_pyNext_enum_itemD (Draws.tuple (A := X.A.in1) (I.ok.hd hc) it a hai its.toArray) he ⟨hit, p⟩ hin hne hea fun x' h' tk hx' ho hst' hT hsz hk => ?_
    have eu : x' = u := by
      have h1 : its.toArray[i]? = some x' := hx'
      have h2 : its.toArray[i]? = some u := by simpa using hu
      exact Option.some.inj (h1.symm.trans h2)
    subst eu
    refine ⟨_, rfl, wpAny_letOwnedTupleGo_enum (s := { s with heap := h', toks := tk + 1 }) ho fun h'' he' sb => ?_⟩
    have hT2 : h''.get? s.heap.objs.size = some { cls := .type "tuple", data := .seq #[.int i tk, x'] } := (sb.2 _ (Nat.ne_of_gt hel)).trans hT
    have new : ObjOk X.prog X.w (upd H s.heap.objs.size (.tup [.int (i : Nat), x])) h'' s.heap.objs.size (.tup [.int (i : Nat), x]) :=
      ⟨by show 2 ≤ sizeLine; decide, [.int i tk, x'], .cons ⟨_, rfl⟩ (.cons ru .nil), ⟨_, hT2, rfl, _, rfl⟩⟩
    have I1 : Inv X pins σ (upd H s.heap.objs.size (.tup [.int (i : Nat), x])) { s with heap := h'', toks := tk + 1 } :=
      I.turnedNew (ch := [e, it]) (fun b ob hb q => (sb.2 b (fun z => hb (by simp [z]))).trans (hk b ob (fun z => hb (by simp [z])) (fun z => hb (by simp [z])) q)) hf (Nat.le_refl _) new
    refine ⟨.ref s.heap.objs.size, _, I1, rfl, ⟨_, x, rfl, I.hok.fresh (Nat.le_refl _), rfl, fun ys hy => by rw [I.tuple_inj hy hq]; exact hx⟩, ⟨⟨x', ?_⟩, hst'.1.at fun o q => (sb.2 it (Ne.symm hne)).trans q, hne⟩, fun b hb => ?_⟩
    · rw [show ((i + 1 : Nat) : Int) = (i : Int) + 1 by omega]
      exact he'
    · have hb' : b < s.heap.objs.size := by
        have e' : b = e ∨ b = it := by simpa using hb
        rcases e' with z | z
        · exact z ▸ hel
        · exact z ▸ hil
      exact (upd_ne (Nat.ne_of_lt hb')).trans (hf b hb).1
  done := by
    intro X hP hw hK hc i pins s σ H E I hf st hg
    subst hP hw hK
    obtain ⟨⟨old, he⟩, hit, hne⟩ := st
    obtain ⟨xs, hq, hx⟩ := hg
    obtain ⟨its, rv, p, hz⟩ := I.tuple hq
    obtain ⟨f0, f1, f2, f3, f4, f5⟩ := hf it (by simp)
    have hl := rv.length
    have hai : a ≠ it := iter_ne hit p
    have hi : i = its.toArray.size := by rw [List.size_toArray]; omega
    subst hi
    exact wpAny_pyNext_enum_endD (Draws.tuple (A := X.A.in1) (I.ok.hd hc) it a hai its.toArray) he ⟨hit, p⟩ fun h' eb => ⟨rfl, I.turned (t' := s.toks) (fun b o hb q => eb b o hb q) f0 f1 f3 f4 f5⟩
  self := fun A i s Q E st h => let ⟨⟨_, he⟩, _⟩ := st; wpAny_pyIter_enum he h
def iEnumT (K : PySem.W.Frag) (ta : TA) : TI := fun σ H R => ta σ H fun vs H1 => ∃ a xs, vs = [.ref a] ∧ SqT K H1 a xs ∧ R (Itu K a) H1
theorem callEnumT {prog : Program} {w : World} {A : Around} {E : Value → Shared → Prop} {s : Shared} {t : Addr} {items : Array Value} {Q : Value → Shared → Prop} (ht : s.heap.IsTuple t items)
    (h : ∀ h', IsEnum h' (s.heap.objs.size + 1) s.heap.objs.size 0 .none → h'.IsTupleIter s.heap.objs.size t 0 → (∀ b o, s.heap.get? b = some o → h'.get? b = some o) → Q (.ref (s.heap.objs.size + 1)) { s with heap := h' }) :
    wpAny (model prog w) A (call (.type "enumerate") [.ref t]) Q E s := by
  have meets : Meets (Builtin.«enumerate.__new__» ⟨[.type "enumerate", .ref t], []⟩) (fun _ R s => s.heap.IsTuple t items ∧
      R (.ok (.ret (.ref (s.heap.push { cls := .type "tuple_iterator", data := .fields #[.ref t, .int 0 0] }).objs.size)))
        { s with heap := (s.heap.push { cls := .type "tuple_iterator", data := .fields #[.ref t, .int 0 0] }).push { cls := .type "enumerate", data := .fields #[.none, .bool false, .ref s.heap.objs.size, rawInt 0, .none, .none] } }) :=
    .of_wp fun prog w A R s h => by
      obtain ⟨hp, g, d, tk, os⟩ := s
      obtain ⟨hl, h⟩ := h
      have hsub := sub_enumerate
      have q1 : ∀ {A' : Around} {E : Value → Shared → Prop} {Q : Value → Shared → Prop}, Q (.ref hp.objs.size) ⟨hp.push { cls := .type "tuple_iterator", data := .fields #[.ref t, .int 0 0] }, g, d, tk, os⟩ → wpAny (model prog w) A' (pyIter (.ref t)) Q E ⟨hp, g, d, tk, os⟩ :=
        fun q => wpAny_pyIter_tuple hl q
      wp_walk using q1
      refine wpAny_stack_any fun st => wpAny_pure ?_
      split
      · rename_i c _ _ _ _ _
        cases (c == Value.type "enumerate")
        · wp_walk using q1
          exact ⟨_, rfl, h⟩
        · wp_walk using q1
          exact ⟨_, rfl, h⟩
      · wp_walk using q1
        exact ⟨_, rfl, h⟩
  refine callType_new F.called_enumerate (by decide) (F.typeCall_enumerate_1 _) (F.newCall_enumerate_1 _) (fun obj => F.args_object_init_2 obj _) F.entry_enumerate_new meets ⟨ht, ?_⟩
  have hz : (s.heap.push { cls := .type "tuple_iterator", data := .fields #[.ref t, .int 0 0] }).objs.size = s.heap.objs.size + 1 := Heap.size_push ..
  show _ ∧ _
  rw [hz]
  have he : IsEnum ((s.heap.push { cls := .type "tuple_iterator", data := .fields #[.ref t, .int 0 0] }).push { cls := .type "enumerate", data := .fields #[.none, .bool false, .ref s.heap.objs.size, rawInt 0, .none, .none] }) (s.heap.objs.size + 1) s.heap.objs.size 0 .none := by
    have e := Heap.get?_push_size (s.heap.push { cls := .type "tuple_iterator", data := .fields #[.ref t, .int 0 0] }) (o := { cls := .type "enumerate", data := .fields #[.none, .bool false, .ref s.heap.objs.size, rawInt 0, .none, .none] }) rfl
    rw [hz] at e
    exact e
  exact ⟨⟨_, he, rfl⟩, h _ he ⟨_, Heap.get?_push_of_some _ (Heap.get?_push_size _ rfl), rfl, rfl⟩ fun b o x => Heap.get?_push_of_some _ (Heap.get?_push_of_some _ x)⟩
theorem pi_enumT {ta : TA} {tpos : Pos} {elts : List Expr} {kk : Nat} (hg : Gl X "enumerate") (hm : X.mg "enumerate" = none) (ha : PA X [e] ta) (hs : starEach [e] X.env = [(false, eval e X.env)] := by rfl) :
    PI X (.Tuple elts kk tpos) (.Call (.Name "enumerate" p) [e] [] pos) (iEnumT X.K ta) := by
  refine ⟨fun pins s σ H R I h => ?_⟩
  refine Call_ (ld_blt I hg hm boot_enumerate (PyProof.Rows.callWith_type1 (thn (ha.run pos pins s σ H _ I h) fun us s1 ⟨vs, H1, I1, r1, a, xs, ex, hq, q⟩ => ?_) hs rfl))
  subst ex
  cases r1 with
  | cons r rr =>
    cases rr
    cases r
    obtain ⟨its, rv, p', hz⟩ := I1.tuple hq
    refine callEnumT (items := its.toArray) p' fun h' he hit hk => wpAny_pyIter_enum he ?_
    have I2 : Inv X pins σ H1 { s1 with heap := h' } := I1.kept (t' := s1.toks) hk
    refine ⟨s1.heap.objs.size + 1, [s1.heap.objs.size + 1, s1.heap.objs.size], _, _, H1, rfl, I2, turn_enumT a (s1.heap.objs.size + 1) s1.heap.objs.size, ⟨⟨.none, he⟩, hit, Nat.succ_ne_self _⟩, fun b hb => ?_, q⟩
    have hle : s1.heap.objs.size ≤ b := by
      have e' : b = s1.heap.objs.size + 1 ∨ b = s1.heap.objs.size := by simpa using hb
      rcases e' with z | z
      · exact z ▸ Nat.le_add_right _ _
      · exact z ▸ Nat.le_refl _
    exact I1.fpOk hle (I1.hok.fresh hle)
theorem ei_enumT {xs : List D} {tpos : Pos} {elts : List Expr} {kk : Nat} (hm : X.mg "enumerate" = none) (h : ED X st e (.tuple xs)) (hg : Gl X "enumerate" := by rfl) (hs : starEach [e] X.env = [(false, eval e X.env)] := by rfl) :
    EI X st (.Tuple elts kk tpos) (.Call (.Name "enumerate" p) [e] [] pos) ((List.range xs.length).map fun i => .tuple [.int (i : Nat), xs.getD i .none]) :=
  ⟨_, pi_enumT hg hm paW hs, fun m H0 B H σ s l R r => eds_1 h hs m H0 B H σ s l _ fun vs B1 H1 n1 d1 => by
    cases d1 with
    | cons d1 t =>
      cases t
      obtain ⟨a, us, rfl, t1, a1⟩ := d1.tup_inv
      refine ⟨a, us, rfl, sqT_mono n1.i t1, r _ B1 H1 n1 fun B2 H2 s1 s2 i => ⟨fun d hd => ?_, fun hi => ?_⟩⟩
      · have t2 := sqT_mono s2 (sqT_mono s1 t1)
        have hi : i < xs.length := by
          have := (List.getElem?_eq_some_iff.mp hd).1
          rwa [List.length_map, List.length_range] at this
        rw [List.getElem?_map, List.getElem?_range hi] at hd
        have ed : d = .tuple [.int (i : Nat), xs.getD i .none] := (Option.some.inj hd).symm
        subst ed
        have hx : xs[i]? = some (xs.getD i .none) := by rw [List.getD_eq_getElem?_getD, List.getElem?_eq_getElem hi]; rfl
        obtain ⟨v, hv, dv⟩ := a1.at_ hx
        refine ⟨⟨us, v, t2, hv⟩, fun x H' y => ?_⟩
        obtain ⟨T, x', rfl, nT, rfl, fx⟩ := y
        have ex : x' = v := Option.some.inj ((fx us t2).symm.trans hv)
        subst ex
        exact ⟨_, Nx.new s2 nT, .tup (SqT.of upd_same) (.cons (.int _) (.cons (Dq.up (s1.trans (same_new (same_sub s2 nT))) dv) .nil))⟩
      · rw [List.length_map, List.length_range] at hi
        exact ⟨us, sqT_mono s2 (sqT_mono s1 t1), by rw [a1.len]; exact hi.symm⟩⟩
/-! ### len(set(t)) -/
def dst : List Int → List Int
  | [] => []
  | x :: r => if x ∈ dst r then dst r else x :: dst r
theorem dst_mem : ∀ {l : List Int} {z : Int}, z ∈ dst l ↔ z ∈ l
  | [], z => Iff.rfl
  | x :: r, z => by
    unfold dst
    have ih := dst_mem (l := r) (z := z)
    split
    · rename_i h
      rw [ih, List.mem_cons]
      constructor
      · exact .inr
      · rintro (e | q)
        · subst e
          exact ih.mp h
        · exact q
    · rw [List.mem_cons, List.mem_cons, ih]
theorem dst_nodup : ∀ l : List Int, (dst l).Nodup
  | [] => List.nodup_nil
  | x :: r => by
    unfold dst
    split
    · exact dst_nodup r
    · rename_i h
      exact List.nodup_cons.mpr ⟨h, dst_nodup r⟩
theorem dst_len_le : ∀ l : List Int, (dst l).length ≤ l.length
  | [] => Nat.le_refl _
  | x :: r => by
    unfold dst
    have ih := dst_len_le r
    split
    · exact Nat.le_succ_of_le ih
    · exact Nat.succ_le_succ ih
theorem dst_len : ∀ l : List Int, (dst l).length = l.length ↔ l.Nodup
  | [] => by simp [dst]
  | x :: r => by
    have ih := dst_len r
    have h0 := dst_len_le r
    unfold dst
    rw [List.nodup_cons, ← ih]
    split
    · rename_i h
      constructor
      · intro e
        rw [List.length_cons] at e
        omega
      · rintro ⟨q, _⟩
        exact absurd (dst_mem.mp h) q
    · rename_i h
      rw [List.length_cons, List.length_cons]
      constructor
      · intro e
        exact ⟨fun q => h (dst_mem.mpr q), by omega⟩
      · rintro ⟨_, q⟩
        omega
def tLenSetT (K : PySem.W.Frag) (ta : TE) : TE := fun σ H Q => ta σ H fun x H1 => ∃ (l : Addr) (ns : List Int), x = V.ref l ∧ SqT K H1 l (ns.map V.int) ∧ ns.length < 64 ∧ Q (.int (dst ns).length) H1
theorem pe_lenSetT {ta : TE} {q : Pos} (hc : X.calm = true) (hg : Gl X "len") (hm : X.mg "len" = none) (hg2 : Gl X "set") (hm2 : X.mg "set" = none) (ha : PE X e ta)
    (na : starEach [e] X.env = (false, eval e X.env) :: starEach [] X.env := by rfl) : PE X (.Call (.Name "len" p) [.Call (.Name "set" p2) [e] [] q] [] pos) (tLenSetT X.K ta) := by
  refine ⟨fun pins s σ H Q I h => ?_⟩
  refine Call_ (ld_blt I hg hm PySem.boot_len (PyProof.Rows.callWith_builtin1 (PyProof.Rows.args_cons ?_ rfl) rfl rfl))
  refine Call_ (ld_blt I hg2 hm2 PyProof.Rows.boot_set ?_)
  refine PyProof.Rows.callWith_type1 (PyProof.Rows.args_cons (thn (ha.run pins s σ H _ I h) fun v s1 ⟨x, H1, I1, r1, l, ns, ex, hq, h1, q1⟩ => PyProof.Rows.args_nil ?_) na) na rfl
  subst ex
  cases r1
  obtain ⟨its, r, pl, hz⟩ := I1.tuple hq
  refine call_set_tupI ns (I1.ok.hd hc) (show s1.heap.IsTuple l its.toArray from pl) (show IntsAre its.toArray.toList ns from ints_of_vals r) (by unfold scanBound; omega) fun h' tk c R1 hcn k => ?_
  obtain ⟨o, es, ep, t, ho, hex, hdt, g, nd, hm3, hb, hf, hn, hr, hl2⟩ := R1
  refine PyProof.Rows.args_nil ?_
  have I2 : Inv X pins σ H1 { s1 with heap := h', toks := tk } := I1.kept fun b o e => k b o e
  have ec : c = (dst ns).length := by
    have pm : (es.toList.map keyOf).Perm (dst ns) := (List.perm_ext_iff_of_nodup nd (dst_nodup ns)).mpr fun z => by
      rw [dst_mem, ← hm3 z, decide_eq_true_eq]
    have e1 := pm.length_eq
    rw [List.length_map, Array.length_toList, hn] at e1
    exact e1
  refine call_len_set ho hex hdt hf (by rw [hn] <;> omega) ⟨.int (dst ns).length, H1, I2.tok _, ⟨_, by rw [hn, ec]⟩, q1⟩
theorem ed_lenSetT {ns : List Int} {q : Pos} (hm : X.mg "len" = none) (hm2 : X.mg "set" = none) (h : ED X st e (oD ns)) (hl : ns.length < 64) (hc : X.calm = true := by rfl) (hg : Gl X "len" := by rfl) (hg2 : Gl X "set" := by rfl)
    (na : starEach [e] X.env = (false, eval e X.env) :: starEach [] X.env := by rfl) : ED X st (.Call (.Name "len" p) [.Call (.Name "set" p2) [e] [] q] [] pos) (.int (dst ns).length) := fun m H0 B H σ s l Q k =>
  WE.of (pe_lenSetT hc hg hm hg2 hm2 peW na) (h.any s l fun v B1 H1 n1 d1 => by
    obtain ⟨a, us, rfl, t1, a1⟩ := d1.tup_inv
    rw [a1.ints_inv] at t1
    exact ⟨a, ns, rfl, sqT_mono n1.i t1, hl, k _ B1 H1 n1 (.int _)⟩)
end
end K45
set_option maxHeartbeats 4000000
namespace K45
open PySem PySem.Spec PyProof.Rows L2
section
variable {P : Program} {w : World} {K : PySem.W.Frag} {mg : Str → Option Value} {base : Heap}
/-! ### is_rough -/
def roughB (a b c d : Int) : Bool := (decide (c < d) && (decide (d < a) && decide (a < b))) || (decide (d < b) && (decide (b < c) && decide (c < a)))
abbrev G_is_rough (ds : List D) (d : D) : Prop := ∃ a b c e : Int, ds = [oD [a, b, c, e]] ∧ d = .bool (roughB a b c e)
theorem ok_is_rough (F : Df K mg "is_rough" s_is_rough ["four"]) : Cl P w K mg base 1 "is_rough" ["four"] G_is_rough := by
  refine F.ok sc_is_rough (fun ds d h => ?_) (fun f cdv A outer s H E ds d hr h => ?_)
  · obtain ⟨a, b, c, e, rfl, rfl⟩ := h
    rfl
  · obtain ⟨a, b, c, e, rfl, rfl⟩ := h
    refine hs_asg (pg_tup rfl (pgs_cons (pg_name (i := 1) sc_is_rough.nd rfl (.inl rfl)) (pgs_cons (pg_name (i := 2) sc_is_rough.nd rfl (.inl rfl)) (pgs_cons (pg_name (i := 3) sc_is_rough.nd rfl (.inl rfl)) (pgs_cons (pg_name (i := 4) sc_is_rough.nd rfl (.inl rfl)) pgs_nil))))) (ed_var 0) (gt_four 1 2 3 4) ?_
    exact hs_ret (ed_or (ed_chain3 (ed_var 3) (ed_var 4) (ed_var 1) (ed_var 2)) fun _ => ed_one (ed_chain3 (ed_var 4) (ed_var 2) (ed_var 3) (ed_var 1))) rfl
/-! ### changed_places -/
def chg (o : List Int) (i j : Nat) : List Int := (((o.take i ++ [o.getD j 0]) ++ (o.drop (i + 1)).take (j - (i + 1))) ++ [o.getD i 0]) ++ o.drop (j + 1)
abbrev G_changed (ds : List D) (d : D) : Prop := ∃ (o : List Int) (i j : Nat), i < j ∧ j < o.length ∧ o.length ≤ 40 ∧ ds = [oD o, .int i, .int j] ∧ d = oD (chg o i j)
theorem ok_changed_places (F : Df K mg "changed_places" s_changed_places ["order", "first", "second"]) : Cl P w K mg base 1 "changed_places" ["order", "first", "second"] G_changed := by
  refine F.ok sc_changed_places (fun ds d h => ?_) (fun f cdv A outer s H E ds d hr h => ?_)
  · obtain ⟨o, i, j, _, _, _, rfl, rfl⟩ := h
    rfl
  · obtain ⟨o, i, j, hij, hj, hl, rfl, rfl⟩ := h
    refine hs_ret (ed_addO ?_ (ed_addO ?_ (ed_addO ?_ (ed_addO ?_ (ed_takeO (ed_var 0) (ed_var 1) rfl) (ed_tup1 (ed_atO (ed_var 0) (ed_var 2) rfl hj))) (ed_midO (ed_var 0) (ed_addI (ed_var 1) ed_int) (ed_var 2) rfl rfl hij (by omega))) (ed_tup1 (ed_atO (ed_var 0) (ed_var 1) rfl (by omega)))) (ed_dropO (ed_var 0) (ed_addI (ed_var 2) ed_int) rfl)) rfl
    all_goals (simp; omega)
/-! ### beside -/
abbrev G_beside (ds : List D) (d : D) : Prop := ∃ o u : List Int, o.length ≤ 40 ∧ u.length ≤ 40 ∧ ds = [oD o, oD u] ∧ d = oD (o ++ u.map fun x => x + (o.length : Int))
theorem ok_beside (T : Fr mg) (F : Df K mg "beside" s_beside ["one", "other"]) : Cl P w K mg base 1 "beside" ["one", "other"] G_beside := by
  refine F.ok sc_beside (fun ds d h => ?_) (fun f cdv A outer s H E ds d hr h => ?_)
  · obtain ⟨o, u, _, _, rfl, rfl⟩ := h
    rfl
  · obtain ⟨o, u, ho, hu, rfl, rfl⟩ := h
    refine hs_ret (ed_addO ?_ (ed_var 0) (ED.is (ed_tupOf T.tuple (ed_lc (own := [("thing", 2)]) (g := gName 2) (ys := u) (ι := PyData.int) (f := fun x => PyData.int (x + (o.length : Int))) sc_beside.nd (ei_tup (ed_var 1)) (blkOk_by (N := N_beside) (sc := defScope s_beside) (by decide +kernel)) (fun _ _ _ _ _ => pg_name (i := 2) sc_beside.nd rfl (.inl rfl)) gw_name (by omega) (fun m y _ => ⟨_, gt_name 2, fun s' H' C cl fp => ?_⟩))) ?_)) rfl
    · simp; omega
    · exact ed_addI (ed_var 2) (ed_lenO T.len (ed_var 0))
    · unfold oD
      rw [List.map_map]
      rfl
end
end K45
set_option maxHeartbeats 4000000
namespace K45
open PySem PySem.Spec PyProof.Rows L2
/-! ### bare_pairs -/
def betw (o : List Int) (i j : Nat) : List Int := ((o.drop (i + 1)).take (j - (i + 1))).filter fun t => decide (min (o.getD i 0) (o.getD j 0) < t) && decide (t < max (o.getD i 0) (o.getD j 0))
def bareB (o : List Int) (up : Bool) (i j : Nat) : Bool := (betw o i j).isEmpty && (decide (o.getD i 0 < o.getD j 0) == up)
def bareRow (o : List Int) (up : Bool) (i k : Nat) : List (List Int) := ((List.range k).filter fun s => bareB o up i (i + 1 + s)).map fun s => [(i : Int), ((i + 1 + s : Nat) : Int)]
def bareOut (o : List Int) (up : Bool) (n i : Nat) : List (List Int) := (List.range i).flatMap fun a => bareRow o up a (n - (a + 1))
theorem bareRow_succ (o : List Int) (up : Bool) (i k : Nat) : bareRow o up i (k + 1) = bareRow o up i k ++ if bareB o up i (i + 1 + k) = true then [[(i : Int), ((i + 1 + k : Nat) : Int)]] else [] := by
  unfold bareRow
  rw [List.range_succ, List.filter_append, List.map_append]
  congr 1
  rw [List.filter_cons]
  split <;> rfl
theorem bareOut_succ (o : List Int) (up : Bool) (n i : Nat) : bareOut o up n (i + 1) = bareOut o up n i ++ bareRow o up i (n - (i + 1)) := by
  unfold bareOut
  rw [List.range_succ, List.flatMap_append]
  simp
theorem bareRow_len (o : List Int) (up : Bool) (i k : Nat) : (bareRow o up i k).length ≤ k := by
  unfold bareRow
  rw [List.length_map]
  have h := List.length_filter_le (fun s => bareB o up i (i + 1 + s)) (List.range k)
  rw [List.length_range] at h
  exact h
theorem bareOut_len (o : List Int) (up : Bool) (n : Nat) : ∀ i, (bareOut o up n i).length ≤ i * n
  | 0 => Nat.zero_le _
  | i + 1 => by
    rw [bareOut_succ, List.length_append, Nat.succ_mul]
    have h1 := bareOut_len o up n i
    have h2 := bareRow_len o up i (n - (i + 1))
    omega
section
variable {P : Program} {w : World} {K : PySem.W.Frag} {mg : Str → Option Value} {base : Heap}
abbrev G_bare (ds : List D) (d : D) : Prop := ∃ (o : List Int) (up : Bool), o.length ≤ 40 ∧ ds = [oD o, .bool up] ∧ d = .list ((bareOut o up o.length o.length).map oD)
theorem ok_bare_pairs (T : Fr mg) (F : Df K mg "bare_pairs" s_bare_pairs ["order", "up"]) : Cl P w K mg base 1 "bare_pairs" ["order", "up"] G_bare := by
  refine F.ok sc_bare_pairs (fun ds d h => ?_) (fun f cdv A outer s H E ds d hr h => ?_)
  · obtain ⟨o, up, _, rfl, rfl⟩ := h
    rfl
  · obtain ⟨o, up, hl, rfl, rfl⟩ := h
    have nd := sc_bare_pairs.nd
    refine hs_ownNil 2 nd ?_
    refine hs_for (xs := upD 0 ((o.length : Int)).toNat) (fun i st' => i ≤ o.length ∧ st' = [some (.d (oD o)), some (.d (.bool up)), some (.own ((bareOut o up o.length i).map oD)), none, none, none, none, none, none]) (pg_name (i := 3) nd rfl (.inl rfl)) (ei_range1 T.range (ed_lenO T.len (ed_var 0)) (by omega)) ⟨Nat.zero_le _, rfl⟩ (fun i d st' hd hst => ?_) (fun st' hst => ?_)
    · obtain ⟨hi, rfl⟩ := upD_at hd
      obtain ⟨_, rfl⟩ := hst
      rw [Int.toNat_natCast] at hi
      have ei : (0 : Int) + (i : Int) = (i : Int) := Int.zero_add _
      rw [ei]
      refine ⟨_, gt_name 3, ?_⟩
      have en : ((o.length : Int) - ((i : Int) + 1)).toNat = o.length - (i + 1) := by omega
      refine hs_for (xs := upD ((i : Int) + 1) ((o.length : Int) - ((i : Int) + 1)).toNat) (fun k st' => st' = [some (.d (oD o)), some (.d (.bool up)), some (.own ((bareOut o up o.length i ++ bareRow o up i k).map oD)), some (.d (.int i)), none, none, none, none, none]) (pg_name (i := 4) nd rfl (.inl rfl)) (ei_range2 T.range (ed_addI (ed_var 3) ed_int) (ed_lenO T.len (ed_var 0)) (by omega)) (by
        show _ = _
        rw [show bareRow o up i 0 = [] from rfl, List.append_nil]
        rfl) (fun k d st' hd hst => ?_) (fun st' hst => ?_)
      · obtain ⟨hk, rfl⟩ := upD_at hd
        subst hst
        rw [en] at hk
        have ek : (i : Int) + 1 + (k : Int) = ((i + 1 + k : Nat) : Int) := by omega
        rw [ek]
        refine ⟨_, gt_name 4, ?_⟩
        have hj : i + 1 + k < o.length := by omega
        have hi2 : i < o.length := by omega
        have h1 := bareOut_len o up o.length i
        have h2 := bareRow_len o up i k
        have h3 : i * o.length ≤ 40 * 40 := Nat.mul_le_mul (by omega) hl
        have fin : ∀ st4 : Sto, Wk [some (.d (oD o)), some (.d (.bool up)), some (.own ((bareOut o up o.length i ++ bareRow o up i (k + 1)).map oD)), some (.d (.int i)), none, none, none, none, none] st4 →
            ∀ E' : EndD, E'.nx [some (.d (oD o)), some (.d (.bool up)), some (.own ((bareOut o up o.length i ++ bareRow o up i (k + 1)).map oD)), some (.d (.int i)), none, none, none, none, none] → HS (cx P w K mg base N_bare_pairs "bare_pairs" s_bare_pairs f cdv A outer s H E) none st4 [] E' := fun st4 w E' h => hs_end h w
        refine hs_asg (pg_tup rfl (pgs_cons (pg_name (i := 5) nd rfl (.inr rfl)) (pgs_cons (pg_name (i := 6) nd rfl (.inr rfl)) pgs_nil))) (ed_tup2 (ed_min T.min (ed_atO (ed_var 0) (ed_var 3) rfl hi2) (ed_atO (ed_var 0) (ed_var 4) rfl hj)) (ed_max T.max (ed_atO (ed_var 0) (ed_var 3) rfl hi2) (ed_atO (ed_var 0) (ed_var 4) rfl hj))) (gt_pair 5 6) ?_
        refine hs_setLcIf (own := [("thing", 8)]) (g := gName 8) (ys := (o.drop (i + 1)).take (i + 1 + k - (i + 1))) (ι := PyData.int) (f := PyData.int) (p := fun t => decide (min (o.getD i 0) (o.getD (i + 1 + k) 0) < t) && decide (t < max (o.getD i 0) (o.getD (i + 1 + k) 0))) 7 nd
          (ei_tup (ed_midO (ed_var 0) (ed_addI (ed_var 3) ed_int) (ed_var 4) rfl rfl (by omega) (by omega))) (blkOk_by (N := N_bare_pairs) (sc := defScope s_bare_pairs) (by decide +kernel)) (fun _ _ _ _ _ => pg_name (i := 8) nd rfl (.inl rfl)) gw_name (by simp; omega) (fun m y _ => ⟨_, gt_name 8, fun s' H' C cl fp => ?_, fun _ s' H' C cl fp => ?_⟩) ?_
        · exact et_chain op_lt op_lt (ed_var 5) (ed_var 8) (ed_var 6) (rd_I0 fun _ => .bl _) fun _ => rd_I0 fun _ => .bl _
        · exact ed_var 8
        · have hb' : bareB o up i (i + 1 + k) = (PyData.eqv (.list (((o.drop (i + 1)).take (i + 1 + k - (i + 1))).filter (fun t => decide (min (o.getD i 0) (o.getD (i + 1 + k) 0) < t) && decide (t < max (o.getD i 0) (o.getD (i + 1 + k) 0))) |>.map PyData.int)) (.list []) && (decide (o.getD i 0 < o.getD (i + 1 + k) 0) == up)) := by
            rw [eqv_nil]
            unfold bareB betw
            congr 1
            cases List.filter _ ((o.drop (i + 1)).take (i + 1 + k - (i + 1))) <;> rfl
          refine hs_when (et_w (ew_and (et_eqD (hu64 hr) (shaped_l _) (shaped_l []) (ed_var 7) (ed_lst eds_nil)) fun _ => ew_and1 (et_eqB (ed_ltI (ed_atO (ed_var 0) (ed_var 3) rfl hi2) (ed_atO (ed_var 0) (ed_var 4) rfl hj)) (ed_var 1)))) (fun hb => ?_) (fun hb => ?_)
          · refine hs_append 2 (d := oD [(i : Int), ((i + 1 + k : Nat) : Int)]) rfl ?_ ?_ ?_
            · exact ed_tup2 (ed_var 3) (ed_var 4)
            · rw [List.length_map, List.length_append]
              omega
            · refine hs_nil ?_
              refine fin _ ?_ _ rfl
              rw [bareRow_succ, if_pos (hb'.trans hb), ← List.append_assoc, List.map_append (f := oD) (l₂ := [_])]
              exact .so (.so (.so (.so (.no (.no (.no (.no (.no .nil))))))))
          · refine fin _ ?_ _ rfl
            rw [bareRow_succ, if_neg (by rw [hb'.trans hb]; exact Bool.false_ne_true), List.append_nil]
            exact .so (.so (.so (.so (.no (.no (.no (.no (.no .nil))))))))
      · subst hst
        refine hs_end (st1 := [some (.d (oD o)), some (.d (.bool up)), some (.own ((bareOut o up o.length (i + 1)).map oD)), none, none, none, none, none, none]) ⟨by omega, rfl⟩ ?_
        rw [bareOut_succ, upD_len, en]
        exact .so (.so (.so (.no (.no (.no (.no (.no (.no .nil))))))))
    · obtain ⟨_, rfl⟩ := hst
      refine hs_retOwn 2 rfl ?_
      show _ = _
      rw [upD_len, Int.toNat_natCast]
end
end K45
set_option maxHeartbeats 4000000
namespace K45
open PySem PySem.Spec PyProof.Rows L2
def wholeB (v : D) (lo hi : Int) : Bool := match v with
  | .int i => decide (lo ≤ i) && decide (i ≤ hi)
  | _ => false
section
variable {P : Program} {w : World} {K : PySem.W.Frag} {mg : Str → Option Value} {base : Heap}
abbrev G_whole (ds : List D) (d : D) : Prop := ∃ (v : D) (lo hi : Int), (tyD v ≠ "dict") ∧ ds = [v, .int lo, .int hi] ∧ d = .bool (wholeB v lo hi)
theorem ok_is_whole (T : Fr mg) (F : Df K mg "is_whole" s_is_whole ["value", "low", "high"]) : Cl P w K mg base 1 "is_whole" ["value", "low", "high"] G_whole := by
  refine F.ok sc_is_whole (fun ds d h => ?_) (fun f cdv A outer s H E ds d hr h => ?_)
  · obtain ⟨v, lo, hi, _, rfl, rfl⟩ := h
    rfl
  · obtain ⟨v, lo, hi, hv, rfl, rfl⟩ := h
    have no : ∀ {v : D}, kitB (tyD v) "int" = some false → wholeB v lo hi = false → HS (cx P w K mg base N_is_whole "is_whole" s_is_whole f cdv A outer s H E) none (st0 N_is_whole [v, .int lo, .int hi]) (defBody s_is_whole) { nx := fun _ => PyData.bool (wholeB v lo hi) = .none, rt := fun d' => d' = .bool (wholeB v lo hi) } := fun {v} h1 h2 => by
      refine hs_ret (ed_and (k' := false) (ed_isinst T.isinstance T.int bt_int h1 (ed_var 0)) (fun z => by cases z)) ?_
      show _ = _
      rw [h2] <;> rfl
    cases v with
    | none => exact no (by decide +kernel) rfl
    | bool b =>
      refine hs_ret (ed_and (ed_isinst (d := .bool b) T.isinstance T.int bt_int kit_bi (ed_var 0)) (fun _ => ed_and (k' := false) (ed_not (ed_isinst (d := .bool b) T.isinstance T.bool bt_bool kit_bb (ed_var 0))) (fun z => by cases z))) rfl
    | int i =>
      refine hs_ret (ed_and (ed_isinst (d := .int i) T.isinstance T.int bt_int kit_ii (ed_var 0)) (fun _ => ed_and (ed_not (ed_isinst (d := .int i) T.isinstance T.bool bt_bool kit_ib (ed_var 0))) (fun _ => ed_one (ed_chain op_le op_le (ed_var 1) (ed_var 0) (ed_var 2) (rd_I0 fun _ => .bl _) fun _ => rd_I0 fun _ => .bl _)))) rfl
    | str x => exact no (by show kitB "str" "int" = some false; decide +kernel) rfl
    | list xs => exact no (by show kitB "list" "int" = some false; decide +kernel) rfl
    | tuple xs => exact no (by show kitB "tuple" "int" = some false; decide +kernel) rfl
    | dict kvs => exact absurd rfl hv
end
end K45
set_option maxHeartbeats 4000000
namespace K45
open PySem PySem.Spec PyProof.Rows L2
def intOf : D → Int
  | .int i => i
  | _ => 0
def allWhole (xs : List D) : Bool := xs.all fun v => wholeB v 0 ((xs.length : Int) - 1)
def fitsB : D → Bool
  | .tuple xs => decide (1 ≤ xs.length) && (decide (xs.length ≤ 30) && (allWhole xs && decide ((xs.map intOf).Nodup)))
  | _ => false
def NoDict (v : D) : Prop := tyD v ≠ "dict" ∧ ∀ xs, v = .tuple xs → ∀ x ∈ xs, tyD x ≠ "dict"
theorem whole_ints {lo hi : Int} : ∀ {xs : List D}, (xs.all fun v => wholeB v lo hi) = true → xs = (xs.map intOf).map .int
  | [], _ => rfl
  | x :: xs, h => by
    rw [List.all_cons, Bool.and_eq_true] at h
    have ih := whole_ints h.2
    cases x with
    | int i =>
      rw [List.map_cons, List.map_cons, ← ih]
      rfl
    | _ => cases h.1
section
variable {P : Program} {w : World} {K : PySem.W.Frag} {mg : Str → Option Value} {base : Heap}
abbrev G_fits (ds : List D) (d : D) : Prop := ∃ v : D, NoDict v ∧ ds = [v] ∧ d = .bool (fitsB v)
theorem ok_fits_order (T : Fr mg) (c1 : Cl P w K mg base 1 "is_whole" ["value", "low", "high"] G_whole) (F : Df K mg "fits_order" s_fits_order ["value"]) : Cl P w K mg base 2 "fits_order" ["value"] G_fits := by
  refine F.ok sc_fits_order (fun ds d h => ?_) (fun f cdv A outer s H E ds d hr h => ?_)
  · obtain ⟨v, _, rfl, rfl⟩ := h
    rfl
  · obtain ⟨v, hv, rfl, rfl⟩ := h
    have nd := sc_fits_order.nd
    have no : ∀ {v : D}, kitB (tyD v) "tuple" = some false → fitsB v = false → HS (cx P w K mg base N_fits_order "fits_order" s_fits_order f cdv A outer s H E) none (st0 N_fits_order [v]) (defBody s_fits_order) { nx := fun _ => PyData.bool (fitsB v) = .none, rt := fun d' => d' = .bool (fitsB v) } := fun {v} h1 h2 => by
      refine hs_when (et_w (ew_or (k' := true) (et_not (et_of (ed_isinst T.isinstance T.tuple bt_tuple h1 (ed_var 0)))) (fun z => by cases z))) (fun _ => hs_ret ed_bl ?_) (fun z => by cases z)
      show _ = _
      rw [h2]
    cases v with
    | tuple xs =>
      obtain ⟨tt, ht⟩ := T.things
      have hx := hv.2 xs rfl
      refine hs_when (et_w (ew_or (et_not (et_of (ed_isinst (d := .tuple xs) (b := true) T.isinstance T.tuple bt_tuple (by show kitB "tuple" "tuple" = some true; decide +kernel) (ed_var 0)))) (fun _ => ew_or1 (et_not (et_chain op_le op_le ed_int (ed_lenT T.len (ed_var 0)) (ed_globI ht) (rd_I0 fun _ => .bl _) fun _ => rd_I0 fun _ => .bl _))))) (fun hb => hs_ret ed_bl ?_) (fun hb => ?_)
      · show _ = _
        have hb' : ¬ ((1 : Int) ≤ (xs.length : Int) ∧ (xs.length : Int) ≤ 30) := by
          simp only [Bool.not_true, Bool.false_or, Bool.not_eq_true', Bool.and_eq_false_iff, decide_eq_false_iff_not] at hb
          omega
        have e : fitsB (.tuple xs) = false := by
          show (decide (1 ≤ xs.length) && (decide (xs.length ≤ 30) && (allWhole xs && decide ((xs.map intOf).Nodup)))) = _
          by_cases h1 : 1 ≤ xs.length
          · rw [decide_eq_false (show ¬ xs.length ≤ 30 by omega)]
            simp
          · rw [decide_eq_false h1]
            rfl
        rw [e]
      · have hb' : 1 ≤ xs.length ∧ xs.length ≤ 30 := by
          simp only [Bool.not_true, Bool.false_or, Bool.not_eq_false', Bool.and_eq_true, decide_eq_true_eq] at hb
          omega
        have ef : fitsB (.tuple xs) = (allWhole xs && decide ((xs.map intOf).Nodup)) := by
          show (decide (1 ≤ xs.length) && (decide (xs.length ≤ 30) && (allWhole xs && decide ((xs.map intOf).Nodup)))) = _
          rw [decide_eq_true hb'.1, decide_eq_true hb'.2]
          rfl
        rw [ef]
        refine hs_when (et_not (et_of (ed_all (bs := xs.map fun v => wholeB v 0 ((xs.length : Int) - 1)) T.all (ED.is (ed_lc (own := [("thing", 1)]) (g := gName 1) (ys := xs) (ι := id) (f := fun v => .bool (wholeB v 0 ((xs.length : Int) - 1))) nd (ei_tup (ED.is (ed_var 0) (by rw [List.map_id]))) (blkOk_by (N := N_fits_order) (sc := defScope s_fits_order) (by decide +kernel)) (fun _ _ _ _ _ => pg_name (i := 1) nd rfl (.inl rfl)) gw_name (by omega) (fun m y hy => ⟨_, gt_name 1, fun s' H' C cl fp => ?_⟩)) (by rw [List.map_map]; rfl))))) (fun hb2 => hs_ret ed_bl ?_) (fun hb2 => ?_)
        · exact ed_cl c1 hr (eds_cons (ed_var 1) (eds_cons ed_int (eds_1 (ed_subI (ed_lenT T.len (ed_var 0)) ed_int)))) ⟨y, 0, _, hx y hy, rfl, rfl⟩
        · show _ = _
          have e : allWhole xs = false := by
            unfold allWhole
            rw [List.all_map] at hb2
            rw [Bool.not_eq_true'] at hb2
            exact hb2
          rw [e]
          rfl
        · have e : allWhole xs = true := by
            unfold allWhole
            rw [List.all_map] at hb2
            rw [Bool.not_eq_false'] at hb2
            exact hb2
          have ei := whole_ints (show (xs.all fun v => wholeB v 0 ((xs.length : Int) - 1)) = true from e)
          have eo : PyData.tuple xs = oD (xs.map intOf) := congrArg PyData.tuple ei
          refine hs_ret (ed_eqI (ed_lenSetT T.len T.set (ns := xs.map intOf) (ED.is (ed_var 0) eo) (by rw [List.length_map]; omega)) (ed_lenT T.len (ed_var 0))) ?_
          show _ = _
          rw [e, Bool.true_and]
          congr 1
          have h1 := dst_len (xs.map intOf)
          rw [List.length_map] at h1
          by_cases h2 : (xs.map intOf).Nodup
          · rw [decide_eq_true h2, decide_eq_true]
            have := h1.mpr h2
            omega
          · rw [decide_eq_false h2, decide_eq_false]
            intro q
            exact h2 (h1.mp (by omega))
    | none => exact no (by show kitB "NoneType" "tuple" = some false; decide +kernel) rfl
    | bool b => exact no (by show kitB "bool" "tuple" = some false; decide +kernel) rfl
    | int i => exact no (by show kitB "int" "tuple" = some false; decide +kernel) rfl
    | str x => exact no (by show kitB "str" "tuple" = some false; decide +kernel) rfl
    | list xs => exact no (by show kitB "list" "tuple" = some false; decide +kernel) rfl
    | dict kvs => exact absurd rfl hv.1
end
end K45
set_option maxHeartbeats 4000000
namespace K45
open PySem PySem.Spec PyProof.Rows L2
/-! ### orders -/
structure IsOrd (o : List Int) : Prop where
  l1 : 1 ≤ o.length
  l2 : o.length ≤ 30
  rg : ∀ x ∈ o, 0 ≤ x ∧ x < (o.length : Int)
  nd : o.Nodup
theorem noDict_oD (o : List Int) : NoDict (oD o) := ⟨by show "tuple" ≠ "dict"; decide, fun xs e x hx => by
  injection e with e
  subst e
  obtain ⟨i, _, rfl⟩ := List.mem_map.mp hx
  show "int" ≠ "dict"
  decide⟩
theorem intOf_map (o : List Int) : (o.map PyData.int).map intOf = o := by
  rw [List.map_map]
  exact List.map_id o
theorem IsOrd.fits {o : List Int} (h : IsOrd o) : fitsB (oD o) = true := by
  show (decide (1 ≤ (o.map PyData.int).length) && (decide ((o.map PyData.int).length ≤ 30) && (allWhole (o.map PyData.int) && decide (((o.map PyData.int).map intOf).Nodup)))) = true
  rw [intOf_map, List.length_map, decide_eq_true h.l1, decide_eq_true h.l2, decide_eq_true h.nd, Bool.true_and, Bool.true_and, Bool.and_true]
  unfold allWhole
  rw [List.all_eq_true]
  intro x hx
  obtain ⟨i, hi, rfl⟩ := List.mem_map.mp hx
  have := h.rg i hi
  show (decide (0 ≤ i) && decide (i ≤ ((o.map PyData.int).length : Int) - 1)) = true
  rw [List.length_map, decide_eq_true this.1, decide_eq_true (by omega)]
  rfl
theorem IsOrd.bd {o : List Int} (h : IsOrd o) : Bd o := fun x hx => by
  have := h.rg x hx
  have := h.l2
  constructor <;> omega
section
variable {P : Program} {w : World} {K : PySem.W.Frag} {mg : Str → Option Value} {base : Heap}
abbrev G_need (ds : List D) (d : D) : Prop := ∃ o : List Int, IsOrd o ∧ ds = [oD o] ∧ d = .none
theorem ok_need_order (c1 : Cl P w K mg base 2 "fits_order" ["value"] G_fits) (F : Df K mg "need_order" s_need_order ["value"]) : Cl P w K mg base 3 "need_order" ["value"] G_need := by
  refine F.ok sc_need_order (fun ds d h => ?_) (fun f cdv A outer s H E ds d hr h => ?_)
  · obtain ⟨o, _, rfl, rfl⟩ := h
    rfl
  · obtain ⟨o, ho, rfl, rfl⟩ := h
    refine hs_when (et_not (et_of (ed_cl c1 hr (eds_1 (ed_var 0)) ⟨oD o, noDict_oD o, rfl, rfl⟩))) (fun z => ?_) (fun _ => hs_nil rfl)
    rw [ho.fits] at z
    cases z
abbrev G_many (ds : List D) (d : D) : Prop := ∃ n : Nat, 1 ≤ n ∧ n ≤ 30 ∧ ds = [.int n] ∧ d = .none
theorem ok_need_many (T : Fr mg) (c1 : Cl P w K mg base 1 "is_whole" ["value", "low", "high"] G_whole) (F : Df K mg "need_many" s_need_many ["value"]) : Cl P w K mg base 2 "need_many" ["value"] G_many := by
  refine F.ok sc_need_many (fun ds d h => ?_) (fun f cdv A outer s H E ds d hr h => ?_)
  · obtain ⟨n, _, _, rfl, rfl⟩ := h
    rfl
  · obtain ⟨n, h1, h2, rfl, rfl⟩ := h
    obtain ⟨tt, ht⟩ := T.things
    refine hs_when (et_not (et_of (ed_cl c1 hr (eds_cons (ed_var 0) (eds_cons ed_int (eds_1 (ed_globI ht)))) ⟨.int n, 1, 30, by show "int" ≠ "dict"; decide, rfl, rfl⟩))) (fun z => ?_) (fun _ => hs_nil rfl)
    have e : wholeB (.int (n : Int)) 1 30 = true := by
      show (decide ((1 : Int) ≤ n) && decide ((n : Int) ≤ 30)) = true
      rw [decide_eq_true (by omega), decide_eq_true (by omega)]
      rfl
    rw [e] at z
    cases z
abbrev G_few (ds : List D) (d : D) : Prop := ∃ n l : Int, n ≤ l ∧ ds = [.int n, .int l] ∧ d = .none
theorem ok_need_few (F : Df K mg "need_few" s_need_few ["many", "limit"]) : Cl P w K mg base 1 "need_few" ["many", "limit"] G_few := by
  refine F.ok sc_need_few (fun ds d h => ?_) (fun f cdv A outer s H E ds d hr h => ?_)
  · obtain ⟨n, l, _, rfl, rfl⟩ := h
    rfl
  · obtain ⟨n, l, h1, rfl, rfl⟩ := h
    refine hs_when (et_gtI (ed_var 0) (ed_var 1)) (fun z => ?_) (fun _ => hs_nil rfl)
    have := of_decide_eq_true z
    omega
abbrev G_about (ds : List D) (d : D) : Prop := ∃ o : List Int, IsOrd o ∧ ds = [oD o] ∧ d = oD o.reverse
theorem ok_turned_about (c1 : Cl P w K mg base 3 "need_order" ["value"] G_need) (F : Df K mg "turned_about" s_turned_about ["order"]) : Cl P w K mg base 4 "turned_about" ["order"] G_about := by
  refine F.ok sc_turned_about (fun ds d h => ?_) (fun f cdv A outer s H E ds d hr h => ?_)
  · obtain ⟨o, _, rfl, rfl⟩ := h
    rfl
  · obtain ⟨o, ho, rfl, rfl⟩ := h
    refine hs_expr (ed_cl c1 hr (eds_1 (ed_var 0)) ⟨o, ho, rfl, rfl⟩) ?_
    refine hs_ret (ed_back (ed_var 0)) ?_
    show PyData.tuple _ = _
    rw [← List.map_reverse]
    rfl
def overO (o : List Int) : List Int := o.map fun x => (o.length : Int) - 1 - x
abbrev G_over (ds : List D) (d : D) : Prop := ∃ o : List Int, IsOrd o ∧ ds = [oD o] ∧ d = oD (overO o)
theorem ok_turned_over (T : Fr mg) (c1 : Cl P w K mg base 3 "need_order" ["value"] G_need) (F : Df K mg "turned_over" s_turned_over ["order"]) : Cl P w K mg base 4 "turned_over" ["order"] G_over := by
  refine F.ok sc_turned_over (fun ds d h => ?_) (fun f cdv A outer s H E ds d hr h => ?_)
  · obtain ⟨o, _, rfl, rfl⟩ := h
    rfl
  · obtain ⟨o, ho, rfl, rfl⟩ := h
    have nd := sc_turned_over.nd
    refine hs_expr (ed_cl c1 hr (eds_1 (ed_var 0)) ⟨o, ho, rfl, rfl⟩) ?_
    have hl := ho.l2
    refine hs_ret (ed_tupOf T.tuple (ed_lc (own := [("thing", 1)]) (g := gName 1) (ys := o) (ι := PyData.int) (f := fun x => .int ((o.length : Int) - 1 - x)) nd (ei_tup (ed_var 0)) (blkOk_by (N := N_turned_over) (sc := defScope s_turned_over) (by decide +kernel)) (fun _ _ _ _ _ => pg_name (i := 1) nd rfl (.inl rfl)) gw_name (by omega) (fun m y hy => ⟨_, gt_name 1, fun s' H' C cl fp => ?_⟩))) ?_
    · exact ed_subI (ed_subI (ed_lenO T.len (ed_var 0)) ed_int) (ed_var 1)
    · show _ = _
      unfold overO oD
      rw [List.map_map]
      rfl
end
end K45
set_option maxHeartbeats 4000000
namespace K45
open PySem PySem.Spec PyProof.Rows L2
def pairsTo (o : List Int) (i : Nat) : List (List Int) := (List.range i).flatMap fun a => ((o.drop (a + 1)).filter fun x => decide (x < o.getD a 0)).map fun x => [x, o.getD a 0]
theorem pairsTo_succ (o : List Int) (i : Nat) : pairsTo o (i + 1) = pairsTo o i ++ ((o.drop (i + 1)).filter fun x => decide (x < o.getD i 0)).map fun x => [x, o.getD i 0] := by
  unfold pairsTo
  rw [List.range_succ, List.flatMap_append]
  simp
theorem pairsTo_len (o : List Int) : ∀ i, (pairsTo o i).length ≤ i * o.length
  | 0 => Nat.zero_le _
  | i + 1 => by
    rw [pairsTo_succ, List.length_append, List.length_map, Nat.succ_mul]
    have h1 := pairsTo_len o i
    have h2 := List.length_filter_le (fun x => decide (x < o.getD i 0)) (o.drop (i + 1))
    rw [List.length_drop] at h2
    omega
theorem pairsTo_tri (o : List Int) : ∀ i, i ≤ o.length → (pairsTo o i).length + ((o.length - i) * (o.length - i - 1)) / 2 ≤ (o.length * (o.length - 1)) / 2
  | 0, _ => by
    rw [Nat.sub_zero]
    show 0 + _ ≤ _
    omega
  | i + 1, h => by
    have h1 := pairsTo_tri o i (by omega)
    rw [pairsTo_succ, List.length_append, List.length_map]
    have h2 := List.length_filter_le (fun x => decide (x < o.getD i 0)) (o.drop (i + 1))
    rw [List.length_drop] at h2
    obtain ⟨k, hk⟩ : ∃ k, o.length - i = k + 1 := ⟨o.length - i - 1, by omega⟩
    rw [hk] at h1
    have e1 : o.length - (i + 1) = k := by omega
    rw [e1] at h2 ⊢
    have e2 : (k + 1) * (k + 1 - 1) = k * (k - 1) + 2 * k := by
      cases k with
      | zero => rfl
      | succ k => simp only [Nat.add_sub_cancel, Nat.succ_mul, Nat.mul_succ]; omega
    rw [e2] at h1
    have e3 : (k * (k - 1) + 2 * k) / 2 = k * (k - 1) / 2 + k := by omega
    omega
theorem pairsTo_lt {o : List Int} (hl : o.length ≤ 10) : (pairsTo o o.length).length < 64 := by
  have h := pairsTo_tri o o.length (Nat.le_refl _)
  have h2 : o.length * (o.length - 1) ≤ 10 * 9 := Nat.mul_le_mul hl (by omega)
  omega
theorem pairsTo_al {o : List Int} (hb : Bd o) (i : Nat) (hi : i ≤ o.length := by omega) : Al 2 (pairsTo o i) := fun p hp => by
  unfold pairsTo at hp
  obtain ⟨a, ha, hp⟩ := List.mem_flatMap.mp hp
  obtain ⟨x, hx, rfl⟩ := List.mem_map.mp hp
  have ha := List.mem_range.mp ha
  refine ⟨rfl, fun y hy => ?_⟩
  rcases List.mem_cons.mp hy with rfl | hy
  · exact hb _ (List.mem_of_mem_drop (List.mem_filter.mp hx).1)
  · rw [List.mem_singleton.mp hy, List.getD_eq_getElem?_getD, List.getElem?_eq_getElem (by omega)]
    exact hb _ (List.getElem_mem _)
theorem enum_at {o : List Int} {i : Nat} {d : D} (h : ((List.range (o.map PyData.int).length).map fun (i : Nat) => PyData.tuple [.int i, (o.map PyData.int).getD i .none])[i]? = some d) : i < o.length ∧ d = .tuple [.int i, .int (o.getD i 0)] := by
  rw [List.length_map, List.getElem?_map] at h
  by_cases hi : i < o.length
  · rw [List.getElem?_range hi] at h
    refine ⟨hi, (Option.some.inj h).symm.trans ?_⟩
    have e : (o.map PyData.int).getD i .none = .int (o.getD i 0) := by
      rw [List.getD_eq_getElem?_getD, List.getElem?_map, List.getD_eq_getElem?_getD, List.getElem?_eq_getElem hi]
      rfl
    exact congrArg (fun y => PyData.tuple [.int i, y]) e
  · rw [List.getElem?_eq_none (by rw [List.length_range]; omega)] at h
    cases h
section
variable {P : Program} {w : World} {K : PySem.W.Frag} {mg : Str → Option Value} {base : Heap}
def pairsO (o : List Int) : List (List Int) := isrt (pairsTo o o.length)
abbrev G_pairs (ds : List D) (d : D) : Prop := ∃ o : List Int, o.length ≤ 10 ∧ Bd o ∧ ds = [oD o] ∧ d = .list ((pairsO o).map oD)
theorem ok_pairs_of (T : Fr mg) (F : Df K mg "pairs_of" s_pairs_of ["order"]) : Cl P w K mg base 1 "pairs_of" ["order"] G_pairs := by
  refine F.ok sc_pairs_of (fun ds d h => ?_) (fun f cdv A outer s H E ds d hr h => ?_)
  · obtain ⟨o, _, _, rfl, rfl⟩ := h
    rfl
  · obtain ⟨o, hl, hb, rfl, rfl⟩ := h
    have nd := sc_pairs_of.nd
    refine hs_set 1 (d := .list (([] : List (List Int)).map oD)) nd (ed_lst eds_nil) ?_
    refine hs_for (xs := (List.range (o.map PyData.int).length).map fun (i : Nat) => PyData.tuple [.int i, (o.map PyData.int).getD i .none]) (fun i st' => i ≤ o.length ∧ st' = [some (.d (oD o)), some (.d (.list ((pairsTo o i).map oD))), none, none, none]) (pg_tup rfl (pgs_cons (pg_name (i := 2) nd rfl (.inl rfl)) (pgs_cons (pg_name (i := 3) nd rfl (.inr rfl)) pgs_nil))) (ei_enumT T.enumerate (ed_var 0)) ⟨Nat.zero_le _, rfl⟩ (fun i d st' hd hst => ?_) (fun st' hst => ?_)
    · obtain ⟨_, rfl⟩ := hst
      obtain ⟨hi, rfl⟩ := enum_at hd
      refine ⟨_, gt_pair 2 3, ?_⟩
      refine hs_set 1 (d := .list ((pairsTo o (i + 1)).map oD)) nd (ED.is (ed_addL ?_ (ed_var 1) (ed_lcIf (own := [("other", 4)]) (g := gName 4) (ys := o.drop (i + 1)) (ι := PyData.int) (f := fun x => oD [x, o.getD i 0]) (p := fun x => decide (x < o.getD i 0)) nd (ei_tup (ed_dropO (ed_var 0) (ed_addI (ed_var 2) ed_int) rfl)) (blkOk_by (N := N_pairs_of) (sc := defScope s_pairs_of) (by decide +kernel)) (fun _ _ _ _ _ => pg_name (i := 4) nd rfl (.inl rfl)) gw_name (by simp; omega) (fun m y _ => ⟨_, gt_name 4, fun s' H' C cl fp => ?_, fun _ s' H' C cl fp => ?_⟩))) ?_) ?_
      · rw [List.length_map, List.length_map]
        have h1 := pairsTo_len o i
        have h2 := List.length_filter_le (fun x => decide (x < o.getD i 0)) (o.drop (i + 1))
        rw [List.length_drop] at h2
        have h3 : i * o.length ≤ 10 * 10 := Nat.mul_le_mul (by omega) hl
        omega
      · exact et_ltI (ed_var 4) (ed_var 3)
      · exact ed_tup2 (ed_var 4) (ed_var 3)
      · rw [pairsTo_succ, List.map_append, List.map_map]
        rfl
      · exact hs_end (st1 := [some (.d (oD o)), some (.d (.list ((pairsTo o (i + 1)).map oD))), none, none, none]) ⟨hi, rfl⟩ (.so (.so (.no (.no (.no .nil)))))
    · obtain ⟨_, rfl⟩ := hst
      rw [List.length_map, List.length_range, List.length_map]
      refine hs_ret (ed_sortedO (d := 2) T.sorted (ed_var 1) (by decide) (pairsTo_al hb o.length) (pairsTo_lt hl)) rfl
theorem ok_l_pairs (T : Fr mg) (F : Df K mg "_law_pairs" s_l_pairs ["_law_order_here"]) : Cl P w K mg base 1 "_law_pairs" ["_law_order_here"] G_pairs := by
  refine F.ok sc_l_pairs (fun ds d h => ?_) (fun f cdv A outer s H E ds d hr h => ?_)
  · obtain ⟨o, _, _, rfl, rfl⟩ := h
    rfl
  · obtain ⟨o, hl, hb, rfl, rfl⟩ := h
    have nd := sc_l_pairs.nd
    refine hs_set 1 (d := .list (([] : List (List Int)).map oD)) nd (ed_lst eds_nil) ?_
    refine hs_for (xs := (List.range (o.map PyData.int).length).map fun (i : Nat) => PyData.tuple [.int i, (o.map PyData.int).getD i .none]) (fun i st' => i ≤ o.length ∧ st' = [some (.d (oD o)), some (.d (.list ((pairsTo o i).map oD))), none, none, none]) (pg_tup rfl (pgs_cons (pg_name (i := 2) nd rfl (.inl rfl)) (pgs_cons (pg_name (i := 3) nd rfl (.inr rfl)) pgs_nil))) (ei_enumT T.enumerate (ed_var 0)) ⟨Nat.zero_le _, rfl⟩ (fun i d st' hd hst => ?_) (fun st' hst => ?_)
    · obtain ⟨_, rfl⟩ := hst
      obtain ⟨hi, rfl⟩ := enum_at hd
      refine ⟨_, gt_pair 2 3, ?_⟩
      refine hs_set 1 (d := .list ((pairsTo o (i + 1)).map oD)) nd (ED.is (ed_addL ?_ (ed_var 1) (ed_lcIf (own := [("_law_other", 4)]) (g := gName 4) (ys := o.drop (i + 1)) (ι := PyData.int) (f := fun x => oD [x, o.getD i 0]) (p := fun x => decide (x < o.getD i 0)) nd (ei_tup (ed_dropO (ed_var 0) (ed_addI (ed_var 2) ed_int) rfl)) (blkOk_by (N := N_l_pairs) (sc := defScope s_l_pairs) (by decide +kernel)) (fun _ _ _ _ _ => pg_name (i := 4) nd rfl (.inl rfl)) gw_name (by simp; omega) (fun m y _ => ⟨_, gt_name 4, fun s' H' C cl fp => ?_, fun _ s' H' C cl fp => ?_⟩))) ?_) ?_
      · rw [List.length_map, List.length_map]
        have h1 := pairsTo_len o i
        have h2 := List.length_filter_le (fun x => decide (x < o.getD i 0)) (o.drop (i + 1))
        rw [List.length_drop] at h2
        have h3 : i * o.length ≤ 10 * 10 := Nat.mul_le_mul (by omega) hl
        omega
      · exact et_ltI (ed_var 4) (ed_var 3)
      · exact ed_tup2 (ed_var 4) (ed_var 3)
      · rw [pairsTo_succ, List.map_append, List.map_map]
        rfl
      · exact hs_end (st1 := [some (.d (oD o)), some (.d (.list ((pairsTo o (i + 1)).map oD))), none, none, none]) ⟨hi, rfl⟩ (.so (.so (.no (.no (.no .nil)))))
    · obtain ⟨_, rfl⟩ := hst
      rw [List.length_map, List.length_range, List.length_map]
      refine hs_ret (ed_sortedO (d := 2) T.sorted (ed_var 1) (by decide) (pairsTo_al hb o.length) (pairsTo_lt hl)) rfl
def invs (o : List Int) : Nat := (pairsTo o o.length).length
theorem pairsO_len (o : List Int) : (pairsO o).length = invs o := (isrt_perm _).length_eq
abbrev G_size (ds : List D) (d : D) : Prop := ∃ o : List Int, o.length ≤ 10 ∧ Bd o ∧ ds = [oD o] ∧ d = .int (invs o)
theorem ok_size_by (T : Fr mg) (c1 : Cl P w K mg base 1 "pairs_of" ["order"] G_pairs) (F : Df K mg "size_by" s_size_by ["order"]) : Cl P w K mg base 2 "size_by" ["order"] G_size := by
  refine F.ok sc_size_by (fun ds d h => ?_) (fun f cdv A outer s H E ds d hr h => ?_)
  · obtain ⟨o, _, _, rfl, rfl⟩ := h
    rfl
  · obtain ⟨o, hl, hb, rfl, rfl⟩ := h
    refine hs_ret (ed_lenL T.len (ed_cl c1 hr (eds_1 (ed_var 0)) ⟨o, hl, hb, rfl, rfl⟩)) ?_
    show _ = _
    rw [List.length_map, pairsO_len]
abbrev G_sizeOf (ds : List D) (d : D) : Prop := ∃ o : List Int, IsOrd o ∧ o.length ≤ 10 ∧ ds = [oD o] ∧ d = .int (invs o)
theorem ok_size_of (c1 : Cl P w K mg base 3 "need_order" ["value"] G_need) (c2 : Cl P w K mg base 2 "size_by" ["order"] G_size) (F : Df K mg "size_of" s_size_of ["order"]) : Cl P w K mg base 4 "size_of" ["order"] G_sizeOf := by
  refine F.ok sc_size_of (fun ds d h => ?_) (fun f cdv A outer s H E ds d hr h => ?_)
  · obtain ⟨o, _, _, rfl, rfl⟩ := h
    rfl
  · obtain ⟨o, ho, hl, rfl, rfl⟩ := h
    refine hs_expr (ed_cl c1 hr (eds_1 (ed_var 0)) ⟨o, ho, rfl, rfl⟩) ?_
    exact hs_ret (ed_cl c2 hr (eds_1 (ed_var 0)) ⟨o, hl, ho.bd, rfl, rfl⟩) rfl
end
end K45
set_option maxHeartbeats 4000000
namespace K45
open PySem PySem.Spec PyProof.Rows L2
/-! ### steps_from -/
def chgP (o p : List Int) : List Int := chg o (p.getD 0 0).toNat (p.getD 1 0).toNat
def stepsTo (o : List Int) (up : Bool) : List (List Int) := (bareOut o up o.length o.length).map (chgP o)
def stepsO (o : List Int) (up : Bool) : List (List Int) := isrt (stepsTo o up)
theorem bare_mem {o : List Int} {up : Bool} {p : List Int} (h : p ∈ bareOut o up o.length o.length) : ∃ i j : Nat, i < j ∧ j < o.length ∧ p = [(i : Int), (j : Int)] := by
  unfold bareOut at h
  obtain ⟨a, ha, h⟩ := List.mem_flatMap.mp h
  unfold bareRow at h
  obtain ⟨s, hs, rfl⟩ := List.mem_map.mp h
  have h1 := List.mem_range.mp ha
  have h2 := List.mem_range.mp (List.mem_filter.mp hs).1
  exact ⟨a, a + 1 + s, by omega, by omega, rfl⟩
theorem chg_len {o : List Int} {i j : Nat} (hij : i < j) (hj : j < o.length) : (chg o i j).length = o.length := by
  unfold chg
  simp
  omega
theorem chg_mem {o : List Int} {i j : Nat} (hij : i < j) (hj : j < o.length) {x : Int} (h : x ∈ chg o i j) : x ∈ o := by
  unfold chg at h
  have g : ∀ k, k < o.length → o.getD k 0 ∈ o := fun k hk => by
    rw [List.getD_eq_getElem?_getD, List.getElem?_eq_getElem hk]
    exact List.getElem_mem _
  rcases List.mem_append.mp h with h | h
  · rcases List.mem_append.mp h with h | h
    · rcases List.mem_append.mp h with h | h
      · rcases List.mem_append.mp h with h | h
        · exact List.mem_of_mem_take h
        · rw [List.mem_singleton.mp h]
          exact g j hj
      · exact List.mem_of_mem_drop (List.mem_of_mem_take h)
    · rw [List.mem_singleton.mp h]
      exact g i (by omega)
  · exact List.mem_of_mem_drop h
theorem stepsTo_al {o : List Int} (up : Bool) (hb : Bd o) : Al o.length (stepsTo o up) := fun z hz => by
  unfold stepsTo at hz
  obtain ⟨p, hp, rfl⟩ := List.mem_map.mp hz
  obtain ⟨i, j, hij, hj, rfl⟩ := bare_mem hp
  exact ⟨chg_len hij hj, fun x hx => hb x (chg_mem hij hj hx)⟩
theorem stepsTo_len {o : List Int} (up : Bool) : (stepsTo o up).length ≤ o.length * o.length := by
  unfold stepsTo
  rw [List.length_map]
  exact bareOut_len _ _ _ _
section
variable {P : Program} {w : World} {K : PySem.W.Frag} {mg : Str → Option Value} {base : Heap}
abbrev G_steps (ds : List D) (d : D) : Prop := ∃ (o : List Int) (up : Bool), 1 ≤ o.length ∧ o.length ≤ 7 ∧ Bd o ∧ ds = [oD o, .bool up] ∧ d = .list ((stepsO o up).map oD)
theorem ok_steps_from (T : Fr mg) (c1 : Cl P w K mg base 1 "changed_places" ["order", "first", "second"] G_changed) (c2 : Cl P w K mg base 1 "bare_pairs" ["order", "up"] G_bare) (F : Df K mg "steps_from" s_steps_from ["order", "up"]) : Cl P w K mg base 2 "steps_from" ["order", "up"] G_steps := by
  refine F.ok sc_steps_from (fun ds d h => ?_) (fun f cdv A outer s H E ds d hr h => ?_)
  · obtain ⟨o, up, _, _, _, rfl, rfl⟩ := h
    rfl
  · obtain ⟨o, up, h1, hl, hb, rfl, rfl⟩ := h
    have nd := sc_steps_from.nd
    have h7 : o.length * o.length ≤ 7 * 7 := Nat.mul_le_mul hl hl
    refine hs_ret (ed_sortedO (d := o.length) (os := stepsTo o up) T.sorted (ED.is (ed_lc (own := [("first", 2), ("second", 3)]) (g := gTup K 2 (gCons (gName 2) (gCons (gName 3) gNil))) (ys := bareOut o up o.length o.length) (ι := oD) (f := fun p => oD (chgP o p)) nd (ei_list (ed_cl c2 hr (eds_cons (ed_var 0) (eds_1 (ed_var 1))) ⟨o, up, by omega, rfl, rfl⟩)) (blkOk_by (N := N_steps_from) (sc := defScope s_steps_from) (by decide +kernel)) (fun _ _ _ _ _ => pg_tup rfl (pgs_cons (pg_name (i := 2) nd rfl (.inl rfl)) (pgs_cons (pg_name (i := 3) nd rfl (.inl rfl)) pgs_nil))) gw_pair ?_ (fun m y hy => ?_)) ?_) h1 (stepsTo_al up hb) ?_) rfl
    · have := bareOut_len o up o.length o.length
      omega
    · obtain ⟨i, j, hij, hj, rfl⟩ := bare_mem hy
      refine ⟨_, gt_pair 2 3, fun s' H' C cl fp => ?_⟩
      exact ed_cl c1 hr (eds_cons (ed_var 0) (eds_cons (ed_var 2) (eds_1 (ed_var 3)))) ⟨o, i, j, hij, hj, by omega, rfl, rfl⟩
    · unfold stepsTo
      rw [List.map_map]
      rfl
    · have := stepsTo_len (o := o) up
      omega
abbrev G_drops (ds : List D) (d : D) : Prop := ∃ o : List Int, IsOrd o ∧ o.length ≤ 7 ∧ ds = [oD o] ∧ d = .list ((stepsO o false).map oD)
theorem ok_strong_drops (c1 : Cl P w K mg base 3 "need_order" ["value"] G_need) (c2 : Cl P w K mg base 2 "steps_from" ["order", "up"] G_steps) (F : Df K mg "strong_drops" s_strong_drops ["order"]) : Cl P w K mg base 4 "strong_drops" ["order"] G_drops := by
  refine F.ok sc_strong_drops (fun ds d h => ?_) (fun f cdv A outer s H E ds d hr h => ?_)
  · obtain ⟨o, _, _, rfl, rfl⟩ := h
    rfl
  · obtain ⟨o, ho, hl, rfl, rfl⟩ := h
    refine hs_expr (ed_cl c1 hr (eds_1 (ed_var 0)) ⟨o, ho, rfl, rfl⟩) ?_
    exact hs_ret (ed_cl c2 hr (eds_cons (ed_var 0) (eds_1 ed_bl)) ⟨o, false, ho.l1, hl, ho.bd, rfl, rfl⟩) rfl
/-! ### fours_of, is_smooth -/
def subTo (acc : List (List Int)) (x : Int) : List (List Int) := acc ++ (acc.filter fun s => decide (s.length < 4)).map fun s => s ++ [x]
def subs (o : List Int) : List (List Int) := o.foldl subTo [[]]
def foursO (o : List Int) : List (List Int) := (subs o).filter fun s => decide (s.length = 4)
theorem subs_snoc (o : List Int) (x : Int) : subs (o ++ [x]) = subTo (subs o) x := by
  unfold subs
  rw [List.foldl_append]
  rfl
theorem subTo_len (acc : List (List Int)) (x : Int) : (subTo acc x).length ≤ 2 * acc.length := by
  unfold subTo
  rw [List.length_append, List.length_map]
  have := List.length_filter_le (fun s => decide (s.length < 4)) acc
  omega
theorem subs_take_len (o : List Int) : ∀ i, i ≤ o.length → (subs (o.take i)).length ≤ 2 ^ i
  | 0, _ => by rw [List.take_zero]; exact Nat.le_refl _
  | i + 1, h => by
    rw [List.take_succ_eq_append_getElem (by omega), subs_snoc]
    have h1 := subs_take_len o i (by omega)
    have h2 := subTo_len (subs (o.take i)) o[i]
    rw [Nat.pow_succ]
    omega
theorem sub_lt4 {acc : List (List Int)} {x : Int} (h : ∀ s ∈ acc, s.length ≤ 4) : ∀ s ∈ subTo acc x, s.length ≤ 4 := fun s hs => by
  unfold subTo at hs
  rcases List.mem_append.mp hs with hs | hs
  · exact h s hs
  · obtain ⟨t, ht, rfl⟩ := List.mem_map.mp hs
    have := of_decide_eq_true (List.mem_filter.mp ht).2
    rw [List.length_append]
    exact this
abbrev G_fours (ds : List D) (d : D) : Prop := ∃ o : List Int, o.length ≤ 14 ∧ ds = [oD o] ∧ d = .list ((foursO o).map oD)
theorem subs_small {o : List Int} {i : Nat} (hl : o.length ≤ 14) (hi : i ≤ o.length) : (subs (o.take i)).length ≤ 16384 :=
  Nat.le_trans (subs_take_len o i hi) (Nat.le_trans (Nat.pow_le_pow_right (by decide) (show i ≤ 14 by omega)) (by decide))
theorem i4 (n : Nat) : decide ((n : Int) < 4) = decide (n < 4) := by
  by_cases h : n < 4
  · rw [decide_eq_true h, decide_eq_true (by omega)]
  · rw [decide_eq_false h, decide_eq_false (by omega)]
theorem e4 (n : Nat) : decide ((n : Int) = 4) = decide (n = 4) := by
  by_cases h : n = 4
  · rw [decide_eq_true h, decide_eq_true (by omega)]
  · rw [decide_eq_false h, decide_eq_false (by omega)]
theorem ok_fours_of (T : Fr mg) (F : Df K mg "fours_of" s_fours_of ["order"]) : Cl P w K mg base 1 "fours_of" ["order"] G_fours := by
  refine F.ok sc_fours_of (fun ds d h => ?_) (fun f cdv A outer s H E ds d hr h => ?_)
  · obtain ⟨o, _, rfl, rfl⟩ := h
    rfl
  · obtain ⟨o, hl, rfl, rfl⟩ := h
    have nd := sc_fours_of.nd
    refine hs_set 1 (d := .list ((subs []).map oD)) nd (ed_lst (eds_1 (ed_tup eds_nil))) ?_
    refine hs_for (xs := o.map PyData.int) (fun i st' => i ≤ o.length ∧ st' = [some (.d (oD o)), some (.d (.list ((subs (o.take i)).map oD))), none, none]) (pg_name (i := 2) nd rfl (.inr rfl)) (ei_tup (ed_var 0)) ⟨Nat.zero_le _, rfl⟩ (fun i d st' hd hst => ?_) (fun st' hst => ?_)
    · obtain ⟨_, rfl⟩ := hst
      have hi : i < o.length := by
        have := (List.getElem?_eq_some_iff.mp hd).1
        rwa [List.length_map] at this
      have ed : d = .int o[i] := by
        rw [List.getElem?_map, List.getElem?_eq_getElem hi] at hd
        exact (Option.some.inj hd).symm
      subst ed
      have hz := subs_small hl (Nat.le_of_lt hi)
      refine ⟨_, gt_name 2, ?_⟩
      refine hs_set 1 (d := .list ((subs (o.take (i + 1))).map oD)) nd (ED.is (ed_addL ?_ (ed_var 1) (ed_lcIf (own := [("some", 3)]) (g := gName 3) (ys := subs (o.take i)) (ι := oD) (f := fun x => oD (x ++ [o[i]])) (p := fun x => decide (x.length < 4)) nd (ei_list (ed_var 1)) (blkOk_by (N := N_fours_of) (sc := defScope s_fours_of) (by decide +kernel)) (fun _ _ _ _ _ => pg_name (i := 3) nd rfl (.inl rfl)) gw_name (by omega) (fun m y _ => ⟨_, gt_name 3, fun s' H' C cl fp => ?_, fun hp s' H' C cl fp => ?_⟩))) ?_) ?_
      · rw [List.length_map, List.length_map]
        have h2 := List.length_filter_le (fun x : List Int => decide (x.length < 4)) (subs (o.take i))
        omega
      · exact ET.is (et_ltI (ed_lenO T.len (ed_var 3)) ed_int) (i4 _)
      · refine ed_addO ?_ (ed_var 3) (ed_tup1 (ed_var 2))
        have := of_decide_eq_true hp
        simp
        omega
      · rw [List.take_succ_eq_append_getElem hi, subs_snoc]
        unfold subTo
        rw [List.map_append, List.map_map]
        rfl
      · exact hs_end (st1 := [some (.d (oD o)), some (.d (.list ((subs (o.take (i + 1))).map oD))), none, none]) ⟨hi, rfl⟩ (.so (.so (.no (.no .nil))))
    · obtain ⟨_, rfl⟩ := hst
      rw [List.length_map, List.take_length]
      have hz := subs_small hl (Nat.le_refl _)
      rw [List.take_length] at hz
      refine hs_ret (ed_lcIf (own := [("some", 3)]) (g := gName 3) (ys := subs o) (ι := oD) (f := oD) (p := fun x => decide (x.length = 4)) nd (ei_list (ed_var 1)) (blkOk_by (N := N_fours_of) (sc := defScope s_fours_of) (by decide +kernel)) (fun _ _ _ _ _ => pg_name (i := 3) nd rfl (.inl rfl)) gw_name (by omega) (fun m y _ => ⟨_, gt_name 3, fun s' H' C cl fp => ?_, fun hp s' H' C cl fp => ed_var 3⟩)) rfl
      exact ET.is (et_eqI (ed_lenO T.len (ed_var 3)) ed_int) (e4 _)
def roughL (y : List Int) : Bool := roughB (y.getD 0 0) (y.getD 1 0) (y.getD 2 0) (y.getD 3 0)
theorem four_of : ∀ {y : List Int}, y.length = 4 → y = [y.getD 0 0, y.getD 1 0, y.getD 2 0, y.getD 3 0]
  | [a, b, c, d], _ => rfl
def smoothB (o : List Int) : Bool := !((foursO o).any roughL)
abbrev G_smooth (ds : List D) (d : D) : Prop := ∃ o : List Int, IsOrd o ∧ o.length ≤ 14 ∧ ds = [oD o] ∧ d = .bool (smoothB o)
theorem ok_is_smooth (T : Fr mg) (c1 : Cl P w K mg base 3 "need_order" ["value"] G_need) (c2 : Cl P w K mg base 1 "is_rough" ["four"] G_is_rough) (c3 : Cl P w K mg base 1 "fours_of" ["order"] G_fours) (F : Df K mg "is_smooth" s_is_smooth ["order"]) : Cl P w K mg base 4 "is_smooth" ["order"] G_smooth := by
  refine F.ok sc_is_smooth (fun ds d h => ?_) (fun f cdv A outer s H E ds d hr h => ?_)
  · obtain ⟨o, _, _, rfl, rfl⟩ := h
    rfl
  · obtain ⟨o, ho, hl, rfl, rfl⟩ := h
    have nd := sc_is_smooth.nd
    refine hs_expr (ed_cl c1 hr (eds_1 (ed_var 0)) ⟨o, ho, rfl, rfl⟩) ?_
    have hz := subs_small hl (Nat.le_refl _)
    rw [List.take_length] at hz
    refine hs_ret (ed_not (ed_any (bs := (foursO o).map roughL) T.any (ED.is (ed_lc (own := [("four", 1)]) (g := gName 1) (ys := foursO o) (ι := oD) (f := fun y => .bool (roughL y)) nd (ei_list (ed_cl c3 hr (eds_1 (ed_var 0)) ⟨o, hl, rfl, rfl⟩)) (blkOk_by (N := N_is_smooth) (sc := defScope s_is_smooth) (by decide +kernel)) (fun _ _ _ _ _ => pg_name (i := 1) nd rfl (.inl rfl)) gw_name ?_ (fun m y hy => ⟨_, gt_name 1, fun s' H' C cl fp => ?_⟩)) ?_))) ?_
    · have := List.length_filter_le (fun s : List Int => decide (s.length = 4)) (subs o)
      unfold foursO
      omega
    · have h4 := of_decide_eq_true (List.mem_filter.mp hy).2
      exact ed_cl c2 hr (eds_1 (ed_var 1)) ⟨_, _, _, _, by rw [← four_of h4], rfl⟩
    · rw [List.map_map]
      rfl
    · show _ = _
      unfold smoothB
      rw [List.any_map]
      rfl
/-! ### side_by_side -/
def besO (o u : List Int) : List Int := o ++ u.map fun x => x + (o.length : Int)
abbrev G_side (ds : List D) (d : D) : Prop := ∃ o u : List Int, IsOrd o ∧ IsOrd u ∧ o.length + u.length ≤ 30 ∧ ds = [oD o, oD u] ∧ d = oD (besO o u)
theorem ok_side_by_side (T : Fr mg) (c1 : Cl P w K mg base 3 "need_order" ["value"] G_need) (c2 : Cl P w K mg base 1 "need_few" ["many", "limit"] G_few) (c3 : Cl P w K mg base 1 "beside" ["one", "other"] G_beside) (F : Df K mg "side_by_side" s_side_by_side ["one", "other"]) : Cl P w K mg base 4 "side_by_side" ["one", "other"] G_side := by
  refine F.ok sc_side_by_side (fun ds d h => ?_) (fun f cdv A outer s H E ds d hr h => ?_)
  · obtain ⟨o, u, _, _, _, rfl, rfl⟩ := h
    rfl
  · obtain ⟨o, u, ho, hu, hl, rfl, rfl⟩ := h
    obtain ⟨tt, ht⟩ := T.things
    refine hs_expr (ed_cl c1 hr (eds_1 (ed_var 0)) ⟨o, ho, rfl, rfl⟩) ?_
    refine hs_expr (ed_cl c1 hr (eds_1 (ed_var 1)) ⟨u, hu, rfl, rfl⟩) ?_
    refine hs_expr (ed_cl c2 hr (eds_cons (ed_addI (ed_lenO T.len (ed_var 0)) (ed_lenO T.len (ed_var 1))) (eds_1 (ed_globI ht))) ⟨_, _, by omega, rfl, rfl⟩) ?_
    exact hs_ret (ed_cl c3 hr (eds_cons (ed_var 0) (eds_1 (ed_var 1))) ⟨o, u, by omega, by omega, rfl, rfl⟩) rfl
end
end K45
set_option maxHeartbeats 4000000
/-! set(list of tuples) where the distinct ones are few; sorted(set(list)). -/
namespace K45
open PySem PySem.Spec PyProof.Rows L2
section
variable {P : Program} {w : World} {A : Around} {E : Value → Shared → Prop} {s : Shared}
/-- what is true of a set being filled, ahead of the i-th item -/
def FillT (P : Program) (w : World) (S : Addr) (ks : List (Addr × List Int)) (i : Nat) (h : Heap) : Prop := ∃ L es ep t, SetTR P w h S L es ep t ∧ Got ks i L
theorem FillT.keep {S : Addr} {ks : List (Addr × List Int)} {i : Nat} {h h' : Heap} (f : FillT P w S ks i h) (hS : ∀ o, h.get? S = some o → h'.get? S = some o) (hk : ∀ p ∈ ks, IsT P w h' p.2 p.1) : FillT P w S ks i h' := by
  obtain ⟨L, es, ep, t, R, g⟩ := f
  exact ⟨L, es, ep, t, R.keep hS fun p hp => hk p (List.mem_of_mem_take (g.sub p hp)), g⟩
/-- at most 62 distinct tuples -/
def Few (os : List (List Int)) : Prop := ∀ L : List (List Int), L.Nodup → (∀ o ∈ L, o ∈ os) → L.length < 63
theorem FillT.step {S : Addr} {ks : List (Addr × List Int)} {i : Nat} (f : FillT P w S ks i s.heap) (few : Few (ks.map (·.2))) (hk : ∀ p ∈ ks, IsT P w s.heap p.2 p.1) {p : Addr × List Int} (hp : ks[i]? = some p) (hu : A.units < cLine) {Q : Bool → Shared → Prop}
    (q : ∀ b h', Heap.SameBut S s.heap h' → FillT P w S ks (i + 1) h' → Q b { s with heap := h' }) : wpAny (model P w) A (setAddHashed S (.ref p.1) (thash P w p.2)) Q E s := by
  obtain ⟨L, es, ep, t, R, g⟩ := f
  have sm : L.length + 1 < 64 := by
    have := few (L.map (·.2)) R.nd fun o ho => by
      obtain ⟨x, hx, rfl⟩ := List.mem_map.mp ho
      exact List.mem_map_of_mem (List.mem_of_mem_take (g.sub x hx))
    rw [List.length_map] at this
    omega
  refine L2.add_at R (hk p (List.mem_of_getElem? hp)) hu sm fun b h1 L1 es1 ep1 t1 same R1 old new => q b h1 same ⟨L1, es1, ep1, t1, R1, ?_⟩
  by_cases c : p.2 ∈ L.map (·.2)
  · exact (old c) ▸ Got.same g hp c
  · exact Got.more g hp (new c)
/-- the loop of set.update -/
theorem fillLoop {I S : Addr} {fp wr : List Addr} {G : Array GenState → Array GenState → Prop} {n : Nat} {Pv : Nat → Value → Prop} {St : Nat → Shared → Prop} {R : Result → Shared → Prop} (W : WalksS P w A.in1 I fp wr G n Pv St) (off : S ∉ fp)
    (ks : List (Addr × List Int)) (few : Few (ks.map (·.2))) (hv : ∀ i v, Pv i v → ∃ p, ks[i]? = some p ∧ v = .ref p.1) (h0 : Heap) (hk : ∀ h' : Heap, (∀ b o, h0.get? b = some o → h'.get? b = some o) → ∀ p ∈ ks, IsT P w h' p.2 p.1) (n1 : h0.get? S = none) (n2 : ∀ b ∈ wr, h0.get? b = none)
    (hu : A.in1.units < cLine) : ∀ (k i : Nat) (s : Shared), n - i = k → i ≤ n → St i s → (∀ b o, h0.get? b = some o → s.heap.get? b = some o) → FillT P w S ks i s.heap →
      (∀ s', Moved (S :: wr) G s s' → FillT P w S ks n s'.heap → (∀ b o, h0.get? b = some o → s'.heap.get? b = some o) → R (.ok (.ret .none)) s') → codeAny (model P w) A (.builtin "set.update.loop" ⟨[.ref S, .ref I], []⟩) R s := by
  have wS : S ∉ wr := fun z => off (W.sub _ z)
  have kept : ∀ {u u' : Shared}, Moved wr G u u' → (∀ b o, h0.get? b = some o → u.heap.get? b = some o) → ∀ b o, h0.get? b = some o → u'.heap.get? b = some o := fun {u u'} mv q b o e => mv.heap b o (fun z => nomatch (n2 b z).symm.trans e) (q b o e)
  have more : ∀ {u u' : Shared}, Moved wr G u u' → Moved (S :: wr) G u u' := fun mv => mv.mono fun b z => List.mem_cons_of_mem S z
  intro k
  induction k with
  | zero =>
    intro i s z hi st ke fl fin
    obtain rfl : i = n := by omega
    refine codeAny_builtin (F.entry_set_update_loop) ?_
    rw [Around.under_plainId (F.plain_set_update_loop) _]
    refine wpAny_bind (Q := _) (W.done s _ _ st fun u mv => ?_)
    have ke' := kept mv ke
    exact wpAny_pure (fin u (more mv) (fl.keep (fun o e => mv.heap S o wS e) (hk _ ke')) ke')
  | succ k ih =>
    intro i s z hi st ke fl fin
    have lt : i < n := by omega
    refine codeAny_builtin (F.entry_set_update_loop) ?_
    rw [Around.under_plainId (F.plain_set_update_loop) _]
    refine wpAny_bind (Q := _) (W.item i s _ _ lt st fun v u pv st' mv => ?_)
    obtain ⟨p, hp, rfl⟩ := hv i v pv
    have ke' := kept mv ke
    have tups := hk _ ke'
    refine wpAny_bind (Q := _) (wpAny_holding ?_)
    unfold setAdd
    refine wpAny_holding (wpAny_bind (wpAny_pyHash_tuple hu (tups p (List.mem_of_getElem? hp)) ?_))
    refine FillT.step (s := { u with toks := u.toks + (p.2.length + 1) }) (fl.keep (fun o e => mv.heap S o wS e) tups) few tups hp hu fun b h' same fl' => ?_
    have ke2 : ∀ c o, h0.get? c = some o → h'.get? c = some o := fun c o e => (same.2 c fun q => nomatch (q ▸ n1).symm.trans e).trans (ke' c o e)
    refine wpAny_pure ⟨plainId_quiet (F.plain_set_update_loop) _, ih (i + 1) _ (by omega) lt (W.frame _ u _ _ st' (Nat.le_add_right _ _) fun c hc o e => ?_) ke2 fl' fun u2 mv2 fl2 ke3 => fin u2 ?_ fl2 ke3⟩
    · exact (same.2 c fun q => off (q ▸ hc)).trans e
    · exact Moved.trans W.gtrans ((more mv).then_heap (Nat.le_add_right _ _) fun c o hc e => (same.2 c fun q => hc (q ▸ List.mem_cons_self)).trans e) mv2
/-- the new, empty set -/
abbrev set0 (w : World) : Obj := { cls := .type "set", dict := none, data := .set #[] 0 (.fresh 0 0 (!w.params.followText "set-order")) }
theorem call_setFew {l : Addr} {items : Array Value} (ks : List (Addr × List Int)) {Q : Value → Shared → Prop} (cool : A.handled = none) (hl : s.heap.IsList l items) (hit : items.toList = ks.map fun p => Value.ref p.1) (hk : ∀ p ∈ ks, IsT P w s.heap p.2 p.1)
    (few : Few (ks.map (·.2))) (hu : A.units + 3 < cLine) (q : ∀ (h' : Heap) (tk : Nat) L es ep t, SetTR P w h' s.heap.objs.size L es ep t → Got ks ks.length L → (∀ b o, s.heap.get? b = some o → h'.get? b = some o) → Q (.ref s.heap.objs.size) { s with heap := h', toks := tk }) :
    wpAny (model P w) A (call (.type "set") [.ref l]) Q E s := by
  have size : items.size = ks.length := by
    have e := congrArg List.length hit
    rwa [Array.length_toList, List.length_map] at e
  have nobody : ∀ b, s.heap.objs.size ≤ b → s.heap.get? b = none := fun b hb => by
    cases e : s.heap.get? b with
    | none => rfl
    | some o => exact absurd (Heap.lt_size e) (Nat.not_lt.mpr hb)
  obtain ⟨c, tl, mro⟩ := F.called_set.mro
  have made := F.called_set.made
  have sub := F.called_set.sub
  refine wpAny_call (codeAny_of_tree (wpAny_pure ⟨Code.quiet_builtin _ (by decide +kernel), codeAny_builtin F.entry_type_call ?_⟩))
  rw [Around.under_plain (weight_type_call_type "set" [Value.ref l] []) rfl]
  have b1 := F.called_set.notType
  have b2 := F.called_set.canCreate
  have b3 := F.typeCall_set_1 (Value.ref l)
  repeat (any_goals (first | assumption | wp_step))
  refine codeAny_mono (code_set_led1 (Value.ref l) (E := E) (Q₁ := fun v u => v = .ref s.heap.objs.size ∧ u = { s with heap := s.heap.push (set0 w) }) ⟨rfl, rfl⟩) fun r u hr => ?_
  cases r with
  | error e => exact hr
  | ok fl =>
    cases fl with
    | ret v =>
      obtain ⟨rfl, rfl⟩ := hr
      have at0 : (s.heap.push (set0 w)).get? s.heap.objs.size = some (set0 w) := Heap.get?_push_size _ rfl
      have ty0 : Shared.TypeIs { s with heap := s.heap.push (set0 w) } (.ref s.heap.objs.size) "set" := ⟨_, at0, rfl⟩
      have i1 := F.called_set.init.lookup
      have i2 := F.called_set.init.bind (Value.ref s.heap.objs.size)
      repeat (any_goals (first | assumption | wp_step))
      refine codeAny_mono (codeAny_call_builtin (R := wants (fun r u2 => r = .none ∧ ∃ h' tk L es ep t, u2 = { s with heap := h', toks := tk } ∧ SetTR P w h' s.heap.objs.size L es ep t ∧ Got ks ks.length L ∧ ∀ b o, s.heap.get? b = some o → h'.get? b = some o) E)
        F.called_set.init.plain F.entry_set_init (check_set_init_1 ty0 ?_)) fun r2 u2 hr2 => ?_
      · obtain ⟨⟨k1, k2, k3, k4⟩, hol, hcl, nl, hdl⟩ := hl
        simp only at hcl hdl
        subst hcl hdl
        have atl : (s.heap.push (set0 w)).get? l = some { cls := .type "list", dict := k2, data := .seq items nl, slots := k4 } := Heap.get?_push_of_some _ hol
        have notSet := F.sub_list_set
        have notFrozen := F.sub_list_frozenset
        have notDict : (Value.type "list" == Value.type "dict") = false := by decide
        have isl : (s.heap.push (set0 w)).IsList l items := ⟨_, atl, rfl, nl, rfl⟩
        have lb : l < s.heap.objs.size := Heap.lt_size hol
        have more : (s.heap.push (set0 w)).objs.size = s.heap.objs.size + 1 := Heap.size_push ..
        unfold Builtin.«set.__init__» noKeywords Builtin.Frozenset.updateFrom
        generalize walk : pyIter = PI
        wp_walk
        subst walk
        refine wpAny_pyIter_list isl (wpAny_bind (wpAny_runValue ?_))
        have cool3 : A.in1.in1.in1.handled = none := by simp [cool]
        refine fillLoop (S := s.heap.objs.size) ((Walks.list cool3 (s.heap.push (set0 w)).objs.size l (by rw [more]; exact Nat.ne_of_lt (Nat.lt_succ_of_lt lb)) items).toS) (by
            rw [more]
            intro z
            rcases List.mem_cons.mp z with z | z
            · exact Nat.ne_of_lt (Nat.lt_succ_self _) z
            · exact Nat.ne_of_gt lb (List.mem_singleton.mp z)) ks few (fun i v hv => ?_) s.heap (fun h' ke p hp => isT_keep (hk p hp) ke) (nobody _ (Nat.le_refl _)) (fun b hb => nobody b (by
            rw [List.mem_singleton.mp hb, more]
            exact Nat.le_succ _)) hu (items.size - 0) 0 _ (by omega) (Nat.zero_le _) ⟨⟨_, Heap.get?_push_size _ rfl, rfl, rfl⟩, isl.push _⟩
          (fun b o e => Heap.get?_push_of_some _ (Heap.get?_push_of_some _ e)) ⟨[], #[], 0, _, setTR_fresh (Heap.get?_push_of_some _ at0), Got.zero ks⟩ fun u3 mv ⟨L, es, ep, t, R3, g3⟩ ke => ?_
        · have e : items.toList[i]? = some v := by rw [Array.getElem?_toList]; exact hv
          rw [hit, List.getElem?_map] at e
          obtain ⟨p, hp, ev⟩ := Option.map_eq_some_iff.mp e
          exact ⟨p, hp, ev.symm⟩
        · obtain ⟨h3, g2, d2, t2, o2⟩ := u3
          have e1 : g2 = s.gens := mv.gens
          have e2 : d2 = s.drawn := mv.drawn
          have e3 : o2 = s.os := mv.os
          subst e1 e2 e3
          rw [size] at g3
          exact wpAny_pure (wpAny_pure ⟨rfl, h3, t2, L, es, ep, t, rfl, R3, g3, ke⟩)
      · cases r2 with
        | error e => exact hr2
        | ok fl2 =>
          cases fl2 with
          | ret r =>
            obtain ⟨rfl, h3, t2, L, es, ep, t, rfl, R3, g3, ke⟩ := hr2
            repeat (any_goals (first | assumption | wp_step))
            exact q _ _ _ _ _ _ R3 g3 ke
          | _ => exact hr2.elim
    | _ => exact hr.elim
end
end K45
set_option maxHeartbeats 4000000
/-! sorted(set(list of tuples)) over data. -/
namespace K45
open PySem PySem.Spec PyProof.Rows L2
section
variable {X : Cx}
def rSetFew (K : PySem.W.Frag) (P : Program) (w : World) : List V → Hp → VK → Prop := fun xs H Q => ∃ (l : Addr) (ks : List (Addr × List Int)), xs = [V.ref l] ∧ SqL K H l (ks.map fun p => V.ref p.1) ∧ (∀ p ∈ ks, SqT K H p.1 (p.2.map V.int)) ∧ Few (ks.map (·.2)) ∧
  ∀ a L, H a = none → (∀ p ∈ L, p ∈ ks) → (∀ p ∈ ks, p.2 ∈ L.map (·.2)) → Q (.ref a) (upd H a (SetTO P w a L))
theorem cr_setFew (hc : X.calm = true) (hu : X.A.units + 64 < cLine) : CallR X (.type "set") (rSetFew X.K X.prog X.w) := fun pins s σ H xs us Q I r ⟨l, ks, ex, hl, hk, hf, q⟩ => by
  subst ex
  rw [Vals.ref1 r]
  obtain ⟨its, rv, pl, _⟩ := I.list hl
  refine call_setFew (P := X.prog) (w := X.w) ks (I.ok.hd hc) pl.isList (by simpa using refs_of_vals rv) (fun p hp => I.isT (hk p hp)) hf (by omega) fun h' tk L es ep t R g ke => ?_
  refine ⟨.ref s.heap.objs.size, _, I.laid (t' := tk) ke (Nat.le_refl _) (setTO_new R.t0), rfl, q _ L (I.hok.fresh (Nat.le_refl _)) (fun p hp => List.mem_of_mem_take (g.sub p hp)) fun p hp => g.all p ?_⟩
  rwa [List.take_length]
end
section
variable {X : Cx} {st : Sto} {e : Expr} {pos p p2 : Pos} {K : PySem.W.Frag} {B H : Hp}
theorem DqAll.keys {xs : List V} : ∀ {os : List (List Int)}, DqAll K B xs (os.map oD) → ∃ ks : List (Addr × List Int), xs = ks.map (fun p => V.ref p.1) ∧ ks.map (·.2) = os ∧ ∀ p ∈ ks, SqT K B p.1 (p.2.map V.int)
  | [], h => by cases h; exact ⟨[], rfl, rfl, fun _ z => nomatch z⟩
  | o :: os, h => by
    cases h with
    | cons h1 h2 =>
      obtain ⟨t, us, rfl, ht, ha⟩ := h1.tup_inv
      rw [ha.ints_inv] at ht
      obtain ⟨ks, rfl, e, q⟩ := DqAll.keys h2
      refine ⟨(t, o) :: ks, rfl, by rw [List.map_cons, e], fun p hp => ?_⟩
      rcases List.mem_cons.mp hp with rfl | hp
      · exact ht
      · exact q p hp
theorem DqAll.of_keys : ∀ (ks : List (Addr × List Int)), (∀ p ∈ ks, SqT K B p.1 (p.2.map V.int)) → DqAll K B (ks.map fun p => V.ref p.1) ((ks.map (·.2)).map oD)
  | [], _ => .nil
  | p :: ks, h => .cons (.tup (h p List.mem_cons_self) (DqAll.ints _)) (DqAll.of_keys ks fun q hq => h q (List.mem_cons_of_mem _ hq))
theorem strict_of {d : Nat} : ∀ {l : List (List Int)}, Al d l → l.Nodup → l.Pairwise (fun a b => cd a ≤ cd b) → l.Pairwise (fun a b => cd a < cd b)
  | [], _, _, _ => List.Pairwise.nil
  | x :: l, ha, nd, h => by
    obtain ⟨h1, h2⟩ := List.pairwise_cons.mp h
    obtain ⟨n1, n2⟩ := List.nodup_cons.mp nd
    refine List.pairwise_cons.mpr ⟨fun y hy => ?_, strict_of (fun o ho => ha o (List.mem_cons_of_mem _ ho)) n2 h2⟩
    have a1 := ha x List.mem_cons_self
    have a2 := ha y (List.mem_cons_of_mem _ hy)
    rcases Int.lt_or_eq_of_le (h1 y hy) with q | q
    · exact q
    · exact absurd (cd_inj (a1.1.trans a2.1.symm) a1.2 a2.2 q ▸ hy) n1
theorem nodup_le {α : Type} [DecidableEq α] : ∀ {L M : List α}, L.Nodup → (∀ x ∈ L, x ∈ M) → L.length ≤ M.length
  | [], _, _, _ => Nat.zero_le _
  | x :: L, M, nd, h => by
    obtain ⟨n1, n2⟩ := List.nodup_cons.mp nd
    have hx := h x List.mem_cons_self
    have ih := nodup_le (M := M.erase x) n2 fun y hy => (List.mem_erase_of_ne (show y ≠ x from fun e => n1 (by rw [← e]; exact hy))).mpr (h y (List.mem_cons_of_mem _ hy))
    rw [List.length_erase_of_mem hx] at ih
    have : 0 < M.length := List.length_pos_of_mem hx
    rw [List.length_cons]
    omega
theorem few_dd {d : Nat} {os : List (List Int)} (ha : Al d os) (h : (dd os).length < 63) : Few os := fun L nd sub => by
  have h1 : ∀ o ∈ L, o ∈ dd os := fun o ho => (dd_mem ha).mpr (sub o ho)
  have h2 : L.length ≤ (dd os).length := nodup_le nd h1
  omega
theorem ed_sortedSet {os : List (List Int)} {d : Nat} {q2 : Pos} (hm : X.mg "sorted" = none) (hm2 : X.mg "set" = none) (hu : X.A.units + 64 < cLine) (h : ED X st e (.list (os.map oD))) (hd : 1 ≤ d) (ha : Al d os) (hl : (dd os).length < 63) (hc : X.calm = true := by rfl) (hg : Gl X "sorted" := by rfl) (hg2 : Gl X "set" := by rfl)
    (he : starEach [e] X.env = (false, eval e X.env) :: starEach [] X.env := by rfl) (he2 : starEach [.Call (.Name "set" p2) [e] [] q2] X.env = (false, eval (.Call (.Name "set" p2) [e] [] q2) X.env) :: starEach [] X.env := by rfl) :
    ED X st (.Call (.Name "sorted" p) [.Call (.Name "set" p2) [e] [] q2] [] pos) (.list ((dd os).map oD)) := fun m H0 B H σ s l Q q =>
  WE.of (pe_callB (cr_sortedT hc) hg hm (by decide +kernel) (pa_cons (pe_callTy (cr_setFew hc hu) hg2 hm2 PyProof.Rows.boot_set (pa_cons peW pa_nil he) (he := he) (hpl := by rfl)) pa_nil he2) (he := he2) (hpl := by rfl)) (h.any s l fun v B1 H1 n1 d1 => by
    obtain ⟨r, us, rfl, t1, a1⟩ := d1.lst_inv
    obtain ⟨ks, rfl, eo, hk⟩ := a1.keys
    refine ⟨r, ks, rfl, SqL.of (n1.i _ _ t1), fun x hx => sqT_mono n1.i (hk x hx), by rw [eo]; exact few_dd ha hl, fun a L hn s1 s2 => ?_⟩
    have n2 := n1.trans (Nx.new (o := SetTO X.prog X.w a L) n1.i hn)
    have hk2 : ∀ x ∈ L, SqT X.K (upd B1 a (SetTO X.prog X.w a L)) x.1 (x.2.map V.int) := fun x hx => sqT_mono (same_new (same_sub n1.i hn)) (hk x (s1 x hx))
    have sub : ∀ x ∈ L, x.2 ∈ os := fun x hx => by
      rw [← eo]
      exact List.mem_map_of_mem (s1 x hx)
    refine ⟨a, L, d, 64, rfl, upd_same, fun x hx => sqT_mono n2.i (hk2 x hx), hd, fun x hx => ha _ (sub x hx), fun L2 p3 pm nd _ srt hn2 => ?_⟩
    have e : L2.map (·.2) = dd os := by
      have al2 : Al d (L2.map (·.2)) := fun o ho => by
        obtain ⟨x, hx, rfl⟩ := List.mem_map.mp ho
        exact ha _ (sub x (pm.mem_iff.mp hx))
      refine dd_one ha (fun z => ?_) (strict_of al2 nd (List.pairwise_map.mpr srt))
      constructor
      · intro hz
        obtain ⟨x, hx, rfl⟩ := List.mem_map.mp hz
        exact sub x (pm.mem_iff.mp hx)
      · intro hz
        rw [← eo] at hz
        obtain ⟨x, hx, rfl⟩ := List.mem_map.mp hz
        exact ((pm.map (·.2)).mem_iff).mpr (s2 x hx)
    refine q _ (upd (upd B1 a (SetTO X.prog X.w a L)) p3 (.lst (L2.map fun x => V.ref x.1))) _ (n2.trans (Nx.new n2.i hn2)) (.lst upd_same ?_)
    rw [← e]
    exact DqAll.up (same_new (same_sub n2.i hn2)) (DqAll.of_keys L2 fun x hx => hk2 x (pm.mem_iff.mp hx)))
end
end K45
set_option maxHeartbeats 4000000
/-! Values that are no data; dicts; ranges down; own lists. -/
namespace K45
open PySem PySem.Spec PyProof.Rows L2
section
variable {X : Cx} {st st1 st2 : Sto} {e e1 e2 e3 : Expr} {a b c d : D} {ds : List D} {pos p p2 p3 : Pos} {K : PySem.W.Frag} {m : Option Addr} {B H H0 B0 Bf B2 H2 : Hp} {σ : St} {rest body : List Stmt} {E : EndD}
/-- the expression gives a value of which φ holds -/
def EX (X : Cx) (st : Sto) (e : Expr) (φ : V → Hp → Prop) : Prop := ∀ (m : Option Addr) (H0 B H : Hp) (σ : St), Same B H → Sl X.K m H0 B H st σ →
  ∀ Q : VK, (∀ v B2 H2, Nx none B H B2 H2 → φ v B2 → Q v H2) → WE X e σ H Q
theorem hs_setX (i : Nat) {φ : V → Hp → Prop} {up : ∀ v H H', Same H H' → φ v H → φ v H'} {x : Str} {p' : Pos} (nd : X.N.Nodup) (he : EX X st e φ) (h : HS X m (st.set i (some (.x φ up))) rest E) (hi : X.N[i]? = some x := by rfl) (hx : Loc X.env.scope x := by first | exact Or.inl rfl | exact Or.inr rfl)
    (hs : swapsWith e (some (.Name x p')) pos.line X.env = pure false := by rfl) (hf : X.fn x = true ∨ X.env.scope.names.lookup x = some .local := by first | exact .inl rfl | exact .inr rfl) : HS X m st (.Assign [.Name x p'] e pos :: rest) E :=
  hs_cons fun Bf B0 H0 σ H o => by
    obtain ⟨B, sm, f, l, g, n, up2⟩ := o.nx
    refine WS.of (ps_set nd hi hx peW hs hf) (he m H0 B H σ sm l _ fun v B1 H1 n1 d1 => ?_)
    exact ⟨_, h, B1, f.trans n1.b, n.trans n1.any, g.nx n1, (l.nx n1.any).set i d1⟩
theorem ex_var (i : Nat) {φ : V → Hp → Prop} {up : ∀ v H H', Same H H' → φ v H → φ v H'} {x : Str} (hs : st[i]? = some (some (.x φ up)) := by rfl) (hN : X.N[i]? = some x := by rfl) (hv : Vis X.env.scope x := by first | exact Or.inl rfl | exact Or.inr (Or.inl rfl) | exact Or.inr (Or.inr rfl))
    (hd : (x == ("__debug__" : Str)) = false := by decide) (hcd : (x == ("__classdict__" : Str)) = false := by decide) : EX X st (.Name x pos) φ := fun m H0 B H σ s l Q q => by
  obtain ⟨v, h1, h2⟩ := l.2 i _ hs
  exact WE.of (pe_var hN hv hd hcd) ⟨v, h1, q v B H (Nx.refl s) h2⟩
/-! ### dicts of ints -/
/-- a dict made of such pairs -/
def TabOf (ps : List (Int × Int)) (v : V) (H : Hp) : Prop := ∃ t, v = .ref t ∧ H t = some (.dK (mergeK [] (ps.map fun q => ((Sum.inl q.1 : Key), V.int q.2))))
theorem TabOf.up (ps : List (Int × Int)) : ∀ v H H', Same H H' → TabOf ps v H → TabOf ps v H' := fun v H H' s ⟨t, e, h⟩ => ⟨t, e, s _ _ h⟩
theorem merge_skip {k : Key} : ∀ {more kvs : List (Key × V)}, (∀ q ∈ more, q.1 ≠ k) → valV (mergeK kvs more) k = valV kvs k
  | [], _, _ => rfl
  | q :: more, kvs, h => by
    have e := merge_skip (more := more) (kvs := putK kvs q.1 q.2) fun r hr => h r (List.mem_cons_of_mem _ hr)
    refine (show valV (mergeK (putK kvs q.1 q.2) more) k = _ from e).trans ?_
    rw [valV_put, if_neg fun z => h q List.mem_cons_self z.symm]
theorem merge_at {k : Key} {y : V} : ∀ {more kvs : List (Key × V)}, (more.map (·.1)).Nodup → (k, y) ∈ more → valV (mergeK kvs more) k = some y
  | q :: more, kvs, nd, h => by
    obtain ⟨n1, n2⟩ := List.nodup_cons.mp nd
    show valV (mergeK (putK kvs q.1 q.2) more) k = _
    rcases List.mem_cons.mp h with e | h
    · rw [merge_skip fun r hr z => n1 (by
        rw [← e]
        show k ∈ _
        rw [← z]
        exact List.mem_map_of_mem hr), valV_put, ← e, if_pos rfl]
    · exact merge_at n2 h
theorem pair_keys {us : List V} : ∀ {ps : List (Int × Int)}, DqAll K B us (ps.map fun q => oD [q.1, q.2]) → Same B H → ∃ as : List Addr, us = as.map V.ref ∧ Paired (fun t kv => SqT K H t [kV kv.1, kv.2]) as (ps.map fun q => ((Sum.inl q.1 : Key), V.int q.2))
  | [], h, _ => by cases h; exact ⟨[], rfl, .nil⟩
  | q :: ps, h, s => by
    cases h with
    | cons h1 h2 =>
      obtain ⟨t, vs, rfl, ht, ha⟩ := h1.tup_inv
      have e := DqAll.ints_inv (ns := [q.1, q.2]) ha
      subst e
      obtain ⟨as, rfl, r⟩ := pair_keys h2 s
      exact ⟨t :: as, rfl, .cons (sqT_mono s ht) r⟩
theorem ex_dictP {ps : List (Int × Int)} (hm : X.mg "dict" = none) (h : ED X st e (.list (ps.map fun q => oD [q.1, q.2]))) (hc : X.calm = true := by rfl) (hg : Gl X "dict" := by rfl) (he : starEach [e] X.env = (false, eval e X.env) :: starEach [] X.env := by rfl) :
    EX X st (.Call (.Name "dict" p) [e] [] pos) (TabOf ps) := fun m H0 B H σ s l Q q =>
  WE.of (pe_callTy (call_dictP hc) hg hm (by decide +kernel) (pa_cons peW pa_nil he) (he := he) (hpl := by rfl)) (h.any s l fun v B1 H1 n1 d1 => by
    obtain ⟨r, us, rfl, t1, a1⟩ := d1.lst_inv
    obtain ⟨as, rfl, pr⟩ := pair_keys a1 n1.i
    exact ⟨r, as, _, rfl, SqL.of (n1.i _ _ t1), pr, fun t ht => q _ (upd B1 t _) _ (n1.trans (Nx.new n1.i ht)) ⟨t, rfl, upd_same⟩⟩)
theorem ed_tabAt {ps : List (Int × Int)} {k y : Int} (hu : X.A.units + 1 < cLine) (h1 : EX X st e1 (TabOf ps)) (h2 : ED X st e2 (.int k)) (nd : (ps.map (·.1)).Nodup) (hm : (k, y) ∈ ps) (hs : NoSl e2 := by exact fun _ _ => rfl) : ED X st (.Subscript e1 e2 pos) (.int y) := fun m H0 B H σ s l Q q =>
  WE.of (pe_dget hu peW peW hs) (h1 m H0 B H σ s l _ fun v B1 H1 n1 ⟨t, ev, ht⟩ => h2.any n1.i (l.nx n1.any) fun w B2 H2 n2 d2 => by
    subst ev
    rw [d2.int_inv]
    have e : valV (mergeK [] (ps.map fun q => ((Sum.inl q.1 : Key), V.int q.2))) (Sum.inl k) = some (V.int y) := by
      refine merge_at ?_ (List.mem_map.mpr ⟨(k, y), hm, rfl⟩)
      rw [List.map_map]
      have e2 : (Prod.fst ∘ fun q : Int × Int => ((Sum.inl q.1 : Key), V.int q.2)) = fun q => Sum.inl q.1 := rfl
      rw [e2]
      have := List.Pairwise.map (f := fun x : Int => (Sum.inl x : Key)) (R := (· ≠ ·)) (S := (· ≠ ·)) (fun a b h z => h (Sum.inl.inj z)) nd
      rwa [List.map_map] at this
    exact ⟨t, .int y, rfl, e ▸ DGet.k (k := (Sum.inl k : Key)) (n2.i _ _ (n2.b _ _ ht)), q _ B2 H2 (n1.trans n2) (.int y)⟩)
/-! ### tuple(range(n, b, -1)) -/
def downD (n : Int) (k : Nat) : List D := (List.range k).map fun (i : Nat) => PyData.int (n + (i : Int) * (-1))
theorem ed_neg1 {j : Nat} {i : Int} : ED X st (.UnaryOp .USub (.Constant (.int i) j p2) pos) (.int (-i)) := fun _ _ B H _ s _ _ q =>
  WE.of (pe_un un_neg pe_int) ⟨i, rfl, q _ B H (Nx.refl s) (.int _)⟩
theorem dq_down {n : Int} : ∀ l : List Nat, DqAll K B (l.map fun (i : Nat) => V.int (n + (i : Int) * (-1))) (l.map fun (i : Nat) => PyData.int (n + (i : Int) * (-1)))
  | [] => .nil
  | _ :: l => .cons (.int _) (dq_down l)
theorem ed_tupDown {n b : Int} {k : Nat} {q2 : Pos} (hm : X.mg "tuple" = none) (hm2 : X.mg "range" = none) (h1 : ED X st e1 (.int n)) (h2 : ED X st e2 (.int b)) (h3 : ED X st e3 (.int (-1))) (hk : n - b = (k : Int)) (hb : -1000 ≤ b ∧ n ≤ 1000) (hc : X.calm = true := by rfl) (hg : Gl X "tuple" := by rfl) (hg2 : Gl X "range" := by rfl)
    (s1 : starEach [e1, e2, e3] X.env = (false, eval e1 X.env) :: starEach [e2, e3] X.env := by rfl) (s2 : starEach [e2, e3] X.env = (false, eval e2 X.env) :: starEach [e3] X.env := by rfl) (s3 : starEach [e3] X.env = (false, eval e3 X.env) :: starEach [] X.env := by rfl) (hpl : (backTo q2 (starEach [e2, e3] X.env)).any (·.1) = false := by rfl)
    (na : starEach [.Call (.Name "range" p2) [e1, e2, e3] [] q2] X.env = (false, eval (.Call (.Name "range" p2) [e1, e2, e3] [] q2) X.env) :: starEach [] X.env := by rfl) :
    ED X st (.Call (.Name "tuple" p) [.Call (.Name "range" p2) [e1, e2, e3] [] q2] [] pos) (.tuple (downD n k)) := fun m H0 B H σ s l Q q pins sh I => by
  refine Call_ (ld_blt I hg hm boot_tuple (PyProof.Rows.callWith_type1 (args_cons (thn (Q := fun v s1 => ∃ r t u w H1 B1, v = Value.ref r ∧ IsRange s1.heap r n b (-1) t u w ∧ Inv X pins σ H1 s1 ∧ Nx none B H B1 H1) ?_ fun x s1 ⟨r, t, u, w, H1, B1, ex, hr, I1, n1⟩ => args_nil ?_) na) na rfl))
  · refine Call_ (ld_blt I hg2 hm2 boot_range (PyProof.Rows.callWith_type1 (thn (eds_cons h1 (eds_cons h2 (eds_1 h3 s3) s2) s1 m H0 B H σ s l (fun xs H1 => ∃ B1, xs = [.int n, .int b, .int (-1)] ∧ Nx none B H B1 H1) (fun vs B1 H1 n1 d1 => ⟨B1, DqAll.ints_inv (ns := [n, b, -1]) d1, n1⟩) q2 pins sh I) fun us s2 ⟨xs, H1, I1, rv, B1, ex, n1⟩ => ?_) s1 hpl))
    subst ex
    cases rv with
    | cons r1 rv =>
      cases rv with
      | cons r2 rv =>
        cases rv with
        | cons r3 rv =>
          cases rv
          obtain ⟨t, rfl⟩ := r1
          obtain ⟨u, rfl⟩ := r2
          obtain ⟨w, rfl⟩ := r3
          exact call_range_3 (by decide) ⟨_, t, u, w, H1, B1, rfl, IsRange.new _ _ _ _ _ _ _, I1.kept fun c o e => Heap.get?_push_of_some _ e, n1⟩ (.inl (PyProof.noPylong_small (by omega)))
  · subst ex
    refine call_tuple_range (n := k) (I1.ok.hd hc) hr (PySem.W.small_down (by omega) (by omega) (by omega) (by omega)) (by rw [PySem.W.rangeSize_downNat]; omega) (by omega) fun h' tk acc hk2 hi => ?_
    have I2 : Inv X pins σ H1 { s1 with heap := h', toks := tk } := I1.kept hk2
    have hl : acc.toList.length = k := by rw [Array.length_toList]; exact hi.1
    have vs : Vals ((List.range k).map fun (i : Nat) => V.int (n + (i : Int) * (-1))) acc.toList := by
      rw [← hl]
      refine vals_of_get acc.toList _ fun j u2 hj => ?_
      obtain ⟨t2, rfl⟩ := hi.2 j u2 (by rw [← hj, Array.getElem?_toList])
      exact ⟨t2, rfl⟩
    have hn : H1 h'.objs.size = none := I2.hok.fresh (Nat.le_refl _)
    refine ⟨.ref h'.objs.size, upd H1 h'.objs.size (.tup ((List.range k).map fun (i : Nat) => V.int (n + (i : Int) * (-1)))), I2.laid (t' := tk) (fun c o e => Heap.get?_push_of_some _ e) (Nat.le_refl _) ⟨?_, acc.toList, vs, ?_⟩, rfl, q _ (upd B1 h'.objs.size (.tup _)) _ (n1.trans (Nx.new n1.i hn)) (.tup (SqT.of upd_same) ?_)⟩
    · rw [List.length_map, List.length_range, sizeLine_eq]
      omega
    · rw [Array.toArray_toList]
      exact IsTup.new _ _
    · exact dq_down _
/-! ### own lists -/
/-- a fresh list becomes the def's own -/
theorem own_new {l : Addr} {vs : List V} {xs : List D} (sm : Same B H) (n : Nx m B0 H0 B H) (g : BagOk m B H) (hn : H l = none) (ha : DqAll K B vs xs) : some l ≠ m ∧ H0 l = none ∧ B l = none ∧ Nx m B0 H0 B (upd H l (.lst vs)) ∧ BagOk m B (upd H l (.lst vs)) ∧ SvOk K m H0 B (upd H l (.lst vs)) (.ref l) (.own xs) := by
  have hB : B l = none := same_sub sm hn
  have h0 : H0 l = none := by
    cases q : H0 l with
    | none => rfl
    | some o => exact absurd hn (n.k l (by rw [q]; exact fun z => nomatch z))
  have h1 : some l ≠ m := fun z => by
    obtain ⟨_, bs, e⟩ := g l z.symm
    rw [hn] at e; cases e
  exact ⟨h1, h0, hB, n.put (.inl h0) hB, g.put h1, l, vs, rfl, h1, h0, hB, upd_same, ha⟩
theorem Sl.fresh {l : Addr} {o : HO} (h : Sl K m H0 B H st σ) (hn : H l = none) : Sl K m H0 B (upd H l o) st σ := ⟨h.1, fun j s e => by
  obtain ⟨v, hv, ok⟩ := h.2 j s e
  refine ⟨v, hv, ?_⟩
  cases s with
  | d y => exact ok
  | v y => exact ok
  | x φ up => exact ok
  | own zs =>
    obtain ⟨k, vs, e1, e2, e3, e4, e5, e6⟩ := ok
    exact ⟨k, vs, e1, e2, e3, e4, (upd_ne (ne_of_none e5 hn)).trans e5, e6⟩⟩
/-- name = list(tuple) -/
theorem hs_ownOf (i : Nat) {x : Str} {p' : Pos} {xs : List D} (hm : X.mg "list" = none) (nd : X.N.Nodup) (he : ED X st e (.tuple xs)) (h : HS X m (st.set i (some (.own xs))) rest E) (hg : Gl X "list" := by rfl) (hi : X.N[i]? = some x := by rfl) (hx : Loc X.env.scope x := by first | exact Or.inl rfl | exact Or.inr rfl)
    (na : starEach [e] X.env = (false, eval e X.env) :: starEach [] X.env := by rfl) (hs : swapsWith (.Call (.Name "list" p) [e] [] p2) (some (.Name x p')) pos.line X.env = pure false := by rfl) (hf : X.fn x = true ∨ X.env.scope.names.lookup x = some .local := by first | exact .inl rfl | exact .inr rfl) :
    HS X m st (.Assign [.Name x p'] (.Call (.Name "list" p) [e] [] p2) pos :: rest) E :=
  hs_cons fun Bf B0 H0 σ H o => by
    obtain ⟨B, sm, f, l, g, n, up⟩ := o.nx
    refine WS.of (ps_set nd hi hx (pe_callTy call_list_of hg hm PyProof.Rows.boot_list (pa_cons peW pa_nil na) (he := na) (hpl := by rfl)) hs hf) (he.any sm l fun v B1 H1 n1 d1 => ?_)
    obtain ⟨t, us, rfl, ht, ha⟩ := d1.tup_inv
    refine ⟨t, us, rfl, .inr (sqT_mono n1.i ht), fun k hk => ?_⟩
    obtain ⟨_, _, _, n2, g2, ok⟩ := own_new n1.i (n.trans n1.any) (g.nx n1) hk ha
    exact ⟨_, h, B1, f.trans n1.b, n2, g2, ((l.nx n1.any).fresh hk).set i ok⟩
/-- return tuple(name) of an own list -/
theorem hs_retTupOwn (i : Nat) {x : Str} {xs : List D} {p4 : Pos} (hm : X.mg "tuple" = none) (hi : st[i]? = some (some (.own xs)) := by rfl) (h : E.rt (.tuple xs)) (hfr : E.fr = false := by rfl) (hg : Gl X "tuple" := by rfl) (hN : X.N[i]? = some x := by rfl) (hv : Vis X.env.scope x := by first | exact Or.inl rfl | exact Or.inr (Or.inl rfl) | exact Or.inr (Or.inr rfl))
    (hd : (x == ("__debug__" : Str)) = false := by decide) (hcd : (x == ("__classdict__" : Str)) = false := by decide) (na : starEach [.Name x p4] X.env = (false, eval (.Name x p4) X.env) :: starEach [] X.env := by rfl) : HS X m st (.Return (some (.Call (.Name "tuple" p) [.Name x p4] [] p2)) pos :: rest) E :=
  hs_cons fun Bf B0 H0 σ H o => by
    obtain ⟨B, sm, f, l, g, n, up⟩ := o.nx
    obtain ⟨v, hv1, k, vs, rfl, q1, q2, q3, q4, q5⟩ := l.2 i _ hi
    refine WS.of (ps_ret (pe_tupleOf hg hm (pe_var hN hv hd hcd) na)) ⟨_, hv1, .inl ⟨k, vs, rfl, SqL.of q4, fun t ht => ?_⟩⟩
    have n2 : Nx none B H (upd B t (.tup vs)) (upd H t (.tup vs)) := Nx.new sm ht
    exact ⟨.tuple xs, _, h, f.trans n2.b, n.trans n2.any, g.nx n2, .tup (SqT.of upd_same) (DqAll.up n2.b q5), fun z => nomatch hfr.symm.trans z⟩
theorem Sl.hush (h : Sl K m H0 B H st σ) (n : Nat) : Sl K m H0 B H (st.set n none) σ := h.weak (by rw [List.length_set]) fun i s e => by
  by_cases q : n = i
  · subst q
    by_cases hl : n < st.length
    · rw [List.getElem?_set_self hl] at e; cases e
    · rw [List.getElem?_eq_none (by rw [List.length_set]; omega)] at e; cases e
  · rwa [List.getElem?_set_ne q] at e
theorem Sl.hush' {xs : Sv} (n : Nat) (h : Sl K m H0 B H (st.set n (some xs)) σ) : Sl K m H0 B H (st.set n none) σ := by
  have := h.hush n
  rwa [List.set_set] at this
theorem ixN_at {n j : Nat} (h : j < n) : ixN n (j : Int) = some j := by
  unfold ixN
  rw [if_pos (by omega), if_pos (by omega), Int.toNat_natCast]
theorem DqAll.set {vs : List V} {xs : List D} {v : V} {d : D} (h : DqAll K B vs xs) (hd : Dq K B v d) : ∀ i, DqAll K B (vs.set i v) (xs.set i d) := by
  induction h using DqAll.rec (motive_1 := fun _ _ _ => True) with
  | nil => intro i; exact .nil
  | cons h k _ ih =>
    intro i
    cases i with
    | zero => exact .cons hd k
    | succ i => exact .cons h (ih i)
  | _ => trivial
theorem hs_swapOwn (n n1 n2 : Nat) {x y1 y2 : Str} {q1 q2 q3 q4 q5 q6 q7 q8 q9 q10 r1 r2 r3 r4 : Pos} {kt kv} {xs : List D} {i j : Nat} {a b : D} (hi : st[n]? = some (some (.own xs)) := by rfl) (ha : xs[i]? = some a) (hb : xs[j]? = some b)
    (h : HS X m (st.set n (some (.own ((xs.set i b).set j a)))) rest E) (h1 : ∀ q, ED X (st.set n none) (.Name y1 q) (.int i)) (h2 : ∀ q, ED X (st.set n none) (.Name y2 q) (.int j)) (hno : noOwn (st.set n none) = true := by rfl) (hN : X.N[n]? = some x := by rfl)
    (hv : Vis X.env.scope x := by first | exact Or.inl rfl | exact Or.inr (Or.inl rfl) | exact Or.inr (Or.inr rfl))
    (hd : (x == ("__debug__" : Str)) = false := by decide) (hcd : (x == ("__classdict__" : Str)) = false := by decide) (hc : X.calm = true := by rfl)
    (hs : swapsWithSole [.Tuple [.Subscript (.Name x q1) (.Name y1 r1) q2, .Subscript (.Name x q3) (.Name y2 r2) q4] kt q5] (.Tuple [.Subscript (.Name x q6) (.Name y2 r3) q7, .Subscript (.Name x q8) (.Name y1 r4) q9] kv q10) pos.line X.env = pure false := by rfl)
    (hw : swappedStores [.Tuple [.Subscript (.Name x q1) (.Name y1 r1) q2, .Subscript (.Name x q3) (.Name y2 r2) q4] kt q5] (.Tuple [.Subscript (.Name x q6) (.Name y2 r3) q7, .Subscript (.Name x q8) (.Name y1 r4) q9] kv q10) X.env = pure none := by rfl) :
    HS X m st (.Assign [.Tuple [.Subscript (.Name x q1) (.Name y1 r1) q2, .Subscript (.Name x q3) (.Name y2 r2) q4] kt q5] (.Tuple [.Subscript (.Name x q6) (.Name y2 r3) q7, .Subscript (.Name x q8) (.Name y1 r4) q9] kv q10) pos :: rest) E :=
  hs_cons fun Bf B0 H0 σ H o => by
    obtain ⟨B, sm, f, l, g, n0, up⟩ := o.nx
    obtain ⟨v, hv1, k, vs, rfl, w1, w2, w3, w4, w5⟩ := l.2 _ _ hi
    obtain ⟨ua, ga, da⟩ := w5.at_ ha
    obtain ⟨ub, gb, db⟩ := w5.at_ hb
    refine WS.of (ps_asg (pe_tup (pa_cons (pe_ix ix_list (pe_var hN hv hd hcd) peW (fun _ _ => rfl)) (pa_cons (pe_ix ix_list (pe_var hN hv hd hcd) peW (fun _ _ => rfl)) pa_nil))) (pg_tup hc (pgs_cons (pg_sub (pe_var hN hv hd hcd) peW set_list) (pgs_cons (pg_sub (pe_var hN hv hd hcd) peW set_list) pgs_nil))) hs hw) ?_
    refine ⟨_, hv1, (h2 _).any sm (l.hush n) fun y B1 H1 m1 d1 => ?_⟩
    rw [d1.int_inv]
    have k1 : H1 k = some (.lst vs) := m1.same _ _ w4
    refine ⟨k, vs, _, ub, rfl, rfl, SqL.of k1, atI_nat gb, ?_⟩
    refine ⟨_, hv1, (h1 _).any m1.i ((l.nx m1.any).hush n) fun y2 B2 H2 m2 d2 => ?_⟩
    rw [d2.int_inv]
    have k2 : H2 k = some (.lst vs) := m2.same _ _ k1
    refine ⟨k, vs, _, ua, rfl, rfl, SqL.of k2, atI_nat ga, ?_⟩
    refine ⟨by show 2 ≤ _; decide, fun t ht => ?_⟩
    have m12 := (m1.trans m2).trans (Nx.new (o := .tup [ub, ua]) m2.i ht)
    have l3 := l.nx m12.any (m := m)
    refine ⟨t, _, rfl, SqT.of upd_same, rfl, _, _, rfl, ⟨_, hv1, (h1 _).any m12.i (l3.hush n) fun z B3 H3 m3 d3 => ?_⟩⟩
    rw [d3.int_inv]
    have k3 : H3 k = some (.lst vs) := m3.same _ _ (m12.same _ _ w4)
    refine ⟨k, vs, _, i, rfl, rfl, k3, ixN_at (List.getElem?_eq_some_iff.mp ga).1, ?_⟩
    have mm := m12.trans m3
    have b3 : B3 k = none := (mm.n k (by rw [w4]; exact fun z => nomatch z)).trans w3
    have a3 : DqAll X.K B3 (vs.set i ub) (xs.set i b) := (DqAll.up mm.b w5).set (Dq.up mm.b db) i
    have l4 := (l.nx mm.any (m := m)).own_put hi hno hv1 w1 w2 b3 a3
    have hi4 : (st.set n (some (.own (xs.set i b))))[n]? = some (some (.own (xs.set i b))) := List.getElem?_set_self (List.getElem?_eq_some_iff.mp hi).1
    have n4 : Nx m B0 H0 B3 (upd H3 k (.lst (vs.set i ub))) := (n0.trans mm.any).put (.inl w2) b3
    refine ⟨_, _, rfl, ⟨_, hv1, (h2 _).any n4.i (Sl.hush' n l4) fun z2 B4 H4 m4 d4 => ?_⟩⟩
    rw [d4.int_inv]
    have k4 : H4 k = some (.lst (vs.set i ub)) := m4.same _ _ upd_same
    have b4 : B4 k = none := (m4.n k (by rw [upd_same]; exact fun z => nomatch z)).trans b3
    refine ⟨k, _, _, j, rfl, rfl, k4, ixN_at (by rw [List.length_set]; exact (List.getElem?_eq_some_iff.mp gb).1), ?_⟩
    have l5 := (l4.nx m4.any (m := m)).own_put (xs := xs.set i b) (by rw [List.getElem?_set_self (List.getElem?_eq_some_iff.mp hi).1]) (by rw [List.set_set]; exact hno) hv1 w1 w2 b4 ((DqAll.up m4.b a3).set (Dq.up (mm.b.trans m4.b) da) j)
    rw [List.set_set] at l5
    exact ⟨rfl, _, h, B4, (f.trans mm.b).trans m4.b, (n4.trans m4.any).put (.inl w2) b4, ((((g.nx mm).put w1).nx m4).put w1), l5⟩
end
end K45
set_option maxHeartbeats 4000000
/-! sorted(list of ints), list.index, x in (tuple of lists). -/
namespace K45
open PySem PySem.Spec PyProof.Rows L2
def insI (x : Int) : List Int → List Int
  | [] => [x]
  | y :: r => if x ≤ y then x :: y :: r else y :: insI x r
def isI (l : List Int) : List Int := l.foldr insI []
theorem insI_perm (x : Int) : ∀ l, (insI x l).Perm (x :: l)
  | [] => List.Perm.refl _
  | y :: r => by
    unfold insI
    split
    · exact List.Perm.refl _
    · exact ((insI_perm x r).cons y).trans (List.Perm.swap x y r)
theorem isI_perm : ∀ l, (isI l).Perm l
  | [] => List.Perm.refl _
  | x :: l => (insI_perm x (isI l)).trans ((isI_perm l).cons x)
theorem insI_sorted (x : Int) : ∀ l, l.Pairwise (· ≤ ·) → (insI x l).Pairwise (· ≤ ·)
  | [], _ => List.pairwise_singleton _ _
  | y :: r, h => by
    unfold insI
    obtain ⟨h1, h2⟩ := List.pairwise_cons.mp h
    split
    · rename_i hc
      refine List.pairwise_cons.mpr ⟨fun z hz => ?_, h⟩
      rcases List.mem_cons.mp hz with rfl | hz
      · exact hc
      · exact Int.le_trans hc (h1 z hz)
    · rename_i hc
      refine List.pairwise_cons.mpr ⟨fun z hz => ?_, insI_sorted x r h2⟩
      rcases List.mem_cons.mp ((insI_perm x r).mem_iff.mp hz) with rfl | hz
      · omega
      · exact h1 z hz
theorem isI_sorted : ∀ l, (isI l).Pairwise (· ≤ ·)
  | [] => List.Pairwise.nil
  | x :: l => insI_sorted x _ (isI_sorted l)
theorem isI_one {a l : List Int} (p : a.Perm l) (s : a.Pairwise (· ≤ ·)) : a = isI l :=
  (p.trans (isI_perm l).symm).eq_of_pairwise (fun x y _ _ h1 h2 => Int.le_antisymm h1 h2) s (isI_sorted l)
section
variable {X : Cx} {st : Sto} {e e1 e2 : Expr} {pos p p2 : Pos} {K : PySem.W.Frag} {B H : Hp} {a b : D}
theorem hu65 {A : Around} {k : Nat} (hr : Room k A) : A.units + 65 < cLine := by
  have := hr.un
  omega
theorem ed_sortedI {ns : List Int} (hm : X.mg "sorted" = none) (h : ED X st e (.list (ns.map .int))) (hl : ns.length < 64) (hg : Gl X "sorted" := by rfl) (he : starEach [e] X.env = (false, eval e X.env) :: starEach [] X.env := by rfl) :
    ED X st (.Call (.Name "sorted" p) [e] [] pos) (.list ((isI ns).map .int)) := ed_callB cr_sorted hm (by decide +kernel) (eds_1 h he) (fun B H vs s hv Q q => by
    cases hv with
    | cons x t =>
      cases t
      obtain ⟨r, us, rfl, t1, a1⟩ := x.lst_inv
      rw [a1.ints_inv] at t1
      refine ⟨r, ns, rfl, SqL.of (s _ _ t1), hl, fun ys q2 hp hs hn => ?_⟩
      rw [isI_one hp hs]
      exact q _ (upd B q2 (.lst _)) _ (Nx.new s hn) (.lst upd_same (DqAll.ints _))) hg (he := he) (hpl := by rfl)
theorem eqv_int (x y : Int) : PyData.eqv (.int x) (.int y) = decide (x = y) := by
  unfold PyData.eqv
  by_cases h : x = y
  · subst h; simp
  · simp [h]
theorem idx_no : ∀ {ns : List Int} {k : Nat} {x : Int}, k < ns.idxOf x → ns[k]? ≠ some x
  | [], _, _, _, e => by simp at e
  | y :: r, k, x, h, e => by
    rw [List.idxOf_cons] at h
    by_cases q : y = x
    · subst q
      simp at h
    · have q2 : (y == x) = false := by simpa using q
      rw [q2] at h
      cases k with
      | zero => exact q (by simpa using e)
      | succ k => exact idx_no (ns := r) (k := k) (x := x) (by simpa using h) (by simpa using e)
theorem ed_indexI {ns : List Int} {x : Int} {ap : Pos} (hu : X.A.units + 65 < cLine) (h1 : ED X st e1 (.list (ns.map .int))) (h2 : ED X st e2 (.int x)) (hx : x ∈ ns)
    (hbase : attributeBase e1 "index" X.env (eval e1 X.env) = eval e1 X.env := by rfl)
    (hfew : ((backTo pos (starEach [e2] X.env)).all (fun x => !x.1) && (backToKw pos (keywordEach [] X.env)).all (fun x => x.1.isSome)
      && decide (([e2] : List Expr).length + ([] : List Keyword).length + (if ([] : List Keyword).isEmpty then 0 else 1) < 30)) = true := by rfl)
    (hline : (ap.endLine == pos.line) = true := by rfl) (hs : starEach [e2] X.env = (false, eval e2 X.env) :: starEach [] X.env := by rfl) : ED X st (.Call (.Attribute e1 "index" ap) [e2] [] pos) (.int (ns.idxOf x : Nat)) := fun m H0 B H σ s l Q q =>
  WE.of (pe_bm PySem.F.plainAttrs_list PySem.F.slot_list_index PySem.F.type_list_index (mt_indexD hu) peW paW hbase hfew hline hs (by rfl)) (h1.any s l fun v B1 H1 n1 d1 => by
    obtain ⟨r, us, rfl, t1, a1⟩ := d1.lst_inv
    refine ⟨.inl ⟨rfl, _, SqL.of (n1.i _ _ t1)⟩, eds_1 h2 hs m H0 B1 H1 σ n1.i (l.nx n1.any) _ fun ws B2 H2 n2 d2 => ?_⟩
    cases d2 with
    | cons y t =>
      cases t
      rename_i y'
      have hl : ns.idxOf x < ns.length := List.idxOf_lt_length_iff.mpr hx
      refine ⟨r, y', .int x, ns.map .int, ns.idxOf x, .int x, rfl, rfl, Dq.dp _ _ (Dq.up (n2.b.trans n2.i) (.lst t1 a1)), Dq.dp _ _ (Dq.up n2.i y), shaped_l ns, by simp [SeqAt.shaped, PyData.canLay0, PyData.depth], ?_, ?_, ?_, q _ B2 H2 (n1.trans n2) (.int _)⟩
      · rw [List.getElem?_map, List.getElem?_eq_getElem hl, List.getElem_idxOf hl]
        rfl
      · rw [eqv_int, decide_eq_true rfl]
      · intro k z hk hz
        rw [List.getElem?_map] at hz
        obtain ⟨w, hw, rfl⟩ := Option.map_eq_some_iff.mp hz
        rw [eqv_int]
        refine decide_eq_false fun z => ?_
        subst z
        exact idx_no hk hw)
def rInT (K : PySem.W.Frag) : R2 := fun x y H Q => ∃ d ds, Dp K H x d ∧ Dp K H y (.tuple ds) ∧ SeqAt.shaped d = true ∧ SeqAt.shaped (.tuple ds) = true ∧ Q (.bl (ds.any fun z => PyData.eqv z d)) H
theorem op_inT (hu : X.A.units + 65 < cLine) : OpR X (compareOp .In) (rInT X.K) := fun pins s σ H x y v u Q I rx ry ⟨d, ds, hd, he, sd, se, q⟩ => by
  obtain ⟨as, r1⟩ := Dp.reads I d x v hd rx
  obtain ⟨bs, r2⟩ := Dp.reads I (.tuple ds) y u he ry
  exact SeqAt.in_tuple_reads r2 r1 (SeqAt.canLay_of_shaped se) (SeqAt.canLay_of_shaped sd) (room_in_shaped sd hu) ⟨.bl _, H, I, rfl, q⟩
theorem et_inT {ds : List D} (hu : X.A.units + 65 < cLine) (s1 : SeqAt.shaped a = true) (s2 : SeqAt.shaped (.tuple ds) = true) (h1 : ED X st e1 a) (h2 : ED X st e2 (.tuple ds)) (hm : behindInMarks .In e2 = false := by rfl) : ET X st (.Compare e1 [.In] [e2] pos) (ds.any fun z => PyData.eqv z a) :=
  et_cmp (op_inT hu) hm h1 h2 fun B H x y s hx hy Q q => ⟨a, ds, Dq.dp _ _ (Dq.up s hx), Dq.dp _ _ (Dq.up s hy), s1, s2, q _ B H (Nx.refl s) (.bl _)⟩
end
end K45
set_option maxHeartbeats 4000000
namespace K45
open PySem PySem.Spec PyProof.Rows L2
theorem hu1 {A : Around} {k : Nat} (hr : Room k A) : A.units + 1 < cLine := Nat.lt_of_le_of_lt (Nat.add_le_add_left (by decide : 1 ≤ 64) _) (hu64 hr)
/-! ### opposite_of -/
def oppO (o : List Int) : List Int := (List.range o.length).map fun (t : Nat) => ((o.idxOf (t : Int) : Nat) : Int)
theorem nat_ints_nodup : ∀ n : Nat, ((List.range n).map fun (t : Nat) => (t : Int)).Nodup := fun n =>
  List.Pairwise.map (fun (t : Nat) => (t : Int)) (fun a b h z => h (Int.ofNat.inj z)) List.nodup_range
theorem IsOrd.has {o : List Int} (h : IsOrd o) {t : Nat} (ht : t < o.length) : (t : Int) ∈ o := by
  refine Classical.byContradiction fun hn => ?_
  have h1 : ((t : Int) :: o).length ≤ ((List.range o.length).map fun (t : Nat) => (t : Int)).length := nodup_le (List.nodup_cons.mpr ⟨hn, h.nd⟩) fun x hx => by
    rcases List.mem_cons.mp hx with rfl | hx
    · exact List.mem_map.mpr ⟨t, List.mem_range.mpr ht, rfl⟩
    · have := h.rg x hx
      exact List.mem_map.mpr ⟨x.toNat, List.mem_range.mpr (by omega), by omega⟩
  rw [List.length_map, List.length_range, List.length_cons] at h1
  omega
def placesO (o : List Int) : List (Int × Int) := (List.range o.length).map fun i => (o.getD i 0, (i : Int))
theorem placesO_fst (o : List Int) : (placesO o).map (·.1) = o := by
  unfold placesO
  rw [List.map_map]
  refine List.ext_getElem (by simp) fun i h1 h2 => ?_
  rw [List.getElem_map, List.getElem_range]
  show o.getD i 0 = _
  rw [List.getD_eq_getElem?_getD, List.getElem?_eq_getElem h2]
  rfl
theorem IsOrd.place {o : List Int} (h : IsOrd o) {t : Nat} (ht : t < o.length) : ((t : Int), ((o.idxOf (t : Int) : Nat) : Int)) ∈ placesO o := by
  have hl : o.idxOf (t : Int) < o.length := List.idxOf_lt_length_iff.mpr (h.has ht)
  refine List.mem_map.mpr ⟨o.idxOf (t : Int), List.mem_range.mpr hl, ?_⟩
  have e : o.getD (o.idxOf (t : Int)) 0 = t := by
    rw [List.getD_eq_getElem?_getD, List.getElem?_eq_getElem hl]
    exact List.getElem_idxOf hl
  rw [e]
def chg2 (o : List Int) (i j : Nat) : List Int := (o.set i (o.getD j 0)).set j (o.getD i 0)
def plainO (n : Nat) : List Int := (List.range n).map fun (i : Nat) => (i : Int)
def lastO (n : Nat) : List Int := (List.range n).map fun (i : Nat) => (n : Int) - 1 + (i : Int) * (-1)
def swapO (o : List Int) (p : Nat) : List Int := (o.take p ++ [o.getD (p + 1) 0, o.getD p 0]) ++ o.drop (p + 2)
section
variable {P : Program} {w : World} {K : PySem.W.Frag} {mg : Str → Option Value} {base : Heap}
abbrev G_opp (ds : List D) (d : D) : Prop := ∃ o : List Int, IsOrd o ∧ ds = [oD o] ∧ d = oD (oppO o)
theorem ok_opposite_of (T : Fr mg) (F : Df K mg "opposite_of" s_opposite_of ["order"]) : Cl P w K mg base 1 "opposite_of" ["order"] G_opp := by
  refine F.ok sc_opposite_of (fun ds d h => ?_) (fun f cdv A outer s H E ds d hr h => ?_)
  · obtain ⟨o, _, rfl, rfl⟩ := h
    rfl
  · obtain ⟨o, ho, rfl, rfl⟩ := h
    have nd := sc_opposite_of.nd
    have hl := ho.l2
    refine hs_setX (φ := TabOf (placesO o)) (up := TabOf.up _) 1 nd (ex_dictP T.dict (ED.is (ed_lc (own := [("place", 2), ("thing", 3)]) (g := gTup K 2 (gCons (gName 2) (gCons (gName 3) gNil))) (ys := List.range (o.map PyData.int).length) (ι := fun (i : Nat) => PyData.tuple [.int i, (o.map PyData.int).getD i .none]) (f := fun i => oD [o.getD i 0, (i : Int)]) nd (ei_enumT T.enumerate (ed_var 0)) (blkOk_by (N := N_opposite_of) (sc := defScope s_opposite_of) (by decide +kernel)) (fun _ _ _ _ _ => pg_tup rfl (pgs_cons (pg_name (i := 2) nd rfl (.inl rfl)) (pgs_cons (pg_name (i := 3) nd rfl (.inl rfl)) pgs_nil))) gw_pair (by simp; omega) (fun m y hy => ?_)) ?_)) ?_
    · have hi := List.mem_range.mp hy
      rw [List.length_map] at hi
      have e : (o.map PyData.int).getD y .none = .int (o.getD y 0) := by
        rw [List.getD_eq_getElem?_getD, List.getElem?_map, List.getD_eq_getElem?_getD, List.getElem?_eq_getElem hi]
        rfl
      rw [e]
      exact ⟨_, gt_pair 2 3, fun s' H' C cl fp => ed_tup2 (ed_var 3) (ed_var 2)⟩
    · rw [List.length_map]
      unfold placesO
      rw [List.map_map]
      rfl
    · refine hs_ret (ed_tupOf T.tuple (ed_lc (own := [("thing", 3)]) (g := gName 3) (ys := List.range o.length) (ι := fun (i : Nat) => PyData.int (0 + (i : Int))) (f := fun (t : Nat) => .int ((o.idxOf (t : Int) : Nat) : Int)) nd (ei_range1 T.range (ed_lenO T.len (ed_var 0)) (by omega)) (blkOk_by (N := N_opposite_of) (sc := defScope s_opposite_of) (by decide +kernel)) (fun _ _ _ _ _ => pg_name (i := 3) nd rfl (.inl rfl)) gw_name (by simp; omega) (fun m y hy => ⟨_, gt_name 3, fun s' H' C cl fp => ?_⟩))) ?_
      · have hi := List.mem_range.mp hy
        refine ed_tabAt (ps := placesO o) (k := (y : Int)) (hu1 hr) (ex_var 1) (ED.is (ed_var 3) (by rw [Int.zero_add])) (by rw [placesO_fst]; exact ho.nd) (ho.place hi)
      · show _ = _
        unfold oppO oD
        rw [List.map_map]
        rfl
theorem ok_opposite (c1 : Cl P w K mg base 3 "need_order" ["value"] G_need) (c2 : Cl P w K mg base 1 "opposite_of" ["order"] G_opp) (F : Df K mg "opposite" s_opposite ["order"]) : Cl P w K mg base 4 "opposite" ["order"] G_opp := by
  refine F.ok sc_opposite (fun ds d h => ?_) (fun f cdv A outer s H E ds d hr h => ?_)
  · obtain ⟨o, _, rfl, rfl⟩ := h
    rfl
  · obtain ⟨o, ho, rfl, rfl⟩ := h
    refine hs_expr (ed_cl c1 hr (eds_1 (ed_var 0)) ⟨o, ho, rfl, rfl⟩) ?_
    exact hs_ret (ed_cl c2 hr (eds_1 (ed_var 0)) ⟨o, ho, rfl, rfl⟩) rfl
abbrev G_last (ds : List D) (d : D) : Prop := ∃ n : Nat, 1 ≤ n ∧ n ≤ 30 ∧ ds = [.int n] ∧ d = oD (lastO n)
theorem ok_last_order (T : Fr mg) (c1 : Cl P w K mg base 2 "need_many" ["value"] G_many) (F : Df K mg "last_order" s_last_order ["many"]) : Cl P w K mg base 3 "last_order" ["many"] G_last := by
  refine F.ok sc_last_order (fun ds d h => ?_) (fun f cdv A outer s H E ds d hr h => ?_)
  · obtain ⟨n, _, _, rfl, rfl⟩ := h
    rfl
  · obtain ⟨n, h1, h2, rfl, rfl⟩ := h
    refine hs_expr (ed_cl c1 hr (eds_1 (ed_var 0)) ⟨n, h1, h2, rfl, rfl⟩) ?_
    refine hs_ret (ed_tupDown (n := (n : Int) - 1) (b := -1) (k := n) T.tuple T.range (ed_subI (ed_var 0) ed_int) ed_neg1 ed_neg1 (by omega) (by omega)) ?_
    show _ = _
    unfold lastO oD downD
    rw [List.map_map]
    rfl
abbrev G_plain (ds : List D) (d : D) : Prop := ∃ n : Nat, n ≤ 30 ∧ ds = [.int n] ∧ d = oD (plainO n)
theorem ok_l_plain (T : Fr mg) (F : Df K mg "_law_plain" s_l_plain ["_law_many"]) : Cl P w K mg base 1 "_law_plain" ["_law_many"] G_plain := by
  refine F.ok sc_l_plain (fun ds d h => ?_) (fun f cdv A outer s H E ds d hr h => ?_)
  · obtain ⟨n, _, rfl, rfl⟩ := h
    rfl
  · obtain ⟨n, h2, rfl, rfl⟩ := h
    refine hs_ret (ed_tupRg T.tuple T.range (ed_var 0) (by omega)) ?_
    show _ = _
    rw [Int.toNat_natCast]
    unfold plainO oD upD
    rw [List.map_map]
    refine congrArg PyData.tuple (List.map_congr_left fun i _ => ?_)
    show PyData.int (0 + (i : Int)) = .int i
    rw [Int.zero_add]
abbrev G_swap (ds : List D) (d : D) : Prop := ∃ (o : List Int) (p : Nat), p + 1 < o.length ∧ o.length ≤ 40 ∧ ds = [oD o, .int p] ∧ d = oD (swapO o p)
theorem ok_l_swap (F : Df K mg "_law_swap" s_l_swap ["_law_order_here", "_law_place"]) : Cl P w K mg base 1 "_law_swap" ["_law_order_here", "_law_place"] G_swap := by
  refine F.ok sc_l_swap (fun ds d h => ?_) (fun f cdv A outer s H E ds d hr h => ?_)
  · obtain ⟨o, p, _, _, rfl, rfl⟩ := h
    rfl
  · obtain ⟨o, p, hp, hl, rfl, rfl⟩ := h
    refine hs_ret (ed_addO ?_ (ed_addO ?_ (ed_takeO (ed_var 0) (ed_var 1) rfl) (ed_tup2 (ed_atO (k := p + 1) (ed_var 0) (ed_addI (ed_var 1) ed_int) rfl hp) (ed_atO (ed_var 0) (ed_var 1) rfl (by omega)))) (ed_dropO (k := p + 2) (ed_var 0) (ed_addI (ed_var 1) ed_int) rfl)) rfl
    all_goals (simp; omega)
abbrev G_chg2 (ds : List D) (d : D) : Prop := ∃ (o : List Int) (i j : Nat), i < o.length ∧ j < o.length ∧ o.length ≤ 40 ∧ ds = [oD o, .int i, .int j] ∧ d = oD (chg2 o i j)
theorem ok_l_changed (T : Fr mg) (F : Df K mg "_law_changed" s_l_changed ["_law_order_here", "_law_first", "_law_second"]) : Cl P w K mg base 1 "_law_changed" ["_law_order_here", "_law_first", "_law_second"] G_chg2 := by
  refine F.ok sc_l_changed (fun ds d h => ?_) (fun f cdv A outer s H E ds d hr h => ?_)
  · obtain ⟨o, i, j, _, _, _, rfl, rfl⟩ := h
    rfl
  · obtain ⟨o, i, j, hi, hj, hl, rfl, rfl⟩ := h
    have nd := sc_l_changed.nd
    have g : ∀ k, k < o.length → (o.map PyData.int)[k]? = some (.int (o.getD k 0)) := fun k hk => by
      rw [List.getElem?_map, List.getElem?_eq_getElem hk, List.getD_eq_getElem?_getD, List.getElem?_eq_getElem hk]
      rfl
    refine hs_ownOf 3 T.list nd (ed_var 0) ?_
    refine hs_swapOwn 3 1 2 (i := i) (j := j) (xs := o.map PyData.int) rfl (g i hi) (g j hj) ?_ (fun q => ed_var 1) (fun q => ed_var 2)
    refine hs_retTupOwn 3 T.tuple rfl ?_
    show _ = _
    unfold chg2 oD
    rw [List.map_set, List.map_set]
abbrev G_truly (ds : List D) (d : D) : Prop := ∃ b c : Bool, ds = [.bool b, .bool c] ∧ d = .bool (b == c)
theorem ok_l_truly (T : Fr mg) (F : Df K mg "_law_truly" s_l_truly ["_law_found", "_law_due"]) : Cl P w K mg base 1 "_law_truly" ["_law_found", "_law_due"] G_truly := by
  refine F.ok sc_l_truly (fun ds d h => ?_) (fun f cdv A outer s H E ds d hr h => ?_)
  · obtain ⟨b, c, rfl, rfl⟩ := h
    rfl
  · obtain ⟨b, c, rfl, rfl⟩ := h
    exact hs_ret (ed_and (ed_isinst (d := .bool b) T.isinstance T.bool bt_bool kit_bb (ed_var 0)) (fun _ => ed_one (ed_eqB (ed_var 0) (ed_var 1)))) rfl
end
end K45
set_option maxHeartbeats 4000000
namespace K45
open PySem PySem.Spec PyProof.Rows L2
/-! ### ups -/
theorem getD_mem {o : List Int} {k : Nat} (hk : k < o.length) : o.getD k 0 ∈ o := by
  rw [List.getD_eq_getElem?_getD, List.getElem?_eq_getElem hk]
  exact List.getElem_mem _
theorem chg2_len (o : List Int) (i j : Nat) : (chg2 o i j).length = o.length := by
  unfold chg2
  rw [List.length_set, List.length_set]
theorem chg2_bd {o : List Int} {i j : Nat} (hb : Bd o) (hi : i < o.length) (hj : j < o.length) : Bd (chg2 o i j) := fun x hx => by
  unfold chg2 at hx
  rcases List.mem_or_eq_of_mem_set hx with hx | rfl
  · rcases List.mem_or_eq_of_mem_set hx with hx | rfl
    · exact hb x hx
    · exact hb _ (getD_mem hj)
  · exact hb _ (getD_mem hi)
def upB (o : List Int) (i j : Nat) : Bool := decide (invs (chg2 o i j) = invs o + 1)
def upRow (o : List Int) (i k : Nat) : List (List Int) := ((List.range k).filter fun s => upB o i (i + 1 + s)).map fun s => chg2 o i (i + 1 + s)
def upsTo (o : List Int) (n i : Nat) : List (List Int) := (List.range i).flatMap fun a => upRow o a (n - (a + 1))
def upsO (o : List Int) : List (List Int) := isrt (upsTo o o.length o.length)
theorem upRow_succ (o : List Int) (i k : Nat) : upRow o i (k + 1) = upRow o i k ++ if upB o i (i + 1 + k) = true then [chg2 o i (i + 1 + k)] else [] := by
  unfold upRow
  rw [List.range_succ, List.filter_append, List.map_append]
  congr 1
  rw [List.filter_cons]
  split <;> rfl
theorem upsTo_succ (o : List Int) (n i : Nat) : upsTo o n (i + 1) = upsTo o n i ++ upRow o i (n - (i + 1)) := by
  unfold upsTo
  rw [List.range_succ, List.flatMap_append]
  simp
theorem upRow_len (o : List Int) (i k : Nat) : (upRow o i k).length ≤ k := by
  unfold upRow
  rw [List.length_map]
  have h := List.length_filter_le (fun s => upB o i (i + 1 + s)) (List.range k)
  rw [List.length_range] at h
  exact h
theorem upsTo_len (o : List Int) (n : Nat) : ∀ i, (upsTo o n i).length ≤ i * n
  | 0 => Nat.zero_le _
  | i + 1 => by
    rw [upsTo_succ, List.length_append, Nat.succ_mul]
    have h1 := upsTo_len o n i
    have h2 := upRow_len o i (n - (i + 1))
    omega
theorem upsTo_al {o : List Int} (hb : Bd o) : Al o.length (upsTo o o.length o.length) := fun z hz => by
  unfold upsTo at hz
  obtain ⟨a, ha, hz⟩ := List.mem_flatMap.mp hz
  unfold upRow at hz
  obtain ⟨s, hs, rfl⟩ := List.mem_map.mp hz
  have h1 := List.mem_range.mp ha
  have h2 := List.mem_range.mp (List.mem_filter.mp hs).1
  exact ⟨chg2_len _ _ _, chg2_bd hb h1 (by omega)⟩
section
variable {P : Program} {w : World} {K : PySem.W.Frag} {mg : Str → Option Value} {base : Heap}
abbrev G_ups (ds : List D) (d : D) : Prop := ∃ o : List Int, 1 ≤ o.length ∧ o.length ≤ 7 ∧ Bd o ∧ ds = [oD o] ∧ d = .list ((upsO o).map oD)
theorem ok_l_ups (T : Fr mg) (c1 : Cl P w K mg base 1 "_law_pairs" ["_law_order_here"] G_pairs) (c2 : Cl P w K mg base 1 "_law_changed" ["_law_order_here", "_law_first", "_law_second"] G_chg2) (F : Df K mg "_law_ups" s_l_ups ["_law_order_here"]) : Cl P w K mg base 2 "_law_ups" ["_law_order_here"] G_ups := by
  refine F.ok sc_l_ups (fun ds d h => ?_) (fun f cdv A outer s H E ds d hr h => ?_)
  · obtain ⟨o, _, _, _, rfl, rfl⟩ := h
    rfl
  · obtain ⟨o, h1, hl, hb, rfl, rfl⟩ := h
    have nd := sc_l_ups.nd
    have h7 : o.length * o.length ≤ 7 * 7 := Nat.mul_le_mul hl hl
    refine hs_par (a := .list (([] : List (List Int)).map oD)) (b := .int (invs o)) 1 2 nd (ed_lst eds_nil) (ED.is (ed_lenL T.len (ed_cl c1 hr (eds_1 (ed_var 0)) ⟨o, by omega, hb, rfl, rfl⟩)) (by rw [List.length_map, pairsO_len])) ?_
    refine hs_for (xs := upD 0 ((o.length : Int)).toNat) (fun i st' => i ≤ o.length ∧ st' = [some (.d (oD o)), some (.d (.list ((upsTo o o.length i).map oD))), some (.d (.int (invs o))), none, none, none]) (pg_name (i := 3) nd rfl (.inl rfl)) (ei_range1 T.range (ed_lenO T.len (ed_var 0)) (by omega)) ⟨Nat.zero_le _, rfl⟩ (fun i d st' hd hst => ?_) (fun st' hst => ?_)
    · obtain ⟨hi, rfl⟩ := upD_at hd
      obtain ⟨_, rfl⟩ := hst
      rw [Int.toNat_natCast] at hi
      have ei : (0 : Int) + (i : Int) = (i : Int) := Int.zero_add _
      rw [ei]
      refine ⟨_, gt_name 3, ?_⟩
      have en : ((o.length : Int) - ((i : Int) + 1)).toNat = o.length - (i + 1) := by omega
      have hz1 := upsTo_len o o.length i
      have hz3 : i * o.length ≤ 7 * 7 := Nat.mul_le_mul (by omega) hl
      refine hs_for (xs := upD ((i : Int) + 1) ((o.length : Int) - ((i : Int) + 1)).toNat) (fun k st' => st' = [some (.d (oD o)), some (.d (.list ((upsTo o o.length i ++ upRow o i k).map oD))), some (.d (.int (invs o))), some (.d (.int i)), none, none]) (pg_name (i := 4) nd rfl (.inl rfl)) (ei_range2 T.range (ed_addI (ed_var 3) ed_int) (ed_lenO T.len (ed_var 0)) (by omega)) (by
        show _ = _
        rw [show upRow o i 0 = [] from rfl, List.append_nil]
        rfl) (fun k d st' hd hst => ?_) (fun st' hst => ?_)
      · obtain ⟨hk, rfl⟩ := upD_at hd
        subst hst
        rw [en] at hk
        have hj : i + 1 + k < o.length := by omega
        have ej : (i : Int) + 1 + (k : Int) = ((i + 1 + k : Nat) : Int) := by omega
        rw [ej]
        refine ⟨_, gt_name 4, ?_⟩
        have hz2 := upRow_len o i k
        refine hs_set 5 (d := oD (chg2 o i (i + 1 + k))) nd (ed_cl c2 hr (eds_cons (ed_var 0) (eds_cons (ed_var 3) (eds_1 (ed_var 4)))) ⟨o, i, i + 1 + k, hi, hj, by omega, rfl, rfl⟩) ?_
        have hb2 := chg2_bd hb hi hj
        refine hs_set 1 (d := .list ((upsTo o o.length i ++ upRow o i (k + 1)).map oD)) nd (ED.is (ed_addL (xs := (upsTo o o.length i ++ upRow o i k).map oD) (ys := (if upB o i (i + 1 + k) = true then [chg2 o i (i + 1 + k)] else []).map oD) ?_ (ed_var 1) (ed_if (k := upB o i (i + 1 + k)) (ET.is (et_eqI (ed_lenL T.len (ed_cl c1 hr (eds_1 (ed_var 5)) ⟨_, by rw [chg2_len]; omega, hb2, rfl, rfl⟩)) (ed_addI (ed_var 2) ed_int)) ?_) (fun hp => ?_) (fun hp => ?_))) ?_) ?_
        · rw [List.length_map, List.length_map, List.length_append]
          split
          · simp; omega
          · simp; omega
        · unfold upB
          rw [List.length_map, pairsO_len]
          by_cases q : invs (chg2 o i (i + 1 + k)) = invs o + 1
          · rw [decide_eq_true q, decide_eq_true (by omega)]
          · rw [decide_eq_false q, decide_eq_false (by omega)]
        · rw [if_pos hp]
          exact ed_lst (eds_1 (ed_var 5)) (show 1 ≤ 100000 by decide)
        · rw [if_neg (by rw [hp]; exact Bool.false_ne_true)]
          exact ed_lst eds_nil
        · rw [upRow_succ, ← List.append_assoc]
          exact congrArg PyData.list (List.map_append (f := oD)).symm
        · refine hs_end (st1 := [some (.d (oD o)), some (.d (.list ((upsTo o o.length i ++ upRow o i (k + 1)).map oD))), some (.d (.int (invs o))), some (.d (.int i)), none, none]) rfl (.so (.so (.so (.so (.no (.no .nil))))))
      · subst hst
        refine hs_end (st1 := [some (.d (oD o)), some (.d (.list ((upsTo o o.length (i + 1)).map oD))), some (.d (.int (invs o))), none, none, none]) ⟨by omega, rfl⟩ ?_
        rw [upsTo_succ, upD_len, en]
        exact .so (.so (.so (.no (.no (.no .nil)))))
    · obtain ⟨_, rfl⟩ := hst
      rw [upD_len, Int.toNat_natCast]
      have hz := upsTo_len o o.length o.length
      exact hs_ret (ed_sortedO (d := o.length) T.sorted (ed_var 1) h1 (upsTo_al hb) (by omega)) rfl
/-! ### sizes, line by line -/
def runB (stp : List Int → List (List Int)) : Nat → List (List Int) → List Int → Option (List Int)
  | 0, _, _ => none
  | f + 1, line, found => if line.length = 0 then some found else if line.length < 63 then runB stp f (dd (line.flatMap stp)) ((line.length : Int) :: found) else none
theorem runB_few {stp : List Int → List (List Int)} {f : Nat} {line : List (List Int)} {found r : List Int} (h : runB stp f line found = some r) : line.length < 63 := by
  cases f with
  | zero => cases h
  | succ f =>
    unfold runB at h
    by_cases h0 : line.length = 0
    · omega
    · rw [if_neg h0] at h
      by_cases h1 : line.length < 63
      · exact h1
      · rw [if_neg h1] at h; cases h
theorem flat_al {n : Nat} {stp : List Int → List (List Int)} (hs : ∀ o, o.length = n → Bd o → Al n (stp o)) {line : List (List Int)} (h : Al n line) : Al n (line.flatMap stp) := fun z hz => by
  obtain ⟨o, ho, hz⟩ := List.mem_flatMap.mp hz
  exact hs o (h o ho).1 (h o ho).2 z hz
theorem dd_al {n : Nat} {l : List (List Int)} (h : Al n l) : Al n (dd l) := fun z hz => h z ((dd_mem h).mp hz)
theorem flat_take_succ {stp : List Int → List (List Int)} {line : List (List Int)} {i : Nat} (hi : i < line.length) : (line.take (i + 1)).flatMap stp = (line.take i).flatMap stp ++ stp line[i] := by
  rw [List.take_succ_eq_append_getElem hi, List.flatMap_append]
  simp
theorem flat_len {n : Nat} {stp : List Int → List (List Int)} (hs : ∀ o, o.length = n → Bd o → (stp o).length ≤ 49) : ∀ {line : List (List Int)}, Al n line → (line.flatMap stp).length ≤ 49 * line.length
  | [], _ => Nat.zero_le _
  | o :: line, h => by
    rw [List.flatMap_cons, List.length_append, List.length_cons]
    have h1 := hs o (h o List.mem_cons_self).1 (h o List.mem_cons_self).2
    have h2 := flat_len hs (line := line) fun z hz => h z (List.mem_cons_of_mem _ hz)
    omega
def dropsOf (o : List Int) : List (List Int) := stepsO o false
def dropsLaw (o : List Int) : List (List Int) := (upsO o.reverse).map List.reverse
theorem dropsOf_al {o : List Int} {n : Nat} (h : o.length = n) (hb : Bd o) : Al n (dropsOf o) := by
  subst h
  exact (stepsTo_al false hb).perm (isrt_perm _)
theorem dropsOf_len {o : List Int} {n : Nat} (hn : n ≤ 7) (h : o.length = n) : (dropsOf o).length ≤ 49 := by
  have h1 := stepsTo_len (o := o) false
  have h2 : o.length * o.length ≤ 7 * 7 := Nat.mul_le_mul (by omega) (by omega)
  have h3 : (dropsOf o).length = (stepsTo o false).length := (isrt_perm _).length_eq
  omega
theorem bd_rev {o : List Int} (hb : Bd o) : Bd o.reverse := fun x hx => hb x (List.mem_reverse.mp hx)
theorem dropsLaw_al {o : List Int} {n : Nat} (h : o.length = n) (hb : Bd o) : Al n (dropsLaw o) := fun z hz => by
  obtain ⟨y, hy, rfl⟩ := List.mem_map.mp hz
  have h1 := ((upsTo_al (bd_rev hb)).perm (isrt_perm _)) y hy
  rw [List.length_reverse] at h1
  exact ⟨by rw [List.length_reverse, h1.1, h], bd_rev h1.2⟩
theorem dropsLaw_len {o : List Int} {n : Nat} (hn : n ≤ 7) (h : o.length = n) : (dropsLaw o).length ≤ 49 := by
  have h1 := upsTo_len o.reverse o.reverse.length o.reverse.length
  rw [List.length_reverse] at h1
  have h2 : o.length * o.length ≤ 7 * 7 := Nat.mul_le_mul (by omega) (by omega)
  have h3 : (dropsLaw o).length = (upsTo o.reverse o.reverse.length o.reverse.length).length := by
    unfold dropsLaw upsO
    rw [List.length_map, (isrt_perm _).length_eq]
  rw [List.length_reverse] at h3
  omega
abbrev G_run (stp : List Int → List (List Int)) (ds : List D) (d : D) : Prop := ∃ (o r : List Int) (f : Nat), 1 ≤ o.length ∧ o.length ≤ 7 ∧ Bd o ∧ f ≤ 1000 ∧ runB stp f [o] [] = some r ∧ ds = [oD o] ∧ d = oD r
theorem ok_below_by_size (T : Fr mg) (c1 : Cl P w K mg base 2 "steps_from" ["order", "up"] G_steps) (F : Df K mg "below_by_size" s_below_by_size ["order"]) : Cl P w K mg base 3 "below_by_size" ["order"] (G_run dropsOf) := by
  refine F.ok sc_below_by_size (fun ds d h => ?_) (fun f cdv A outer s H E ds d hr h => ?_)
  · obtain ⟨o, r, f, _, _, _, _, _, rfl, rfl⟩ := h
    rfl
  · obtain ⟨o, r, f0, h1, hl, hb, hf, hrun, rfl, rfl⟩ := h
    have nd := sc_below_by_size.nd
    refine hs_par (a := oD []) (b := .list ([o].map oD)) 1 2 nd (ed_tup eds_nil) (ed_lst (eds_1 (ed_var 0)) (show 1 ≤ 100000 by decide)) ?_
    refine hs_while (fun k st' => ∃ (line : List (List Int)) (found : List Int), runB dropsOf k line found = some r ∧ Al o.length line ∧ found.length + k ≤ 1000 ∧ st' = [some (.d (oD o)), some (.d (oD found)), some (.d (.list (line.map oD))), none, none]) f0 ⟨[o], [], hrun, fun z hz => by rw [List.mem_singleton.mp hz]; exact ⟨rfl, hb⟩, by simpa using hf, rfl⟩ (fun k st' hst => ?_)
    obtain ⟨line, found, hR, hA, hk, rfl⟩ := hst
    refine ⟨_, et_neD (hu64 hr) (shaped_lo line) (show SeqAt.shaped (.list []) = true from shaped_lo []) (ed_var 2) (ed_lst eds_nil), fun hne => ?_, fun hne => ?_⟩
    · rw [eqv_nil] at hne
      have h0 : line.length ≠ 0 := by
        cases line with
        | nil => cases hne
        | cons _ _ => exact Nat.succ_ne_zero _
      have few := runB_few hR
      obtain ⟨k', rfl⟩ : ∃ k', k = k' + 1 := by
        cases k with
        | zero => cases hR
        | succ k' => exact ⟨k', rfl⟩
      unfold runB at hR
      rw [if_neg h0, if_pos few] at hR
      refine hs_par (a := oD ((line.length : Int) :: found)) (b := .list (([] : List (List Int)).map oD)) 1 3 nd (ED.is (ed_addO (o := [(line.length : Int)]) ?_ (ed_tup1 (ED.is (ed_lenL T.len (ed_var 2)) (by rw [List.length_map]))) (ed_var 1)) rfl) (ed_lst eds_nil) ?_
      · simp; omega
      refine hs_for (xs := line.map oD) (fun i st' => i ≤ line.length ∧ st' = [some (.d (oD o)), some (.d (oD ((line.length : Int) :: found))), some (.d (.list (line.map oD))), some (.d (.list (((line.take i).flatMap dropsOf).map oD))), none]) (pg_name (i := 4) nd rfl (.inl rfl)) (ei_list (ed_var 2)) ⟨Nat.zero_le _, rfl⟩ (fun i d st' hd hst => ?_) (fun st' hst => ?_)
      · obtain ⟨_, rfl⟩ := hst
        have hi : i < line.length := by
          have := (List.getElem?_eq_some_iff.mp hd).1
          rwa [List.length_map] at this
        have ed : d = oD line[i] := by
          rw [List.getElem?_map, List.getElem?_eq_getElem hi] at hd
          exact (Option.some.inj hd).symm
        subst ed
        have hx := hA line[i] (List.getElem_mem _)
        have hz := flat_len (stp := dropsOf) (n := o.length) (fun o h _ => dropsOf_len hl h) (line := line.take i) fun z hz => hA z (List.mem_of_mem_take hz)
        have hz2 : (line.take i).length ≤ line.length := by rw [List.length_take]; omega
        have hz3 := dropsOf_len hl hx.1
        refine ⟨_, gt_name 4, ?_⟩
        refine hs_set 3 (d := .list (((line.take (i + 1)).flatMap dropsOf).map oD)) nd (ED.is (ed_addL (ys := (dropsOf line[i]).map oD) ?_ (ed_var 3) (ed_cl c1 hr (eds_cons (ed_var 4) (eds_1 ed_bl)) ⟨line[i], false, by omega, by omega, hx.2, rfl, rfl⟩)) ?_) ?_
        · rw [List.length_map, List.length_map]
          omega
        · rw [flat_take_succ hi, List.map_append]
        · exact hs_end (st1 := [some (.d (oD o)), some (.d (oD ((line.length : Int) :: found))), some (.d (.list (line.map oD))), some (.d (.list (((line.take (i + 1)).flatMap dropsOf).map oD))), none]) ⟨hi, rfl⟩ (.so (.so (.so (.so (.no .nil)))))
      · obtain ⟨_, rfl⟩ := hst
        rw [List.length_map, List.take_length]
        have al2 := flat_al (fun o h hb => dropsOf_al h hb) hA
        refine hs_set 2 (d := .list ((dd (line.flatMap dropsOf)).map oD)) nd (ed_sortedSet (d := o.length) T.sorted T.set (hu64 hr) (ed_var 3) h1 al2 (runB_few hR)) ?_
        exact hs_end (st1 := [some (.d (oD o)), some (.d (oD ((line.length : Int) :: found))), some (.d (.list ((dd (line.flatMap dropsOf)).map oD))), none, none]) ⟨k', Nat.lt_succ_self _, _, _, hR, dd_al al2, by rw [List.length_cons]; omega, rfl⟩ (.so (.so (.so (.no (.no .nil)))))
    · rw [eqv_nil] at hne
      have h0 : line = [] := by
        cases line with
        | nil => rfl
        | cons _ _ => cases hne
      subst h0
      have e : found = r := by
        cases k with
        | zero => cases hR
        | succ k' =>
          unfold runB at hR
          rw [if_pos (show ([] : List (List Int)).length = 0 from rfl)] at hR
          exact Option.some.inj hR
      subst e
      exact hs_ret (ed_var 1) rfl
theorem ok_l_sizes (T : Fr mg) (c1 : Cl P w K mg base 2 "_law_ups" ["_law_order_here"] G_ups) (F : Df K mg "_law_sizes" s_l_sizes ["_law_order_here"]) : Cl P w K mg base 3 "_law_sizes" ["_law_order_here"] (G_run dropsLaw) := by
  refine F.ok sc_l_sizes (fun ds d h => ?_) (fun f cdv A outer s H E ds d hr h => ?_)
  · obtain ⟨o, r, f, _, _, _, _, _, rfl, rfl⟩ := h
    rfl
  · obtain ⟨o, r, f0, h1, hl, hb, hf, hrun, rfl, rfl⟩ := h
    have nd := sc_l_sizes.nd
    refine hs_par (a := oD []) (b := .list ([o].map oD)) 1 2 nd (ed_tup eds_nil) (ed_lst (eds_1 (ed_var 0)) (show 1 ≤ 100000 by decide)) ?_
    refine hs_while (fun k st' => ∃ (line : List (List Int)) (found : List Int), runB dropsLaw k line found = some r ∧ Al o.length line ∧ found.length + k ≤ 1000 ∧ st' = [some (.d (oD o)), some (.d (oD found)), some (.d (.list (line.map oD))), none, none, none]) f0 ⟨[o], [], hrun, fun z hz => by rw [List.mem_singleton.mp hz]; exact ⟨rfl, hb⟩, by simpa using hf, rfl⟩ (fun k st' hst => ?_)
    obtain ⟨line, found, hR, hA, hk, rfl⟩ := hst
    refine ⟨_, et_neD (hu64 hr) (shaped_lo line) (show SeqAt.shaped (.list []) = true from shaped_lo []) (ed_var 2) (ed_lst eds_nil), fun hne => ?_, fun hne => ?_⟩
    · rw [eqv_nil] at hne
      have h0 : line.length ≠ 0 := by
        cases line with
        | nil => cases hne
        | cons _ _ => exact Nat.succ_ne_zero _
      have few := runB_few hR
      obtain ⟨k', rfl⟩ : ∃ k', k = k' + 1 := by
        cases k with
        | zero => cases hR
        | succ k' => exact ⟨k', rfl⟩
      unfold runB at hR
      rw [if_neg h0, if_pos few] at hR
      refine hs_par (a := oD ((line.length : Int) :: found)) (b := .list (([] : List (List Int)).map oD)) 1 3 nd (ED.is (ed_addO (o := [(line.length : Int)]) ?_ (ed_tup1 (ED.is (ed_lenL T.len (ed_var 2)) (by rw [List.length_map]))) (ed_var 1)) rfl) (ed_lst eds_nil) ?_
      · simp; omega
      refine hs_for (xs := line.map oD) (fun i st' => i ≤ line.length ∧ st' = [some (.d (oD o)), some (.d (oD ((line.length : Int) :: found))), some (.d (.list (line.map oD))), some (.d (.list (((line.take i).flatMap dropsLaw).map oD))), none, none]) (pg_name (i := 4) nd rfl (.inl rfl)) (ei_list (ed_var 2)) ⟨Nat.zero_le _, rfl⟩ (fun i d st' hd hst => ?_) (fun st' hst => ?_)
      · obtain ⟨_, rfl⟩ := hst
        have hi : i < line.length := by
          have := (List.getElem?_eq_some_iff.mp hd).1
          rwa [List.length_map] at this
        have ed : d = oD line[i] := by
          rw [List.getElem?_map, List.getElem?_eq_getElem hi] at hd
          exact (Option.some.inj hd).symm
        subst ed
        have hx := hA line[i] (List.getElem_mem _)
        have hz := flat_len (stp := dropsLaw) (n := o.length) (fun o h _ => dropsLaw_len hl h) (line := line.take i) fun z hz => hA z (List.mem_of_mem_take hz)
        have hz2 : (line.take i).length ≤ line.length := by rw [List.length_take]; omega
        have hz3 := dropsLaw_len hl hx.1
        refine ⟨_, gt_name 4, ?_⟩
        refine hs_set 3 (d := .list (((line.take (i + 1)).flatMap dropsLaw).map oD)) nd (ED.is (ed_addL (ys := (dropsLaw line[i]).map oD) ?_ (ed_var 3) (ED.is (ed_lc (own := [("_law_some", 5)]) (g := gName 5) (ys := upsO line[i].reverse) (ι := oD) (f := fun y => oD y.reverse) nd (ei_list (ed_cl c1 hr (eds_1 (ED.is (ed_back (ed_var 4)) (by rw [← List.map_reverse] <;> rfl))) ⟨line[i].reverse, by rw [List.length_reverse]; omega, by rw [List.length_reverse]; omega, bd_rev hx.2, rfl, rfl⟩)) (blkOk_by (N := N_l_sizes) (sc := defScope s_l_sizes) (by decide +kernel)) (fun _ _ _ _ _ => pg_name (i := 5) nd rfl (.inl rfl)) gw_name (by
            unfold dropsLaw at hz3
            rw [List.length_map] at hz3
            omega) (fun m y _ => ⟨_, gt_name 5, fun s' H' C cl fp => ED.is (ed_back (ed_var 5)) (by rw [← List.map_reverse] <;> rfl)⟩)) (by
            unfold dropsLaw
            rw [List.map_map]
            rfl))) ?_) ?_
        · rw [List.length_map, List.length_map]
          omega
        · rw [flat_take_succ hi, List.map_append]
        · exact hs_end (st1 := [some (.d (oD o)), some (.d (oD ((line.length : Int) :: found))), some (.d (.list (line.map oD))), some (.d (.list (((line.take (i + 1)).flatMap dropsLaw).map oD))), none, none]) ⟨hi, rfl⟩ (.so (.so (.so (.so (.no (.no .nil))))))
      · obtain ⟨_, rfl⟩ := hst
        rw [List.length_map, List.take_length]
        have al2 := flat_al (fun o h hb => dropsLaw_al h hb) hA
        refine hs_set 2 (d := .list ((dd (line.flatMap dropsLaw)).map oD)) nd (ed_sortedSet (d := o.length) T.sorted T.set (hu64 hr) (ed_var 3) h1 al2 (runB_few hR)) ?_
        exact hs_end (st1 := [some (.d (oD o)), some (.d (oD ((line.length : Int) :: found))), some (.d (.list ((dd (line.flatMap dropsLaw)).map oD))), none, none, none]) ⟨k', Nat.lt_succ_self _, _, _, hR, dd_al al2, by rw [List.length_cons]; omega, rfl⟩ (.so (.so (.so (.no (.no (.no .nil))))))
    · rw [eqv_nil] at hne
      have h0 : line = [] := by
        cases line with
        | nil => rfl
        | cons _ _ => cases hne
      subst h0
      have e : found = r := by
        cases k with
        | zero => cases hR
        | succ k' =>
          unfold runB at hR
          rw [if_pos (show ([] : List (List Int)).length = 0 from rfl)] at hR
          exact Option.some.inj hR
      subst e
      exact hs_ret (ed_var 1) rfl
abbrev G_sizes (ds : List D) (d : D) : Prop := ∃ (o r : List Int) (f : Nat), IsOrd o ∧ o.length ≤ 6 ∧ f ≤ 1000 ∧ runB dropsOf f [o] [] = some r ∧ ds = [oD o] ∧ d = oD r
theorem ok_sizes_below (T : Fr mg) (c1 : Cl P w K mg base 3 "need_order" ["value"] G_need) (c2 : Cl P w K mg base 1 "need_few" ["many", "limit"] G_few) (c3 : Cl P w K mg base 3 "below_by_size" ["order"] (G_run dropsOf)) (F : Df K mg "sizes_below" s_sizes_below ["order"]) : Cl P w K mg base 4 "sizes_below" ["order"] G_sizes := by
  refine F.ok sc_sizes_below (fun ds d h => ?_) (fun f cdv A outer s H E ds d hr h => ?_)
  · obtain ⟨o, r, f, _, _, _, _, rfl, rfl⟩ := h
    rfl
  · obtain ⟨o, r, f0, ho, hl, hf, hrun, rfl, rfl⟩ := h
    obtain ⟨tt, ht⟩ := T.few
    refine hs_expr (ed_cl c1 hr (eds_1 (ed_var 0)) ⟨o, ho, rfl, rfl⟩) ?_
    refine hs_expr (ed_cl c2 hr (eds_cons (ed_lenO T.len (ed_var 0)) (eds_1 (ed_globI ht))) ⟨_, _, by omega, rfl, rfl⟩) ?_
    exact hs_ret (ed_cl c3 hr (eds_1 (ed_var 0)) ⟨o, r, f0, ho.l1, by omega, ho.bd, hf, hrun, rfl, rfl⟩) rfl
end
end K45
set_option maxHeartbeats 4000000
namespace K45
open PySem PySem.Spec PyProof.Rows L2
def rankL (y : List Int) : List Int := y.map fun t => ((isI y).idxOf t : Nat)
def patB (y : List Int) : Bool := decide ([2, 3, 0, 1] = rankL y) || decide ([3, 1, 2, 0] = rankL y)
def fourAt (o : List Int) (a b c d : Nat) : List Int := [o.getD a 0, o.getD b 0, o.getD c 0, o.getD d 0]
def lr4 (o : List Int) (a b c : Nat) : Bool := (List.range (o.length - (c + 1))).any fun s => patB (fourAt o a b c (c + 1 + s))
def lr3 (o : List Int) (a b : Nat) : Bool := (List.range (o.length - (b + 1))).any fun s => lr4 o a b (b + 1 + s)
def lr2 (o : List Int) (a : Nat) : Bool := (List.range (o.length - (a + 1))).any fun s => lr3 o a (a + 1 + s)
def lawRough (o : List Int) : Bool := (List.range o.length).any fun s => lr2 o (0 + s)
theorem any_no {f : Nat → Bool} {k : Nat} (h : ∀ s, s < k → f s = false) : (List.range k).any f = false := by
  rw [List.any_eq_false]
  intro s hs
  rw [h s (List.mem_range.mp hs)]
  exact Bool.false_ne_true
theorem any_yes {f : Nat → Bool} {k s : Nat} (hs : s < k) (h : f s = true) : (List.range k).any f = true := List.any_eq_true.mpr ⟨s, List.mem_range.mpr hs, h⟩
theorem less_succ {f : Nat → Bool} {k : Nat} (h : ∀ s, s < k → f s = false) (h2 : f k = false) : ∀ s, s < k + 1 → f s = false := fun s hs => by
  by_cases q : s = k
  · rw [q]; exact h2
  · exact h s (by omega)
theorem shaped_two : SeqAt.shaped (.tuple [.list (([2, 3, 0, 1] : List Int).map .int), .list (([3, 1, 2, 0] : List Int).map .int)]) = true := by
  simp [SeqAt.shaped, PyData.canLay0, PyData.canLayAll0, PyData.depth, PyData.depthAll]
theorem eqv_two (y : List Int) : ([PyData.list (([2, 3, 0, 1] : List Int).map .int), .list (([3, 1, 2, 0] : List Int).map .int)].any fun z => PyData.eqv z (.list ((rankL y).map .int))) = patB y := by
  unfold patB
  rw [List.any_cons, List.any_cons, List.any_nil, Bool.or_false]
  unfold PyData.eqv
  rw [eqv_ints, eqv_ints]
section
variable {P : Program} {w : World} {K : PySem.W.Frag} {mg : Str → Option Value} {base : Heap}
abbrev G_lrough (ds : List D) (d : D) : Prop := ∃ o : List Int, o.length ≤ 40 ∧ ds = [oD o] ∧ d = .bool (lawRough o)
theorem ok_l_is_rough (T : Fr mg) (F : Df K mg "_law_is_rough" s_l_is_rough ["_law_order_here"]) : Cl P w K mg base 1 "_law_is_rough" ["_law_order_here"] G_lrough := by
  refine F.ok sc_l_is_rough (fun ds d h => ?_) (fun f cdv A outer s H E ds d hr h => ?_)
  · obtain ⟨o, _, rfl, rfl⟩ := h
    rfl
  · obtain ⟨o, hl, rfl, rfl⟩ := h
    have nd := sc_l_is_rough.nd
    refine hs_set 1 (d := .int o.length) nd (ed_lenO T.len (ed_var 0)) ?_
    refine hs_for (xs := upD 0 ((o.length : Int)).toNat) (fun k st' => (∀ s, s < k → (fun s => lr2 o (0 + s)) s = false) ∧ st' = [some (.d (oD o)), some (.d (.int o.length)), none, none, none, none, none, none]) (pg_name (i := 2) nd rfl (.inl rfl)) (ei_range1 T.range (ed_var 1) (by omega)) ⟨fun s z => absurd z (Nat.not_lt_zero s), rfl⟩ (fun k d st' hd hst => ?_) (fun st' hst => ?_)
    · obtain ⟨hk, rfl⟩ := upD_at hd
      obtain ⟨pre0, rfl⟩ := hst
      rw [Int.toNat_natCast] at hk
      have ek : (0 : Int) + (k : Int) = ((0 + k : Nat) : Int) := by omega
      rw [ek]
      have ha : 0 + k < o.length := by omega
      generalize ea : 0 + k = a at *
      refine ⟨_, gt_name 2, ?_⟩
      have upa : lr2 o a = true → lawRough o = true := fun z => any_yes (s := k) hk (by rw [ea]; exact z)
      refine hs_for (xs := upD ((a : Int) + 1) ((o.length : Int) - ((a : Int) + 1)).toNat) (fun k st' => (∀ s, s < k → (fun s => lr3 o a (a + 1 + s)) s = false) ∧ st' = [some (.d (oD o)), some (.d (.int o.length)), some (.d (.int (a : Nat))), none, none, none, none, none]) (pg_name (i := 3) nd rfl (.inl rfl)) (ei_range2 T.range (ed_addI (ed_var 2) ed_int) (ed_var 1) (by omega)) ⟨fun s z => absurd z (Nat.not_lt_zero s), rfl⟩ (fun k d st' hd hst => ?_) (fun st' hst => ?_)
      · obtain ⟨hk, rfl⟩ := upD_at hd
        obtain ⟨pre1, rfl⟩ := hst
        have ek : (a : Int) + 1 + (k : Int) = ((a + 1 + k : Nat) : Int) := by omega
        rw [ek]
        have hb : a + 1 + k < o.length := by omega
        have hk2 : k < o.length - (a + 1) := by omega
        generalize eb : a + 1 + k = b at *
        refine ⟨_, gt_name 3, ?_⟩
        have upb : lr3 o a b = true → lawRough o = true := fun z => upa (any_yes (s := k) hk2 (by rw [eb]; exact z))
        refine hs_for (xs := upD ((b : Int) + 1) ((o.length : Int) - ((b : Int) + 1)).toNat) (fun k st' => (∀ s, s < k → (fun s => lr4 o a b (b + 1 + s)) s = false) ∧ st' = [some (.d (oD o)), some (.d (.int o.length)), some (.d (.int (a : Nat))), some (.d (.int (b : Nat))), none, none, none, none]) (pg_name (i := 4) nd rfl (.inl rfl)) (ei_range2 T.range (ed_addI (ed_var 3) ed_int) (ed_var 1) (by omega)) ⟨fun s z => absurd z (Nat.not_lt_zero s), rfl⟩ (fun k d st' hd hst => ?_) (fun st' hst => ?_)
        · obtain ⟨hk, rfl⟩ := upD_at hd
          obtain ⟨pre2, rfl⟩ := hst
          have ek : (b : Int) + 1 + (k : Int) = ((b + 1 + k : Nat) : Int) := by omega
          rw [ek]
          have hc : b + 1 + k < o.length := by omega
          have hk2 : k < o.length - (b + 1) := by omega
          generalize ec : b + 1 + k = c at *
          refine ⟨_, gt_name 4, ?_⟩
          have upc : lr4 o a b c = true → lawRough o = true := fun z => upb (any_yes (s := k) hk2 (by rw [ec]; exact z))
          refine hs_for (xs := upD ((c : Int) + 1) ((o.length : Int) - ((c : Int) + 1)).toNat) (fun k st' => (∀ s, s < k → (fun s => patB (fourAt o a b c (c + 1 + s))) s = false) ∧ st' = [some (.d (oD o)), some (.d (.int o.length)), some (.d (.int (a : Nat))), some (.d (.int (b : Nat))), some (.d (.int (c : Nat))), none, none, none]) (pg_name (i := 5) nd rfl (.inl rfl)) (ei_range2 T.range (ed_addI (ed_var 4) ed_int) (ed_var 1) (by omega)) ⟨fun s z => absurd z (Nat.not_lt_zero s), rfl⟩ (fun k d st' hd hst => ?_) (fun st' hst => ?_)
          · obtain ⟨hk, rfl⟩ := upD_at hd
            obtain ⟨pre3, rfl⟩ := hst
            have ek : (c : Int) + 1 + (k : Int) = ((c + 1 + k : Nat) : Int) := by omega
            rw [ek]
            have hd2 : c + 1 + k < o.length := by omega
            have hk2 : k < o.length - (c + 1) := by omega
            generalize ed : c + 1 + k = d at *
            refine ⟨_, gt_name 5, ?_⟩
            refine hs_set 6 (d := .list ((fourAt o a b c d).map .int)) nd (ed_lst (eds_cons (ed_atO (ed_var 0) (ed_var 2) rfl ha) (eds_cons (ed_atO (ed_var 0) (ed_var 3) rfl hb) (eds_cons (ed_atO (ed_var 0) (ed_var 4) rfl hc) (eds_1 (ed_atO (ed_var 0) (ed_var 5) rfl hd2))))) (show 4 ≤ 100000 by decide)) ?_
            refine hs_when (k := patB (fourAt o a b c d)) (ET.is (et_inT (a := .list ((rankL (fourAt o a b c d)).map .int)) (hu65 hr) (shaped_l _) shaped_two (ED.is (ed_lc (own := [("_law_thing", 7)]) (g := gName 7) (ys := fourAt o a b c d) (ι := PyData.int) (f := fun t => .int ((isI (fourAt o a b c d)).idxOf t : Nat)) nd (ei_list (ed_var 6)) (blkOk_by (N := N_l_is_rough) (sc := defScope s_l_is_rough) (by decide +kernel)) (fun _ _ _ _ _ => pg_name (i := 7) nd rfl (.inl rfl)) gw_name (show 4 ≤ 100000 by decide) (fun m y hy => ⟨_, gt_name 7, fun s' H' C cl fp => ?_⟩)) ?_) (ed_tup (eds_cons (ed_lst (eds_cons ed_int (eds_cons ed_int (eds_cons ed_int (eds_1 ed_int)))) (show 4 ≤ 100000 by decide)) (eds_1 (ed_lst (eds_cons ed_int (eds_cons ed_int (eds_cons ed_int (eds_1 ed_int)))) (show 4 ≤ 100000 by decide)))) (show 2 ≤ 100000 by decide))) (eqv_two _)) (fun hp => ?_) (fun hp => ?_)
            · exact ed_indexI (hu65 hr) (ed_sortedI T.sorted (ed_var 6) (show 4 < 64 by decide)) (ed_var 7) ((isI_perm _).mem_iff.mpr hy)
            · unfold rankL
              rw [List.map_map]
              rfl
            · refine hs_ret ed_bl ?_
              show _ = _
              rw [upc (any_yes (s := k) hk2 (by rw [ed]; exact hp))]
            · exact hs_end (st1 := [some (.d (oD o)), some (.d (.int o.length)), some (.d (.int (a : Nat))), some (.d (.int (b : Nat))), some (.d (.int (c : Nat))), none, none, none]) ⟨less_succ pre3 (by rw [ed]; exact hp), rfl⟩ (.so (.so (.so (.so (.so (.no (.no (.no .nil))))))))
          · obtain ⟨pre, rfl⟩ := hst
            rw [upD_len, show ((o.length : Int) - ((c : Int) + 1)).toNat = o.length - (c + 1) by omega] at pre
            exact hs_end (st1 := [some (.d (oD o)), some (.d (.int o.length)), some (.d (.int (a : Nat))), some (.d (.int (b : Nat))), none, none, none, none]) ⟨less_succ pre2 (by rw [ec]; exact any_no pre), rfl⟩ (.so (.so (.so (.so (.no (.no (.no (.no .nil))))))))
        · obtain ⟨pre, rfl⟩ := hst
          rw [upD_len, show ((o.length : Int) - ((b : Int) + 1)).toNat = o.length - (b + 1) by omega] at pre
          exact hs_end (st1 := [some (.d (oD o)), some (.d (.int o.length)), some (.d (.int (a : Nat))), none, none, none, none, none]) ⟨less_succ pre1 (by rw [eb]; exact any_no pre), rfl⟩ (.so (.so (.so (.no (.no (.no (.no (.no .nil))))))))
      · obtain ⟨pre, rfl⟩ := hst
        rw [upD_len, show ((o.length : Int) - ((a : Int) + 1)).toNat = o.length - (a + 1) by omega] at pre
        exact hs_end (st1 := [some (.d (oD o)), some (.d (.int o.length)), none, none, none, none, none, none]) ⟨less_succ pre0 (by rw [ea]; exact any_no pre), rfl⟩ (.so (.so (.no (.no (.no (.no (.no (.no .nil))))))))
    · obtain ⟨pre, rfl⟩ := hst
      rw [upD_len, Int.toNat_natCast] at pre
      refine hs_ret ed_bl ?_
      show _ = _
      rw [show lawRough o = false from any_no pre]
end
end K45
set_option maxHeartbeats 4000000
namespace K45
open PySem PySem.Spec PyProof.Rows L2
/-- what is to be true of a small order -/
structure SmallOk (o r : List Int) : Prop where
  ord : IsOrd o
  len : o.length ≤ 5
  run1 : ∃ f, f ≤ 1000 ∧ runB dropsOf f [o] [] = some r
  run2 : ∃ f, f ≤ 1000 ∧ runB dropsLaw f [o] [] = some r
  size : r.length = invs o + 1
  drops : 2 ≤ r.length → r[r.length - 2]? = some ((dropsOf o).length : Int)
  pal : smoothB o = decide (r = r.reverse)
  rough : smoothB o = !lawRough o
  ord2 : IsOrd (oppO o)
  run3 : ∃ f, f ≤ 1000 ∧ runB dropsOf f [oppO o] [] = some r
  ord3 : IsOrd o.reverse
  ord4 : IsOrd (overO o.reverse)
  run4 : ∃ f, f ≤ 1000 ∧ runB dropsOf f [overO o.reverse] [] = some r
theorem neg2_at {r : List Int} {x : Int} (h : 2 ≤ r.length) (e : r[r.length - 2]? = some x) : atI (r.map PyData.int) (-2) = some (.int x) := by
  unfold atI ixN
  rw [List.length_map, if_neg (by omega), if_pos (by omega)]
  show (r.map PyData.int)[((-2 : Int) + (r.length : Int)).toNat]? = _
  rw [show ((-2 : Int) + (r.length : Int)).toNat = r.length - 2 by omega, List.getElem?_map, e]
  rfl
theorem cut_last (r : List Int) : cutD (r.map PyData.int) none (some (-1)) = r.dropLast.map PyData.int := by
  unfold cutD
  rw [HT.sIx_none, List.drop_zero, Nat.sub_zero, List.length_map, ← List.map_take, List.dropLast_eq_take]
  congr 2
  unfold HT.sIx
  dsimp only
  rw [if_pos (by omega)]
  omega
theorem eqv_oD' (x y : List Int) : PyData.eqv (oD x) (oD y) = decide (x = y) := eqv_oD x y
section
variable {P : Program} {w : World} {K : PySem.W.Frag} {mg : Str → Option Value} {base : Heap}
abbrev G_sr (ds : List D) (d : D) : Prop := ∃ o r : List Int, SmallOk o r ∧ ds = [oD o] ∧ d = .bool true
theorem shaped_o (xs : List Int) : SeqAt.shaped (oD xs) = true := shaped_t xs
theorem ok_l_small_right (T : Fr mg) (c1 : Cl P w K mg base 4 "sizes_below" ["order"] G_sizes) (c2 : Cl P w K mg base 3 "_law_sizes" ["_law_order_here"] (G_run dropsLaw)) (c3 : Cl P w K mg base 4 "size_of" ["order"] G_sizeOf) (c4 : Cl P w K mg base 4 "strong_drops" ["order"] G_drops)
    (c5 : Cl P w K mg base 4 "is_smooth" ["order"] G_smooth) (c6 : Cl P w K mg base 1 "_law_truly" ["_law_found", "_law_due"] G_truly) (c7 : Cl P w K mg base 1 "_law_is_rough" ["_law_order_here"] G_lrough) (c8 : Cl P w K mg base 4 "opposite" ["order"] G_opp)
    (c9 : Cl P w K mg base 4 "turned_over" ["order"] G_over) (c10 : Cl P w K mg base 4 "turned_about" ["order"] G_about) (F : Df K mg "_law_small_right" s_l_small_right ["_law_order_here"]) : Cl P w K mg base 5 "_law_small_right" ["_law_order_here"] G_sr := by
  refine F.ok sc_l_small_right (fun ds d h => ?_) (fun f cdv A outer s H E ds d hr h => ?_)
  · obtain ⟨o, r, _, rfl, rfl⟩ := h
    rfl
  · obtain ⟨o, r, S, rfl, rfl⟩ := h
    have nd := sc_l_small_right.nd
    have hu := hu64 hr
    have h1 := S.ord.l1
    have hl := S.len
    obtain ⟨f1, b1, r1⟩ := S.run1
    obtain ⟨f2, b2, r2⟩ := S.run2
    obtain ⟨f3, b3, r3⟩ := S.run3
    obtain ⟨f4, b4, r4⟩ := S.run4
    have l2 : (oppO o).length = o.length := by unfold oppO; rw [List.length_map, List.length_range]
    have l4 : (overO o.reverse).length = o.length := by unfold overO; rw [List.length_map, List.length_reverse]
    refine hs_set 1 (d := oD r) nd (ed_cl c1 hr (eds_1 (ed_var 0)) ⟨o, r, f1, S.ord, by omega, b1, r1, rfl, rfl⟩) ?_
    refine hs_when (et_w (ew_or (et_neD hu (shaped_o _) (shaped_o _) (ed_var 1) (ed_cl c2 hr (eds_1 (ed_var 0)) ⟨o, r, f2, h1, by omega, S.ord.bd, b2, r2, rfl, rfl⟩)) fun _ => ew_or1 (et_neI (ed_lenO T.len (ed_var 1)) (ed_addI (ed_cl c3 hr (eds_1 (ed_var 0)) ⟨o, S.ord, by omega, rfl, rfl⟩) ed_int)))) (fun z => ?_) (fun _ => ?_)
    · exfalso
      rw [eqv_oD, decide_eq_true rfl, S.size, decide_eq_true (by omega)] at z
      cases z
    refine hs_when (k := false) (et_w ?_) (fun z => by cases z) (fun _ => ?_)
    · by_cases h2 : 2 ≤ r.length
      · refine ew_and (k := true) (k' := false) (ET.is (et_neD (a := oD r.dropLast) (b := oD []) hu (shaped_o _) (shaped_o _) (ED.is (ed_slT (lo := none) (i := none) (ed_var 1) True.intro (hi := some _) (j := some (-1)) ed_neg1) (congrArg PyData.tuple (cut_last r))) (ed_tup eds_nil)) ?_) fun _ => ew_and1 (ET.is (et_neI (ed_ixT (ed_var 1) ed_neg1 (neg2_at h2 (S.drops h2))) (ed_lenL T.len (ed_cl c4 hr (eds_1 (ed_var 0)) ⟨o, S.ord, by omega, rfl, rfl⟩))) ?_)
        · rw [eqv_oD, decide_eq_false]
          · rfl
          · intro e
            have := congrArg List.length e
            rw [List.length_dropLast] at this
            simp at this
            omega
        · rw [List.length_map]
          show (!decide ((((dropsOf o).length : Nat) : Int) = _)) = _
          rw [decide_eq_true (by rfl)]
          rfl
      · refine ew_and (k := false) (k' := true) (ET.is (et_neD (a := oD r.dropLast) (b := oD []) hu (shaped_o _) (shaped_o _) (ED.is (ed_slT (lo := none) (i := none) (ed_var 1) True.intro (hi := some _) (j := some (-1)) ed_neg1) (congrArg PyData.tuple (cut_last r))) (ed_tup eds_nil)) ?_) fun z => by cases z
        rw [eqv_oD, decide_eq_true]
        · rfl
        · exact List.eq_nil_of_length_eq_zero (by rw [List.length_dropLast]; omega)
    refine hs_when (k := false) (et_w (ew_or (k := false) (k' := false) (ET.is (et_not (et_of (ed_cl c6 hr (eds_cons (ed_cl c5 hr (eds_1 (ed_var 0)) ⟨o, S.ord, by omega, rfl, rfl⟩) (eds_1 (ed_eqD (b := oD r.reverse) hu (shaped_o _) (shaped_o _) (ed_var 1) (ED.is (ed_back (ed_var 1)) (by rw [← List.map_reverse] <;> rfl))))) ⟨_, _, rfl, rfl⟩))) ?_) fun _ => ew_or1 (ET.is (et_neB (ed_cl c5 hr (eds_1 (ed_var 0)) ⟨o, S.ord, by omega, rfl, rfl⟩) (ed_not (ed_cl c7 hr (eds_1 (ed_var 0)) ⟨o, by omega, rfl, rfl⟩))) ?_))) (fun z => by cases z) (fun _ => ?_)
    · rw [eqv_oD, S.pal]
      cases decide (r = r.reverse) <;> rfl
    · rw [S.rough]
      cases lawRough o <;> rfl
    refine hs_ret (ed_and (k := true) (k' := true) (ED.is (ed_eqD hu (shaped_o _) (shaped_o _) (ed_cl c1 hr (eds_1 (ed_cl c8 hr (eds_1 (ed_var 0)) ⟨o, S.ord, rfl, rfl⟩)) ⟨_, r, f3, S.ord2, by omega, b3, r3, rfl, rfl⟩) (ed_var 1)) ?_) fun _ => ed_one (ED.is (ed_eqD hu (shaped_o _) (shaped_o _) (ed_cl c1 hr (eds_1 (ed_cl c9 hr (eds_1 (ed_cl c10 hr (eds_1 (ed_var 0)) ⟨o, S.ord, rfl, rfl⟩)) ⟨_, S.ord3, rfl, rfl⟩)) ⟨_, r, f4, S.ord4, by omega, b4, r4, rfl, rfl⟩) (ed_var 1)) ?_)) rfl
    · rw [eqv_oD, decide_eq_true rfl]
    · rw [eqv_oD, decide_eq_true rfl]
end
end K45
set_option maxHeartbeats 4000000
/-! Defs that give a new list; the bag. -/
namespace K45
open PySem PySem.Spec PyProof.Rows L2
/-- a promise: with such data, a new list of ints -/
def PF (K : PySem.W.Frag) (G : List D → Prop) : Sp := fun vs H Q _ => ∃ (B : Hp) (ds : List D), Same B H ∧ DqAll K B vs ds ∧ G ds ∧
  ∀ (l : Addr) (bs : List Int) B2 H2, Nx none B H B2 H2 → H l = none → B2 l = none → H2 l = some (.lst (bs.map V.int)) → Q (.ref l) H2
/-- a promise of a def that takes from the bag: its first argument -/
def PB (K : PySem.W.Frag) (G : List D → (D → Prop) → Prop) : Sp := fun vs H Q _ => ∃ (B : Hp) (b : Addr) (us : List V) (ds : List D) (φ : D → Prop), vs = .ref b :: us ∧ Same B H ∧ BagOk (some b) B H ∧ DqAll K B us ds ∧ G ds φ ∧
  ∀ d v B2 H2, φ d → Nx (some b) B H B2 H2 → BagOk (some b) B2 H2 → Dq K B2 v d → Q v H2
section
variable {P : Program} {w : World} {K : PySem.W.Frag} {mg : Str → Option Value} {base : Heap}
structure ClF (P : Program) (w : World) (K : PySem.W.Frag) (mg : Str → Option Value) (base : Heap) (k : Nat) (x : Str) (ps : List Str) (G : List D → Prop) : Prop where
  ex : ∃ f fd, FnOk P w K mg base CX0 k f fd ps (PF K G) ∧ mg x = some (.ref f) ∧ PySem.W.keepIn K (.ref f) = true ∧ Binds K fd ps []
structure ClB (P : Program) (w : World) (K : PySem.W.Frag) (mg : Str → Option Value) (base : Heap) (k : Nat) (x : Str) (ps : List Str) (G : List D → (D → Prop) → Prop) : Prop where
  ex : ∃ f fd, FnOk P w K mg base CX0 k f fd ps (PB K G) ∧ mg x = some (.ref f) ∧ PySem.W.keepIn K (.ref f) = true ∧ Binds K fd ps []
theorem Df.okF {x : Str} {st : Stmt} {ps N : List Str} {k : Nat} {G : List D → Prop} (F : Df K mg x st ps) (S : FnScope N ps (defScope st)) (hl : ∀ ds, G ds → ds.length = ps.length)
    (hb : ∀ f cdv A outer s H E ds, Room k (A.deeper (envOfC x (defScope st) s.heap.objs.size f cdv)) → G ds →
      HS (cx P w K mg base N x st f cdv A outer s H E) none (st0 N ds) (defBody st) { nx := fun _ => False, rt := fun d' => ∃ bs : List Int, d' = .list (bs.map .int), fr := true }) : ClF P w K mg base (k + 1) x ps G := by
  obtain ⟨f, fd, F, hm, hbn⟩ := F.ex
  refine ⟨f, fd, ?_, hm, F.kp, hbn⟩
  refine F.ok S (fun vs H Q E h => ?_) (fun cdv A outer s H vs Q E hr h => ?_)
  · obtain ⟨B, ds, _, ha, g, _⟩ := h
    rw [ha.len]
    exact hl ds g
  · obtain ⟨B, ds, sm, ha, g, q⟩ := h
    refine ⟨fun E' σ' H' => WSs (cx P w K mg base N x st f cdv A outer s H E) (defBody st) E' σ' H', pssW, ?_⟩
    refine WSs.mono (hb f cdv A outer s H E ds hr g B B H _ H ⟨B, Same.refl B, Nx.refl sm, (fun _ z => nomatch z), sl_start ha⟩) (fun σ' H' ⟨st', e, _⟩ => (show False from e).elim) (fun v H' ⟨d', B', e, _, n, _, dv, fr⟩ => ?_) (fun σ' H' ⟨st', e, _⟩ => (show False from e)) (fun σ' H' ⟨st', e, _⟩ => (show False from e))
    obtain ⟨bs, rfl⟩ := e
    obtain ⟨l, rfl, hl0⟩ := fr rfl
    obtain ⟨a, us, e1, e2, e3⟩ := dv.lst_inv
    cases e1
    rw [e3.ints_inv] at e2
    have bl : B l = none := same_sub sm hl0
    refine q l bs (fun a => if a = l then none else B' a) H' ⟨fun a o h => ?_, n.h, fun a o h => ?_, fun a h => ?_, n.k⟩ hl0 (if_pos rfl) (n.i _ _ e2)
    · rw [if_neg (fun z => by rw [z, bl] at h; cases h)]
      exact n.b a o h
    · by_cases z : a = l
      · rw [if_pos z] at h; cases h
      · rw [if_neg z] at h
        exact n.i a o h
    · rw [if_neg (fun z => h (by rw [z]; exact hl0))]
      exact n.n a h
def stB (N : List Str) (b : Addr) (ds : List D) : Sto := some (Sv.v (.ref b)) :: ((ds.map fun d => some (Sv.d d)) ++ List.replicate (N.length - (ds.length + 1)) none)
theorem sl_startB {m : Option Addr} {H0 B H : Hp} {b : Addr} {N : List Str} {vs : List V} {ds : List D} (h : DqAll K B vs ds) : Sl K m H0 B H (stB N b ds) (L2.start N (.ref b :: vs)) := by
  have e : L2.start N (.ref b :: vs) = some (.ref b) :: ((vs.map some) ++ List.replicate (N.length - (vs.length + 1)) none) := rfl
  rw [e]
  have hl := h.len
  refine ⟨by simp [stB, hl], fun i s e => ?_⟩
  cases i with
  | zero =>
    cases e
    exact ⟨_, rfl, rfl⟩
  | succ i =>
    have e : (((ds.map fun d => some (Sv.d d)) ++ List.replicate (N.length - (ds.length + 1)) none) : Sto)[i]? = some (some s) := e
    show ∃ v, ((vs.map some) ++ List.replicate (N.length - (vs.length + 1)) none)[i]? = _ ∧ _
    by_cases hi : i < ds.length
    · rw [List.getElem?_append_left (by rw [List.length_map]; exact hi), List.getElem?_map] at e
      cases q : ds[i]? with
      | none => rw [q] at e; cases e
      | some d =>
        rw [q] at e
        cases e
        obtain ⟨v, hv, dv⟩ := h.at_ q
        refine ⟨v, ?_, dv⟩
        rw [List.getElem?_append_left (by rw [List.length_map, hl]; exact hi), List.getElem?_map, hv]
        rfl
    · rw [List.getElem?_append_right (by rw [List.length_map]; omega), List.getElem?_replicate] at e
      split at e <;> cases e
theorem Df.okB {x : Str} {st : Stmt} {ps N : List Str} {k : Nat} {G : List D → (D → Prop) → Prop} (F : Df K mg x st ps) (S : FnScope N ps (defScope st)) (hl : ∀ ds φ, G ds φ → ds.length + 1 = ps.length)
    (hb : ∀ f cdv A outer s H E ds φ b, Room k (A.deeper (envOfC x (defScope st) s.heap.objs.size f cdv)) → G ds φ →
      HS (cx P w K mg base N x st f cdv A outer s H E) (some b) (stB N b ds) (defBody st) { nx := fun _ => φ .none, rt := φ }) : ClB P w K mg base (k + 1) x ps G := by
  obtain ⟨f, fd, F, hm, hbn⟩ := F.ex
  refine ⟨f, fd, ?_, hm, F.kp, hbn⟩
  refine F.ok S (fun vs H Q E h => ?_) (fun cdv A outer s H vs Q E hr h => ?_)
  · obtain ⟨B, b, us, ds, φ, rfl, _, _, ha, g, _⟩ := h
    rw [List.length_cons, ha.len]
    exact hl ds φ g
  · obtain ⟨B, b, us, ds, φ, rfl, sm, bag, ha, g, q⟩ := h
    refine ⟨fun E' σ' H' => WSs (cx P w K mg base N x st f cdv A outer s H E) (defBody st) E' σ' H', pssW, ?_⟩
    refine WSs.mono (hb f cdv A outer s H E ds φ b hr g B B H _ H ⟨B, Same.refl B, Nx.refl sm, bag, sl_startB ha⟩) (fun σ' H' ⟨st', e, B', _, n, bg, _⟩ => q .none .non B' H' e n bg .non) (fun v H' ⟨d', B', e, _, n, bg, dv, _⟩ => q d' v B' H' e n bg dv) (fun σ' H' ⟨st', e, _⟩ => (show False from e)) (fun σ' H' ⟨st', e, _⟩ => (show False from e))
theorem ClB.imp {x : Str} {ps : List Str} {k : Nat} {G G' : List D → (D → Prop) → Prop} (c : ClB P w K mg base k x ps G) (h : ∀ ds φ, G' ds φ → ∃ ψ, G ds ψ ∧ ∀ d, ψ d → φ d) : ClB P w K mg base k x ps G' := by
  obtain ⟨f, fd, F, r⟩ := c.ex
  exact ⟨f, fd, F.imp fun vs H Q E ⟨B, b, us, ds, φ, e, s, bg, a, g, q⟩ => by
    obtain ⟨ψ, g2, im⟩ := h ds φ g
    exact ⟨B, b, us, ds, ψ, e, s, bg, a, g2, fun d v B2 H2 z => q d v B2 H2 (im d z)⟩, r⟩
end
section
variable {X : Cx} {st st1 st2 : Sto} {e e1 e2 e3 : Expr} {es : List Expr} {a c d : D} {ds : List D} {pos p p2 p3 : Pos} {K : PySem.W.Frag} {m : Option Addr} {b : Addr} {B H H0 B0 Bf B2 H2 : Hp} {σ : St} {rest body : List Stmt} {E : EndD} {φ ψ : D → Prop} {Φ : List D → Prop}
/-- the expression gives a new list of ints -/
def EF (X : Cx) (st : Sto) (e : Expr) : Prop := ∀ (m : Option Addr) (H0 B H : Hp) (σ : St), Same B H → Sl X.K m H0 B H st σ →
  ∀ Q : VK, (∀ (l : Addr) (bs : List Int) B2 H2, Nx none B H B2 H2 → H l = none → B2 l = none → H2 l = some (.lst (bs.map V.int)) → Q (.ref l) H2) → WE X e σ H Q
theorem ef_cl {j k : Nat} {ps : List Str} {G : List D → Prop} {x : Str} (cl : ClF X.prog X.w X.K X.mg X.base j x ps G) (hr : Room k X.A) (ha : EDs X st (e :: es) ds) (hG : G ds) (hj : j ≤ k := by decide) (hg : Gl X x := by rfl)
    (hdb : (x == ("__debug__" : Str)) = false := by decide) (he : starEach (e :: es) X.env = (false, eval e X.env) :: starEach es X.env := by rfl) (hpl : (backTo pos (starEach es X.env)).any (·.1) = false := by rfl) : EF X st (.Call (.Name x p) (e :: es) [] pos) := fun m H0 B H σ s l Q q => by
  obtain ⟨f, fd, F, hm, hk, hb⟩ := cl.ex
  refine WE.of (pe_call F (hr.mono hj) hg hm hk hb .nil pass0 paW hdb he hpl) (ha m H0 B H σ s l _ fun xs B1 H1 n1 d1 => ?_)
  rw [List.append_nil]
  refine ⟨B1, ds, n1.i, d1, hG, fun k bs B2 H2 n2 h1 h2 h3 => q k bs B2 H2 (n1.trans n2) ?_ h2 h3⟩
  cases z : H k with
  | none => rfl
  | some o => exact absurd h1 (n1.k k (by rw [z]; exact fun z => nomatch z))
theorem hs_retF (he : EF X st e) (h : ∀ bs : List Int, E.rt (.list (bs.map .int))) : HS X none st (.Return (some e) pos :: rest) E :=
  hs_cons fun Bf B0 H0 σ H o => by
    obtain ⟨B, sm, f, l, g, n, up⟩ := o.nx
    refine WS.of (ps_ret peW) (he none H0 B H σ sm l _ fun k bs B1 H1 n1 h1 h2 h3 => ?_)
    have h0 : H0 k = none := by
      cases z : H0 k with
      | none => rfl
      | some o => exact absurd h1 (n.k k (by rw [z]; exact fun z => nomatch z))
    exact ⟨_, upd B1 k (.lst (bs.map V.int)), h bs, f.trans (n1.b.trans (same_new h2)), (n.trans n1).freeze h0 h2 h3, (fun _ z => nomatch z), .lst upd_same (DqAll.ints bs), fun _ => ⟨k, rfl, h0⟩⟩
/-- name = a new list: it becomes the bag -/
theorem hs_setBag (i : Nat) {x : Str} {p' : Pos} (nd : X.N.Nodup) (he : EF X st e) (hno : noOwn st = true) (h : ∀ b, HS X (some b) (st.set i (some (.v (.ref b)))) rest E) (hi : X.N[i]? = some x := by rfl) (hx : Loc X.env.scope x := by first | exact Or.inl rfl | exact Or.inr rfl)
    (hs : swapsWith e (some (.Name x p')) pos.line X.env = pure false := by rfl) (hf : X.fn x = true ∨ X.env.scope.names.lookup x = some .local := by first | exact .inl rfl | exact .inr rfl) (hfr : E.fr = false := by rfl) : HS X none st (.Assign [.Name x p'] e pos :: rest) E := fun Bf B0 H0 σ H o => by
  obtain ⟨B, sm, f, l, g, n, up⟩ := o.nx
  refine WSs.of (pss_cons (ps_set nd hi hx peW hs hf) pssW) (he none H0 B H σ sm l _ fun k bs B1 H1 n1 h1 h2 h3 => ?_)
  have h0 : H0 k = none := by
    cases z : H0 k with
    | none => rfl
    | some o => exact absurd h1 (n.k k (by rw [z]; exact fun z => nomatch z))
  have l1 := l.nx n1
  have back : ∀ {B2 H2 : Hp}, Nx (some k) B0 H0 B2 H2 → Nx none B0 H0 B2 H2 := fun x => ⟨x.b, fun a o e _ => x.h a o e (fun z => by cases z; rw [h0] at e; cases e), x.i, x.n, x.k⟩
  have o1 : StOk X.K (some k) Bf B0 H0 (st.set i (some (.v (.ref k)))) (σ.set i (some (.ref k))) H1 := ⟨B1, f.trans n1.b, (n.trans n1).any, fun b e => by
    cases e
    exact ⟨h2, bs, h3⟩, Sl.set (s := .v (.ref k)) ⟨l1.1, fun j s e => by
      obtain ⟨v, hv, ok⟩ := l1.2 j s e
      refine ⟨v, hv, ?_⟩
      cases s with
      | d y => exact ok
      | v y => exact ok
      | x φ up => exact ok
      | own zs => exact absurd e (noOwn_at hno)⟩ i rfl⟩
  have calm : ∀ {σ' : St} {H' : Hp} {st' : Sto}, StOk X.K (some k) Bf B0 H0 st' σ' H' → StOk X.K none Bf B0 H0 st' σ' H' := fun ⟨B2, f2, n2, _, l2⟩ => ⟨B2, f2, back n2, (fun _ z => nomatch z), l2.1, fun j s e => by
    obtain ⟨v, hv, ok⟩ := l2.2 j s e
    refine ⟨v, hv, ?_⟩
    cases s with
    | d y => exact ok
    | v y => exact ok
    | x φ up => exact ok
    | own zs =>
      obtain ⟨a, vs, e1, e2, e3⟩ := ok
      exact ⟨a, vs, e1, (fun z => nomatch z), e3⟩⟩
  exact WSs.mono (h k Bf B0 H0 _ H1 o1) (fun _ _ ⟨s, q, r⟩ => ⟨s, q, calm r⟩) (fun _ _ ⟨d, B2, q, f2, n2, _, dv, _⟩ => ⟨d, B2, q, f2, back n2, (fun _ z => nomatch z), dv, fun z => nomatch hfr.symm.trans z⟩) (fun _ _ ⟨s, q, r⟩ => ⟨s, q, calm r⟩) (fun _ _ ⟨s, q, r⟩ => ⟨s, q, calm r⟩)
/-! ### expressions that take from the bag -/
def EB (X : Cx) (b : Addr) (st : Sto) (e : Expr) (φ : D → Prop) : Prop := ∀ (H0 B H : Hp) (σ : St), Same B H → BagOk (some b) B H → Sl X.K (some b) H0 B H st σ →
  ∀ Q : VK, (∀ d v B2 H2, φ d → Nx (some b) B H B2 H2 → BagOk (some b) B2 H2 → Dq X.K B2 v d → Q v H2) → WE X e σ H Q
def EBs (X : Cx) (b : Addr) (st : Sto) (es : List Expr) (Φ : List D → Prop) : Prop := ∀ (H0 B H : Hp) (σ : St), Same B H → BagOk (some b) B H → Sl X.K (some b) H0 B H st σ →
  ∀ Q : List V → Hp → Prop, (∀ ds vs B2 H2, Φ ds → Nx (some b) B H B2 H2 → BagOk (some b) B2 H2 → DqAll X.K B2 vs ds → Q vs H2) → WA X es σ H Q
def ETB (X : Cx) (b : Addr) (st : Sto) (e : Expr) (φ : Bool → Prop) : Prop := ∀ (H0 B H : Hp) (σ : St), Same B H → BagOk (some b) B H → Sl X.K (some b) H0 B H st σ →
  ∀ Q : Bool → Hp → Prop, (∀ k B2 H2, φ k → Nx (some b) B H B2 H2 → BagOk (some b) B2 H2 → Q k H2) → WT X e σ H Q
def EWB (X : Cx) (b : Addr) (st : Sto) (e : Expr) (φ : Bool → Prop) : Prop := ∀ (H0 B H : Hp) (σ : St), Same B H → BagOk (some b) B H → Sl X.K (some b) H0 B H st σ →
  ∀ Q : Bool → Hp → Prop, (∀ k B2 H2, φ k → Nx (some b) B H B2 H2 → BagOk (some b) B2 H2 → Q k H2) → WW X e σ H Q
theorem eb_of (h : ED X st e d) : EB X b st e (· = d) := fun H0 B H σ s g l Q q => h.any s l fun v B2 H2 n2 d2 => q d v B2 H2 rfl n2.any (g.nx n2) d2
theorem EB.imp (h : EB X b st e φ) (i : ∀ d, φ d → ψ d) : EB X b st e ψ := fun H0 B H σ s g l Q q => h H0 B H σ s g l Q fun d v B2 H2 z => q d v B2 H2 (i d z)
theorem EBs.imp {Ψ : List D → Prop} (h : EBs X b st es Φ) (i : ∀ d, Φ d → Ψ d) : EBs X b st es Ψ := fun H0 B H σ s g l Q q => h H0 B H σ s g l Q fun d v B2 H2 z => q d v B2 H2 (i d z)
theorem ETB.imp {φ ψ : Bool → Prop} (h : ETB X b st e φ) (i : ∀ d, φ d → ψ d) : ETB X b st e ψ := fun H0 B H σ s g l Q q => h H0 B H σ s g l Q fun d B2 H2 z => q d B2 H2 (i d z)
theorem ebs_nil : EBs X b st [] (· = []) := fun H0 B H σ s g l Q q => WA.of pa_nil (q [] [] B H rfl (Nx.refl s) g .nil)
theorem ebs_cons (h : EB X b st e φ) (hs : EBs X b st es Φ) (he : starEach (e :: es) X.env = (false, eval e X.env) :: starEach es X.env := by rfl) : EBs X b st (e :: es) (fun ds => ∃ d r, φ d ∧ Φ r ∧ ds = d :: r) := fun H0 B H σ s g l Q q =>
  WA.of (pa_cons peW paW he) (h H0 B H σ s g l _ fun d v B1 H1 z n1 g1 d1 => hs H0 B1 H1 σ n1.i g1 (l.nx n1) _ fun ds vs B2 H2 z2 n2 g2 d2 => q _ _ B2 H2 ⟨d, ds, z, z2, rfl⟩ (n1.trans n2) g2 (.cons (Dq.up n2.b d1) d2))
theorem ebs_1 (h : EB X b st e φ) (he : starEach [e] X.env = (false, eval e X.env) :: starEach [] X.env := by rfl) : EBs X b st [e] (fun ds => ∃ d, φ d ∧ ds = [d]) := (ebs_cons h ebs_nil he).imp fun ds ⟨d, r, h1, h2, h3⟩ => ⟨d, h1, by rw [h3, h2]⟩
theorem eb_bin {op : Operator} {r : R2} {χ : D → Prop} (ho : OpR X (binaryOp op) r) (h1 : EB X b st e1 φ) (h2 : EB X b st e2 ψ) (hr : ∀ a c, φ a → ψ c → ∃ d, χ d ∧ RD X.K r a c d) : EB X b st (.BinOp e1 op e2 pos) χ := fun H0 B H σ s g l Q q =>
  WE.of (pe_op ho peW peW) (h1 H0 B H σ s g l _ fun a x B1 H1 z1 n1 g1 d1 => h2 H0 B1 H1 σ n1.i g1 (l.nx n1) _ fun c y B2 H2 z2 n2 g2 d2 => by
    obtain ⟨d, hd, rd⟩ := hr a c z1 z2
    exact rd B2 H2 x y n2.i (Dq.up n2.b d1) d2 Q fun v B3 H3 n3 d3 => q d v B3 H3 hd ((n1.trans n2).trans n3.any) (g2.nx n3) d3)
theorem etb_cmp {op : CmpOp} {r : R2} {χ : Bool → Prop} (ho : OpR X (compareOp op) r) (hm : behindInMarks op e2 = false) (h1 : EB X b st e1 φ) (h2 : EB X b st e2 ψ) (hr : ∀ a c, φ a → ψ c → ∃ k, χ k ∧ RD X.K r a c (.bool k)) : ETB X b st (.Compare e1 [op] [e2] pos) χ := fun H0 B H σ s g l Q q =>
  WT.of (pt_cmpR ho peW peW hm) (h1 H0 B H σ s g l _ fun a x B1 H1 z1 n1 g1 d1 => h2 H0 B1 H1 σ n1.i g1 (l.nx n1) _ fun c y B2 H2 z2 n2 g2 d2 => by
    obtain ⟨k, hk, rd⟩ := hr a c z1 z2
    exact rd B2 H2 x y n2.i (Dq.up n2.b d1) d2 _ fun v B3 H3 n3 d3 => ⟨k, d3.bl_inv, q k B3 H3 hk ((n1.trans n2).trans n3.any) (g2.nx n3)⟩)
theorem eb_ix {r : R2} {χ : D → Prop} (ho : IxR X r) (h1 : EB X b st e1 φ) (h2 : EB X b st e2 ψ) (hr : ∀ a c, φ a → ψ c → ∃ d, χ d ∧ RD X.K r a c d) (hs : PlainIx e2) : EB X b st (.Subscript e1 e2 pos) χ := fun H0 B H σ s g l Q q =>
  WE.of (pe_ix ho peW peW hs) (h1 H0 B H σ s g l _ fun a x B1 H1 z1 n1 g1 d1 => h2 H0 B1 H1 σ n1.i g1 (l.nx n1) _ fun c y B2 H2 z2 n2 g2 d2 => by
    obtain ⟨d, hd, rd⟩ := hr a c z1 z2
    exact rd B2 H2 x y n2.i (Dq.up n2.b d1) d2 Q fun v B3 H3 n3 d3 => q d v B3 H3 hd ((n1.trans n2).trans n3.any) (g2.nx n3) d3)
/-- a def that changes nothing, with such arguments -/
theorem eb_cl {j k : Nat} {ps : List Str} {G : List D → D → Prop} {x : Str} (cl : Cl X.prog X.w X.K X.mg X.base j x ps G) (hr : Room k X.A) (ha : EBs X b st (e :: es) Φ) (hG : ∀ ds, Φ ds → ∃ d, G ds d ∧ ψ d) (hj : j ≤ k := by decide) (hg : Gl X x := by rfl)
    (hdb : (x == ("__debug__" : Str)) = false := by decide) (he : starEach (e :: es) X.env = (false, eval e X.env) :: starEach es X.env := by rfl) (hpl : (backTo pos (starEach es X.env)).any (·.1) = false := by rfl) : EB X b st (.Call (.Name x p) (e :: es) [] pos) ψ := fun H0 B H σ s g l Q q => by
  obtain ⟨f, fd, F, hm, hk, hb⟩ := cl.ex
  refine WE.of (pe_call F (hr.mono hj) hg hm hk hb .nil pass0 paW hdb he hpl) (ha H0 B H σ s g l _ fun ds xs B1 H1 z1 n1 g1 d1 => ?_)
  rw [List.append_nil]
  obtain ⟨d, hd, hψ⟩ := hG ds z1
  exact ⟨B1, ds, d, n1.i, d1, hd, fun v B2 H2 n2 d2 => q d v B2 H2 hψ (n1.trans n2.any) (g1.nx n2) d2⟩
/-- a def that takes from the bag -/
theorem eb_clB {j k : Nat} {ps : List Str} {G : List D → (D → Prop) → Prop} {x y : Str} (i : Nat) {q1 : Pos} (cl : ClB X.prog X.w X.K X.mg X.base j x ps G) (hr : Room k X.A) (ha : EBs X b st es Φ) (hG : ∀ ds, Φ ds → ∃ φ, G ds φ ∧ ∀ d, φ d → ψ d) (hi : st[i]? = some (some (.v (.ref b))) := by rfl) (hN : X.N[i]? = some y := by rfl)
    (hv : Vis X.env.scope y := by first | exact Or.inl rfl | exact Or.inr (Or.inl rfl) | exact Or.inr (Or.inr rfl)) (hd : (y == ("__debug__" : Str)) = false := by decide) (hcd : (y == ("__classdict__" : Str)) = false := by decide) (hj : j ≤ k := by decide) (hg : Gl X x := by rfl)
    (hdb : (x == ("__debug__" : Str)) = false := by decide) (he : starEach (.Name y q1 :: es) X.env = (false, eval (.Name y q1) X.env) :: starEach es X.env := by rfl) (hpl : (backTo pos (starEach es X.env)).any (·.1) = false := by rfl) : EB X b st (.Call (.Name x p) (.Name y q1 :: es) [] pos) ψ := fun H0 B H σ s g l Q q => by
  obtain ⟨f, fd, F, hm, hk, hb⟩ := cl.ex
  obtain ⟨v, hv1, hv2⟩ := l.2 i _ hi
  have hv2 : v = .ref b := hv2
  subst hv2
  refine WE.of (pe_call F (hr.mono hj) hg hm hk hb .nil pass0 (pa_cons (pe_var hN hv hd hcd) paW he) hdb he hpl) ⟨_, hv1, ha H0 B H σ s g l _ fun ds xs B1 H1 z1 n1 g1 d1 => ?_⟩
  show PB X.K G (V.ref b :: xs ++ []) H1 Q E0
  rw [List.append_nil]
  obtain ⟨φ, hφ, im⟩ := hG ds z1
  exact ⟨B1, b, xs, ds, φ, rfl, n1.i, g1, d1, hφ, fun d v B2 H2 z2 n2 g2 d2 => q d v B2 H2 (im d z2) (n1.trans n2) g2 d2⟩
/-! ### statements with such expressions -/
theorem hs_setB (i : Nat) {x : Str} {p' : Pos} (nd : X.N.Nodup) (he : EB X b st e φ) (h : ∀ d, φ d → HS X (some b) (st.set i (some (.d d))) rest E) (hi : X.N[i]? = some x := by rfl) (hx : Loc X.env.scope x := by first | exact Or.inl rfl | exact Or.inr rfl)
    (hs : swapsWith e (some (.Name x p')) pos.line X.env = pure false := by rfl) (hf : X.fn x = true ∨ X.env.scope.names.lookup x = some .local := by first | exact .inl rfl | exact .inr rfl) : HS X (some b) st (.Assign [.Name x p'] e pos :: rest) E := fun Bf B0 H0 σ H o => by
  obtain ⟨B, sm, f, l, g, n, up⟩ := o.nx
  refine WSs.of (pss_cons (ps_set nd hi hx peW hs hf) pssW) (he H0 B H σ sm g l _ fun d v B1 H1 z n1 g1 d1 => ?_)
  exact h d z Bf B0 H0 _ H1 ⟨B1, f.trans n1.b, n.trans n1, g1, (l.nx n1).set i (s := .d d) d1⟩
theorem hs_retB (he : EB X b st e φ) (h : ∀ d, φ d → E.rt d) (hfr : E.fr = false := by rfl) : HS X (some b) st (.Return (some e) pos :: rest) E :=
  hs_cons fun Bf B0 H0 σ H o => by
    obtain ⟨B, sm, f, l, g, n, up⟩ := o.nx
    exact WS.of (ps_ret peW) (he H0 B H σ sm g l _ fun d v B1 H1 z n1 g1 d1 => ⟨d, B1, h d z, f.trans n1.b, n.trans n1, g1, d1, fun z => nomatch hfr.symm.trans z⟩)
theorem hs_ifB {χ : Bool → Prop} {u w : List Stmt} (hc : ETB X b st e χ) (h1 : χ true → HS X (some b) st u { E with nx := fun st' => HS X (some b) st' rest E }) (h2 : χ false → HS X (some b) st w { E with nx := fun st' => HS X (some b) st' rest E }) : HS X (some b) st (.If e u w pos :: rest) E :=
  hs_cons fun Bf B0 H0 σ H o => by
    obtain ⟨B, sm, f, l, g, n, up⟩ := o.nx
    refine WS.of (ps_if ptW pssW pssW) (hc H0 B H σ sm g l _ fun k B1 H1 z n1 g1 => ?_)
    have o1 : StOk X.K (some b) Bf B0 H0 st σ H1 := ⟨B1, f.trans n1.b, n.trans n1, g1, l.nx n1⟩
    cases k with
    | true => exact h1 z Bf B0 H0 σ H1 o1
    | false => exact h2 z Bf B0 H0 σ H1 o1
theorem hs_whenB {χ : Bool → Prop} {u : List Stmt} (hc : ETB X b st e χ) (h1 : χ true → HS X (some b) st u { E with nx := fun st' => HS X (some b) st' rest E }) (h2 : χ false → HS X (some b) st rest E) : HS X (some b) st (.If e u [] pos :: rest) E :=
  hs_ifB hc h1 fun z => hs_nil (h2 z)
theorem etb_of {χ : Bool → Prop} (h : EB X b st e φ) (hk : ∀ d, φ d → ∃ k, d = .bool k ∧ χ k) (he : ∀ whole, isTrue e X.env whole = (do let v ← whole; standAt e.pos; holding [v] (truthy v)) := by intro _; rfl) : ETB X b st e χ := fun H0 B H σ s g l Q q =>
  WT.of (pt_val peW he) (h H0 B H σ s g l _ fun d v B1 H1 z n1 g1 d1 => by
    obtain ⟨k, rfl, hk⟩ := hk d z
    exact ⟨k, d1.bl_inv, q k B1 H1 hk n1 g1⟩)
theorem etb_not {χ : Bool → Prop} (h : ETB X b st e χ) : ETB X b st (.UnaryOp .Not e pos) (fun k => χ (!k)) := fun H0 B H σ s g l Q q => WT.of (pt_not ptW) (h H0 B H σ s g l _ fun k B1 H1 z n1 g1 => q (!k) B1 H1 (by show χ (!!k); rw [Bool.not_not]; exact z) n1 g1)
theorem etb_w {χ : Bool → Prop} (h : EWB X b st e χ) : ETB X b st e χ := fun H0 B H σ s g l Q q => WT.of (PW.pt pwW) (h H0 B H σ s g l Q q)
/-- a or b, where neither is true -/
theorem ewb_or_no {rest : List Expr} (h1 : ETB X b st e1 (· = false)) (h2 : EWB X b st (.BoolOp .Or (e2 :: rest) pos) (· = false)) : EWB X b st (.BoolOp .Or (e1 :: e2 :: rest) pos) (· = false) := fun H0 B H σ s g l Q q =>
  WW.of (pw_or ptW pwW) (h1 H0 B H σ s g l _ fun k B1 H1 z n1 g1 => by
    subst z
    exact h2 H0 B1 H1 σ n1.i g1 (l.nx n1) Q fun k B2 H2 z2 n2 g2 => q k B2 H2 z2 (n1.trans n2) g2)
theorem ewb_or1 {χ : Bool → Prop} (h : ETB X b st e χ) : EWB X b st (.BoolOp .Or [e] pos) χ := fun H0 B H σ s g l Q q => WW.of (pw_or1 ptW) (h H0 B H σ s g l Q q)
/-! ### ints from the bag -/
abbrev IntIn (R : Int → Prop) (d : D) : Prop := ∃ j, R j ∧ d = .int j
theorem eb_addC {i : Int} {R : Int → Prop} (h1 : ED X st e1 (.int i)) (h2 : EB X b st e2 (IntIn R)) : EB X b st (.BinOp e1 .Add e2 pos) (IntIn fun k => ∃ j, R j ∧ k = i + j) :=
  eb_bin op_add (eb_of h1) h2 fun a c ha ⟨j, hj, hc⟩ => by
    subst ha hc
    exact ⟨.int (i + j), ⟨_, ⟨j, hj, rfl⟩, rfl⟩, rd_I0 fun _ => .int _⟩
end
end K45
set_option maxHeartbeats 4000000
namespace K45
open PySem PySem.Spec PyProof.Rows L2
section
variable {X : Cx} {st : Sto} {e1 e2 : Expr} {pos : Pos}
theorem ed_mulI {i j : Int} (hc : CMul i j) (h1 : ED X st e1 (.int i)) (h2 : ED X st e2 (.int j)) : ED X st (.BinOp e1 .Mult e2 pos) (.int (i * j)) := ed_bin op_mul h1 h2 (rd_I hc fun _ => .int _)
theorem ed_fdivI {i j : Int} (hc : CDivN i j) (h1 : ED X st e1 (.int i)) (h2 : ED X st e2 (.int j)) : ED X st (.BinOp e1 .FloorDiv e2 pos) (.int (i.fdiv j)) := ed_bin op_fdivN h1 h2 (rd_I hc fun _ => .int _)
theorem ed_powI {i j : Int} (hc : CPow i j) (h1 : ED X st e1 (.int i)) (h2 : ED X st e2 (.int j)) : ED X st (.BinOp e1 .Pow e2 pos) (.int (i ^ j.toNat)) := ed_bin op_pow h1 h2 (rd_I hc fun _ => .int _)
theorem hs_join {m : Option Addr} {e : Expr} {k : Bool} {u rest : List Stmt} {E : EndD} (J : Sto → Prop) (hc : ET X st e k) (h1 : k = true → HS X m st u { E with nx := J }) (h2 : k = false → J st) (h : ∀ s, J s → HS X m s rest E) : HS X m st (.If e u [] pos :: rest) E :=
  hs_when hc (fun z => (h1 z).mono (fun s q => h s q) (fun _ q => q) (fun _ q => q) (fun _ q => q)) (fun z => h st (h2 z))
end
def P8 : List Int := [2147483647, 2147483629, 2147483587, 2147483579, 2147483563, 2147483549, 2147483543, 2147483497]
theorem p8_rg {k : Nat} (h : k < 8) : 0 < P8.getD k 0 ∧ P8.getD k 0 < 4294967296 := by
  match k, h with
  | 0, _ => decide
  | 1, _ => decide
  | 2, _ => decide
  | 3, _ => decide
  | 4, _ => decide
  | 5, _ => decide
  | 6, _ => decide
  | 7, _ => decide
def cellO (bs : List Int) : Int := if 0 < bs.length then bs.getD 0 0 else 101
end K45
set_option maxHeartbeats 4000000
namespace K45
open PySem PySem.Spec PyProof.Rows L2
section
variable {X : Cx} {st : Sto} {e e1 e2 : Expr} {pos p p2 p3 p4 p5 p6 p7 p8 p9 : Pos} {b : Addr}
theorem ed_intI {i : Int} (hm : X.mg "int" = none) (h : ED X st e (.int i)) (hg : Gl X "int" := by rfl) (he : starEach [e] X.env = (false, eval e X.env) :: starEach [] X.env := by rfl) : ED X st (.Call (.Name "int" p) [e] [] pos) (.int i) :=
  ed_callTy call_int1 hm bt_int (eds_1 h he) (fun B H vs s hv Q q => by
    cases hv with
    | cons x t =>
      cases t
      exact .inl ⟨i, by rw [x.int_inv], q _ B H (Nx.refl s) (.int i)⟩) hg (he := he) (hpl := by rfl)
/-- bag.pop(0) if bag != [] else 0 -/
theorem eb_pop (i : Nat) {x : Str} {j k : Nat} (hu : X.A.units + 64 < cLine) (hi : st[i]? = some (some (.v (.ref b))) := by rfl) (hN : X.N[i]? = some x := by rfl) (hv : Vis X.env.scope x := by first | exact Or.inl rfl | exact Or.inr (Or.inl rfl) | exact Or.inr (Or.inr rfl))
    (hd : (x == ("__debug__" : Str)) = false := by decide) (hcd : (x == ("__classdict__" : Str)) = false := by decide)
    (hbase : attributeBase (.Name x p3) "pop" X.env (eval (.Name x p3) X.env) = eval (.Name x p3) X.env := by rfl)
    (hfew : ((backTo p5 (starEach [.Constant (.int 0) j p6] X.env)).all (fun x => !x.1) && (backToKw p5 (keywordEach [] X.env)).all (fun x => x.1.isSome)
      && decide (([.Constant (.int 0) j p6] : List Expr).length + ([] : List Keyword).length + (if ([] : List Keyword).isEmpty then 0 else 1) < 30)) = true := by rfl)
    (hline : (p4.endLine == p5.line) = true := by rfl) (hs : starEach [.Constant (.int 0) j p6] X.env = (false, eval (.Constant (.int 0) j p6) X.env) :: starEach [] X.env := by rfl) :
    EB X b st (.IfExp (.Compare (.Name x p) [.NotEq] [.List [] p2] p8) (.Call (.Attribute (.Name x p3) "pop" p4) [.Constant (.int 0) j p6] [] p5) (.Constant (.int 0) k p7) pos) (IntIn fun _ => True) := fun H0 B H σ s g l Q q => by
  obtain ⟨v, hv1, hv2⟩ := l.2 i _ hi
  have hv2 : v = .ref b := hv2
  subst hv2
  obtain ⟨g1, bs, g2⟩ := g b rfl
  refine WE.of (pe_ifExp (pt_cmpR (op_neD hu) (pe_var hN hv hd hcd) (pe_lst pa_nil) (nomark _)) (pe_bm PySem.F.plainAttrs_list PySem.F.slot_list_pop PySem.F.type_list_pop (show MtR X _ rPopAt from mt_popAt) (pe_var hN hv hd hcd) (pa_cons pe_int pa_nil hs) hbase hfew hline hs (by rfl)) pe_int) ?_
  refine ⟨_, hv1, Nat.zero_le _, fun t ht => ?_⟩
  have n1 := Nx.new (o := .lst []) s ht
  have g2' : upd H t (.lst []) b = some (.lst (bs.map V.int)) := n1.same _ _ g2
  refine ⟨.list (bs.map .int), .list [], .lst (SqL.of g2') (DqAll.dp _ _ (DqAll.ints (K := X.K) (H := upd H t (.lst [])) bs)), .lst (SqL.of upd_same) .nil, shaped_l bs, (by simpa using shaped_l []), ⟨_, rfl, ?_⟩⟩
  rw [eqv_nil]
  cases bs with
  | nil => exact q (.int 0) _ _ _ ⟨0, trivial, rfl⟩ n1.any (g.nx n1) (.int 0)
  | cons c bs =>
    refine ⟨_, hv1, .inl ⟨rfl, _, SqL.of g2'⟩, b, _, 0, 0, .int c, rfl, rfl, g2', by omega, by omega, ?_, rfl, ?_⟩
    · exact seqIndex_of (by omega) (by simp <;> omega)
    · have bt : (upd B t (.lst [])) b = none := (upd_ne (ne_of_none g2 ht)).trans g1
      exact q (.int c) _ _ _ ⟨c, trivial, rfl⟩ (n1.any.put (.inr rfl) bt) (fun b' e => by
        cases e
        exact ⟨bt, bs, upd_same⟩) (.int c)
end
section
variable {P : Program} {w : World} {K : PySem.W.Frag} {mg : Str → Option Value} {base : Heap}
abbrev G_take (ds : List D) (φ : D → Prop) : Prop := ∃ n : Int, 0 < n ∧ ds = [.int n] ∧ φ = IntIn (fun r => 0 ≤ r ∧ r < n)
theorem ok_l_take (T : Fr mg) (F : Df K mg "_law_take" s_l_take ["_law_bag_here", "_law_many"]) : ClB P w K mg base 1 "_law_take" ["_law_bag_here", "_law_many"] G_take := by
  refine F.okB sc_l_take (fun ds φ h => ?_) (fun f cdv A outer s H E ds φ b hr h => ?_)
  · obtain ⟨n, _, rfl, rfl⟩ := h
    rfl
  · obtain ⟨n, hn, rfl, rfl⟩ := h
    have nd := sc_l_take.nd
    refine hs_setB 2 nd (eb_pop 0 (hu64 hr)) (fun d hd => ?_)
    obtain ⟨i, _, rfl⟩ := hd
    refine hs_ret (ed_modI hn (ed_intI T.int (ed_var 2)) (ed_var 1)) ⟨i % n, ⟨Int.emod_nonneg _ (by omega), Int.emod_lt_of_pos _ hn⟩, rfl⟩
abbrev G_choice (ds : List D) (φ : D → Prop) : Prop := ∃ xs : List Int, xs ≠ [] ∧ xs.length ≤ 100 ∧ ds = [.list (xs.map .int)] ∧ φ = IntIn (fun r => r ∈ xs)
theorem ok_l_choice (T : Fr mg) (c1 : ClB P w K mg base 1 "_law_take" ["_law_bag_here", "_law_many"] G_take) (F : Df K mg "_law_choice" s_l_choice ["_law_bag_here", "_law_some"]) : ClB P w K mg base 2 "_law_choice" ["_law_bag_here", "_law_some"] G_choice := by
  refine F.okB sc_l_choice (fun ds φ h => ?_) (fun f cdv A outer s H E ds φ b hr h => ?_)
  · obtain ⟨xs, _, _, rfl, rfl⟩ := h
    rfl
  · obtain ⟨xs, hn, _, rfl, rfl⟩ := h
    have hp : 0 < xs.length := List.length_pos_iff.mpr hn
    refine hs_retB (φ := IntIn (fun r => r ∈ xs)) (eb_ix ix_list (eb_of (ed_var 1)) (eb_clB (ψ := IntIn (fun r => 0 ≤ r ∧ r < (xs.length : Int))) 0 c1 hr (ebs_1 (eb_of (ed_lenL T.len (ed_var 1)))) (fun ds h => ?_)) (fun a c ha hc => ?_) (fun _ _ => rfl)) (fun d h => h)
    · obtain ⟨d, rfl, rfl⟩ := h
      exact ⟨_, ⟨_, by rw [List.length_map]; omega, rfl, rfl⟩, fun d h => by rwa [List.length_map] at h⟩
    · subst ha
      obtain ⟨j, ⟨h0, h1⟩, rfl⟩ := hc
      obtain ⟨k, rfl⟩ : ∃ k : Nat, j = (k : Int) := ⟨j.toNat, by omega⟩
      have hk : k < xs.length := by omega
      refine ⟨.int (xs.getD k 0), ⟨_, getD_mem hk, rfl⟩, fun B H x y s hx hy Q q => ?_⟩
      obtain ⟨p, us, rfl, t1, a1⟩ := hx.lst_inv
      obtain ⟨v, hv, dv⟩ := atI_D a1 (atO hk)
      exact ⟨p, us, k, v, rfl, hy.int_inv, SqL.of (s _ _ t1), hv, q v B H (Nx.refl s) dv⟩
end
end K45
set_option maxHeartbeats 4000000
namespace K45
open PySem PySem.Spec PyProof.Rows L2
theorem IsOrd.perm {o u : List Int} (h : IsOrd o) (p : u.Perm o) : IsOrd u := ⟨by rw [p.length_eq]; exact h.l1, by rw [p.length_eq]; exact h.l2, fun x hx => by rw [p.length_eq]; exact h.rg x (p.mem_iff.mp hx), p.nodup_iff.mpr h.nd⟩
theorem plainO_len (n : Nat) : (plainO n).length = n := by unfold plainO; rw [List.length_map, List.length_range]
theorem plainO_ord {n : Nat} (h1 : 1 ≤ n) (h2 : n ≤ 30) : IsOrd (plainO n) := ⟨by rw [plainO_len]; exact h1, by rw [plainO_len]; exact h2, fun x hx => by
  rw [plainO_len]
  obtain ⟨i, hi, rfl⟩ := List.mem_map.mp hx
  have := List.mem_range.mp hi
  omega, nat_ints_nodup n⟩
theorem swapO_perm {o : List Int} {p : Nat} (h : p + 1 < o.length) : (swapO o p).Perm o := by
  have e : o = (o.take p ++ [o.getD p 0, o.getD (p + 1) 0]) ++ o.drop (p + 2) := by
    refine List.ext_getElem? fun i => ?_
    have lt : (o.take p).length = p := by rw [List.length_take]; omega
    by_cases h1 : i < p
    · rw [List.append_assoc, List.getElem?_append_left (by omega), List.getElem?_take, if_pos h1]
    · by_cases h2 : i < p + 2
      · rw [List.getElem?_append_left (by rw [List.length_append, lt]; exact h2), List.getElem?_append_right (by omega), lt]
        rcases (by omega : i = p ∨ i = p + 1) with rfl | rfl
        · rw [Nat.sub_self, List.getD_eq_getElem?_getD, List.getElem?_eq_getElem (by omega)]
          rfl
        · rw [Nat.add_sub_cancel_left, List.getD_eq_getElem?_getD (i := p + 1), List.getElem?_eq_getElem h]
          rfl
      · rw [List.getElem?_append_right (by rw [List.length_append, lt]; show p + 2 ≤ i; omega), List.length_append, lt, List.getElem?_drop]
        congr 1
        show i = p + 2 + (i - (p + 2))
        omega
  conv => rhs; rw [e]
  unfold swapO
  exact ((List.Perm.swap _ _ []).append_left _).append_right _
theorem erase_map {α β : Type} (f : α → β) : ∀ (xs : List α) (r : Nat), (xs.map f).eraseIdx r = (xs.eraseIdx r).map f
  | [], _ => rfl
  | _ :: _, 0 => rfl
  | x :: xs, r + 1 => congrArg (f x :: ·) (erase_map f xs r)
theorem erase_perm {xs ys : List Int} {r : Nat} (h : r < xs.length) : (xs.eraseIdx r ++ (ys ++ [xs.getD r 0])).Perm (xs ++ ys) := by
  have e : xs.getD r 0 = xs[r] := by rw [List.getD_eq_getElem?_getD, List.getElem?_eq_getElem h]; rfl
  rw [e]
  have p1 : (xs[r] :: xs.eraseIdx r).Perm xs := by
    rw [List.eraseIdx_eq_take_drop_succ]
    have q : xs = xs.take r ++ xs[r] :: xs.drop (r + 1) := by
      rw [← List.drop_eq_getElem_cons h, List.take_append_drop]
    conv => rhs; rw [q]
    exact List.perm_middle.symm
  refine List.Perm.trans ?_ (p1.append_right ys)
  rw [← List.append_assoc]
  exact List.perm_append_singleton _ _
section
variable {X : Cx} {st : Sto} {e e1 e2 : Expr} {pos p p2 p3 p4 p5 p6 p7 p8 p9 : Pos} {b : Addr} {m : Option Addr} {rest : List Stmt} {E : EndD}
theorem et_ownNe (i : Nat) {x : Str} {xs : List Int} (hu : X.A.units + 64 < cLine) (hi : st[i]? = some (some (.own (xs.map .int))) := by rfl) (hN : X.N[i]? = some x := by rfl) (hv : Vis X.env.scope x := by first | exact Or.inl rfl | exact Or.inr (Or.inl rfl) | exact Or.inr (Or.inr rfl))
    (hd : (x == ("__debug__" : Str)) = false := by decide) (hcd : (x == ("__classdict__" : Str)) = false := by decide) : ET X st (.Compare (.Name x p) [.NotEq] [.List [] p2] pos) (!xs.isEmpty) := fun m H0 B H σ s l Q q => by
  obtain ⟨v, hv1, k, vs, rfl, q1, q2, q3, q4, q5⟩ := l.2 i _ hi
  refine WT.of (pt_cmpR (op_neD hu) (pe_var hN hv hd hcd) (pe_lst pa_nil) (nomark _)) ⟨_, hv1, Nat.zero_le _, fun t ht => ?_⟩
  have n1 := Nx.new (o := .lst []) s ht
  refine ⟨.list (xs.map .int), .list [], .lst (SqL.of (n1.same _ _ q4)) (DqAll.dp _ _ (DqAll.up (n1.b.trans n1.i) q5)), .lst (SqL.of upd_same) .nil, shaped_l xs, (by simpa using shaped_l []), ⟨_, rfl, ?_⟩⟩
  rw [eqv_nil]
  have e : (xs.map PyData.int).isEmpty = xs.isEmpty := by cases xs <;> rfl
  rw [e]
  exact q _ _ n1
theorem ed_lenOwn (i : Nat) {x : Str} {xs : List D} (hm : X.mg "len" = none) (hi : st[i]? = some (some (.own xs)) := by rfl) (hg : Gl X "len" := by rfl) (hN : X.N[i]? = some x := by rfl) (hv : Vis X.env.scope x := by first | exact Or.inl rfl | exact Or.inr (Or.inl rfl) | exact Or.inr (Or.inr rfl))
    (hd : (x == ("__debug__" : Str)) = false := by decide) (hcd : (x == ("__classdict__" : Str)) = false := by decide) (he : starEach [.Name x p2] X.env = (false, eval (.Name x p2) X.env) :: starEach [] X.env := by rfl) : ED X st (.Call (.Name "len" p) [.Name x p2] [] pos) (.int xs.length) := fun m H0 B H σ s l Q q => by
  obtain ⟨v, hv1, k, vs, rfl, q1, q2, q3, q4, q5⟩ := l.2 i _ hi
  refine WE.of (pe_callB call_len_seq hg hm PySem.boot_len (pa_cons (pe_var hN hv hd hcd) pa_nil he) (he := he) (hpl := by rfl)) ⟨_, hv1, k, vs, rfl, .inl (SqL.of q4), q _ B H (Nx.refl s) ?_⟩
  rw [q5.len]
  exact .int _
/-- a, c = (list(range(n)), ()) -/
theorem hs_parRg (i j : Nat) {x y : Str} {px py pt : Pos} {kt k2 k3 pt2} {n : Nat} (hm : X.mg "list" = none) (hm2 : X.mg "range" = none) (nd : X.N.Nodup) (he : ED X st e (.int n)) (hn : n ≤ 1000) (h : HS X m ((st.set i (some (.own ((plainO n).map .int)))).set j (some (.d (oD [])))) rest E) (hc : X.calm = true := by rfl)
    (hg : Gl X "list" := by rfl) (hg2 : Gl X "range" := by rfl) (hi : X.N[i]? = some x := by rfl) (hj : X.N[j]? = some y := by rfl) (hij : i ≠ j := by decide) (hx : X.env.scope.names.lookup x = some .local := by rfl) (hy : X.env.scope.names.lookup y = some .local := by rfl)
    (na : starEach [e] X.env = (false, eval e X.env) :: starEach [] X.env := by rfl) (na2 : starEach [.Call (.Name "range" p2) [e] [] p3] X.env = (false, eval (.Call (.Name "range" p2) [e] [] p3) X.env) :: starEach [] X.env := by rfl)
    (hw : swappedStores [.Tuple [.Name x px, .Name y py] kt pt] (.Tuple [.Call (.Name "list" p) [.Call (.Name "range" p2) [e] [] p3] [] p4, .Tuple [] k3 p5] k2 pt2) X.env = pure (some [x, y]) := by rfl)
    (hs : swapsWithSole [.Tuple [.Name x px, .Name y py] kt pt] (.Tuple [.Call (.Name "list" p) [.Call (.Name "range" p2) [e] [] p3] [] p4, .Tuple [] k3 p5] k2 pt2) pos.line X.env = pure false := by rfl)
    (he1 : starEach [.Call (.Name "list" p) [.Call (.Name "range" p2) [e] [] p3] [] p4, .Tuple [] k3 p5] X.env = (false, eval (.Call (.Name "list" p) [.Call (.Name "range" p2) [e] [] p3] [] p4) X.env) :: starEach [.Tuple [] k3 p5] X.env := by rfl) (he2 : starEach [.Tuple [] k3 p5] X.env = (false, eval (.Tuple [] k3 p5) X.env) :: starEach [] X.env := by rfl) :
    HS X m st (.Assign [.Tuple [.Name x px, .Name y py] kt pt] (.Tuple [.Call (.Name "list" p) [.Call (.Name "range" p2) [e] [] p3] [] p4, .Tuple [] k3 p5] k2 pt2) pos :: rest) E :=
  hs_cons fun Bf B0 H0 σ H o => by
    obtain ⟨B, sm, f, l, g, n0, up⟩ := o.nx
    refine WS.of (ps_par hc nd hi hj hij hx hy (pa_cons (pe_listRg hc hg hm (prg_1 hg2 hm2 peW na) na2) (pa_cons (pe_tup pa_nil) pa_nil he2) he1) hw hs) (he.any sm l fun v B1 H1 n1 d1 => ⟨n, d1.int_inv, RgOk.of_le (Int.le_refl 0) (by omega) (by decide) (by omega), fun k hk => ?_⟩)
    have er : rgV 0 (n : Int) = (plainO n).map V.int := by
      unfold rgV plainO
      rw [List.map_map, show ((n : Int) - 0).toNat = n by omega]
      refine List.map_congr_left fun i _ => ?_
      show V.int (0 + (i : Int)) = V.int (i : Int)
      rw [Int.zero_add]
    rw [er]
    obtain ⟨q1, q2, q3, n2, g2, ok⟩ := own_new n1.i (n0.trans n1.any) (g.nx n1) hk (DqAll.ints (plainO n))
    refine ⟨Nat.zero_le _, fun t ht => ⟨_, _, rfl, _, h, ?_⟩⟩
    have n3 := Nx.new (o := .tup []) n2.i ht
    exact ⟨_, (f.trans n1.b).trans n3.b, n2.trans n3.any, g2.nx n3, (((((l.nx n1.any).fresh hk).set i ok).nx n3.any).set j (s := .d (oD [])) (.tup (SqT.of upd_same) .nil))⟩
/-- y = y + (x.pop(e),) of the own list x, e from the bag -/
theorem hs_popTake (i j : Nat) {x y : Str} {py1 py2 px : Pos} {kt} {xs ys : List Int} (nd : X.N.Nodup) (he : EB X b st e (IntIn fun r => 0 ≤ r ∧ r < (xs.length : Int))) (hz : ys.length + 1 ≤ 100000) (hz2 : xs.length ≤ 1000)
    (h : ∀ r : Nat, r < xs.length → HS X (some b) ((st.set i (some (.own ((xs.eraseIdx r).map .int)))).set j (some (.d (oD (ys ++ [xs.getD r 0]))))) rest E) (hi : st[i]? = some (some (.own (xs.map .int))) := by rfl) (hj : st[j]? = some (some (.d (oD ys))) := by rfl) (hno : noOwn (st.set i none) = true := by rfl)
    (hN : X.N[i]? = some x := by rfl) (hNj : X.N[j]? = some y := by rfl) (hv : Vis X.env.scope x := by first | exact Or.inl rfl | exact Or.inr (Or.inl rfl) | exact Or.inr (Or.inr rfl)) (hvy : Vis X.env.scope y := by first | exact Or.inl rfl | exact Or.inr (Or.inl rfl) | exact Or.inr (Or.inr rfl))
    (hd : (x == ("__debug__" : Str)) = false := by decide) (hcd : (x == ("__classdict__" : Str)) = false := by decide) (hdy : (y == ("__debug__" : Str)) = false := by decide) (hcdy : (y == ("__classdict__" : Str)) = false := by decide)
    (hxl : Loc X.env.scope y := by first | exact Or.inl rfl | exact Or.inr rfl) (hs : swapsWith (.BinOp (.Name y py2) .Add (.Tuple [.Call (.Attribute (.Name x px) "pop" p2) [e] [] p3] kt p4) p5) (some (.Name y py1)) pos.line X.env = pure false := by rfl)
    (hf : X.fn y = true ∨ X.env.scope.names.lookup y = some .local := by first | exact .inl rfl | exact .inr rfl)
    (hbase : attributeBase (.Name x px) "pop" X.env (eval (.Name x px) X.env) = eval (.Name x px) X.env := by rfl)
    (hfew : ((backTo p3 (starEach [e] X.env)).all (fun x => !x.1) && (backToKw p3 (keywordEach [] X.env)).all (fun x => x.1.isSome)
      && decide (([e] : List Expr).length + ([] : List Keyword).length + (if ([] : List Keyword).isEmpty then 0 else 1) < 30)) = true := by rfl)
    (hline : (p2.endLine == p3.line) = true := by rfl) (hs1 : starEach [e] X.env = (false, eval e X.env) :: starEach [] X.env := by rfl) (hs2 : starEach [.Call (.Attribute (.Name x px) "pop" p2) [e] [] p3] X.env = (false, eval (.Call (.Attribute (.Name x px) "pop" p2) [e] [] p3) X.env) :: starEach [] X.env := by rfl) :
    HS X (some b) st (.Assign [.Name y py1] (.BinOp (.Name y py2) .Add (.Tuple [.Call (.Attribute (.Name x px) "pop" p2) [e] [] p3] kt p4) p5) pos :: rest) E :=
  hs_cons fun Bf B0 H0 σ H o => by
    obtain ⟨B, sm, f, l, g, n0, up⟩ := o.nx
    obtain ⟨v, hv1, k, vs, rfl, q1, q2, q3, q4, q5⟩ := l.2 i _ hi
    obtain ⟨vy, hy1, hy2⟩ := l.2 j _ hj
    have hvs : vs = xs.map V.int := q5.ints_inv
    subst hvs
    refine WS.of (ps_set nd hNj hxl (pe_op op_catA (pe_var hNj hvy hdy hcdy) (pe_tup (pa_cons (pe_bm PySem.F.plainAttrs_list PySem.F.slot_list_pop PySem.F.type_list_pop (show MtR X _ rPopAt from mt_popAt) (pe_var hN hv hd hcd) (pa_cons peW pa_nil hs1) hbase hfew hline hs1 (by rfl)) pa_nil hs2))) hs hf) ?_
    refine ⟨_, hy1, _, hv1, .inl ⟨rfl, _, SqL.of q4⟩, he H0 B H σ sm g l _ fun d w B1 H1 hz1 n1 g1 d1 => ?_⟩
    obtain ⟨r0, ⟨r1, r2⟩, rfl⟩ := hz1
    obtain ⟨r, rfl⟩ : ∃ r : Nat, r0 = (r : Int) := ⟨r0.toNat, by omega⟩
    have hr : r < xs.length := by omega
    rw [d1.int_inv]
    have k1 : H1 k = some (.lst (xs.map V.int)) := n1.h _ _ q4 q1
    have b1 : B1 k = none := (n1.n k (by rw [q4]; exact fun z => nomatch z)).trans q3
    have hx : (xs.map V.int)[r]? = some (.int (xs.getD r 0)) := by
      rw [List.getElem?_map, List.getElem?_eq_getElem hr, List.getD_eq_getElem?_getD, List.getElem?_eq_getElem hr]
      rfl
    refine ⟨k, _, _, r, _, rfl, rfl, k1, by omega, ?_, ?_, hx, ?_⟩
    · omega
    · exact seqIndex_of (by omega) (by rw [List.length_map]; omega)
    have ee : (xs.map V.int).eraseIdx r = (xs.eraseIdx r).map V.int := erase_map _ xs r
    rw [ee]
    have n2 : Nx (some b) B0 H0 B1 (upd H1 k (.lst ((xs.eraseIdx r).map V.int))) := (n0.trans n1).put (.inl q2) b1
    have l2 := (l.nx n1).own_put hi hno hv1 q1 q2 b1 (DqAll.ints (xs.eraseIdx r))
    refine ⟨by show 1 ≤ _; decide, fun t ht => ?_⟩
    have n3 := Nx.new (o := .tup [V.int (xs.getD r 0)]) n2.i ht
    refine rd_catT (xs := ys.map .int) (ys := [.int (xs.getD r 0)]) (by rw [List.length_map]; exact hz) _ _ _ _ n3.i (Dq.up (n1.b.trans n3.b) hy2) (.tup (SqT.of upd_same) (.cons (.int _) .nil)) _ fun u B4 H4 n4 d4 => ?_
    refine ⟨_, h r hr, B4, (f.trans n1.b).trans (n3.b.trans n4.b), (n2.trans n3.any).trans n4.any, ((g1.put q1).nx n3).nx n4, Sl.set (s := .d _) ((l2.nx n3.any).nx n4.any) j ?_⟩
    show Dq X.K B4 u (oD (ys ++ [xs.getD r 0]))
    unfold oD
    rw [List.map_append]
    exact d4
end
section
variable {P : Program} {w : World} {K : PySem.W.Frag} {mg : Str → Option Value} {base : Heap}
abbrev AnOrd (n : Nat) (d : D) : Prop := ∃ o : List Int, IsOrd o ∧ o.length = n ∧ d = oD o
abbrev G_order (ds : List D) (φ : D → Prop) : Prop := ∃ n : Nat, 1 ≤ n ∧ n ≤ 30 ∧ ds = [.int n] ∧ φ = AnOrd n
theorem ok_l_order (T : Fr mg) (c1 : ClB P w K mg base 1 "_law_take" ["_law_bag_here", "_law_many"] G_take) (F : Df K mg "_law_order" s_l_order ["_law_bag_here", "_law_many"]) : ClB P w K mg base 2 "_law_order" ["_law_bag_here", "_law_many"] G_order := by
  refine F.okB sc_l_order (fun ds φ h => ?_) (fun f cdv A outer s H E ds φ b hr h => ?_)
  · obtain ⟨n, _, _, rfl, rfl⟩ := h
    rfl
  · obtain ⟨n, h1, h2, rfl, rfl⟩ := h
    have nd := sc_l_order.nd
    refine hs_parRg 2 3 T.list T.range nd (ed_var 1) (by omega) ?_
    refine hs_while (fun k st' => ∃ xs ys : List Int, xs.length = k ∧ (xs ++ ys).Perm (plainO n) ∧ st' = [some (.v (.ref b)), some (.d (.int n)), some (.own (xs.map .int)), some (.d (oD ys))]) n ⟨plainO n, [], plainO_len n, by rw [List.append_nil], rfl⟩ (fun k st' hst => ?_)
    obtain ⟨xs, ys, hk, hp, rfl⟩ := hst
    have hpl := hp.length_eq
    rw [List.length_append, plainO_len] at hpl
    refine ⟨_, et_ownNe 2 (hu64 hr), fun z => ?_, fun z => ?_⟩
    · have hpos : 0 < xs.length := by
        cases xs with
        | nil => cases z
        | cons _ _ => exact Nat.succ_pos _
      refine hs_popTake 2 3 (xs := xs) (ys := ys) nd (eb_clB (ψ := IntIn fun r => 0 ≤ r ∧ r < (xs.length : Int)) 0 c1 hr (ebs_1 (eb_of (ed_lenOwn 2 T.len))) (fun ds h => ?_)) (by omega) (by omega) (fun r hr => ?_)
      · obtain ⟨d, rfl, rfl⟩ := h
        exact ⟨_, ⟨_, by rw [List.length_map]; omega, rfl, rfl⟩, fun d h => by rwa [List.length_map] at h⟩
      · refine hs_nil ⟨k - 1, by omega, xs.eraseIdx r, ys ++ [xs.getD r 0], by rw [List.length_eraseIdx_of_lt hr, hk], (erase_perm hr).trans hp, rfl⟩
    · have e : xs = [] := by
        cases xs with
        | nil => rfl
        | cons _ _ => cases z
      subst e
      refine hs_ret (ed_var 3) ⟨ys, (plainO_ord h1 h2).perm hp, by simpa using hpl, rfl⟩
abbrev G_near (ds : List D) (φ : D → Prop) : Prop := ∃ (o : List Int) (k : Int), IsOrd o ∧ 0 ≤ k ∧ k ≤ 1000 ∧ ds = [oD o, .int k] ∧ φ = AnOrd o.length
theorem ok_l_near (T : Fr mg) (c1 : ClB P w K mg base 1 "_law_take" ["_law_bag_here", "_law_many"] G_take) (c2 : Cl P w K mg base 1 "_law_swap" ["_law_order_here", "_law_place"] G_swap) (F : Df K mg "_law_near" s_l_near ["_law_bag_here", "_law_order_here", "_law_steps"]) :
    ClB P w K mg base 2 "_law_near" ["_law_bag_here", "_law_order_here", "_law_steps"] G_near := by
  refine F.okB sc_l_near (fun ds φ h => ?_) (fun f cdv A outer s H E ds φ b hr h => ?_)
  · obtain ⟨o, k, _, _, _, rfl, rfl⟩ := h
    rfl
  · obtain ⟨o0, k, h0, hk0, hk1, rfl, rfl⟩ := h
    have nd := sc_l_near.nd
    have hl := h0.l2
    refine hs_for (xs := upD 0 ((if decide (1 < o0.length) = true then k else 0 : Int)).toNat) (fun i st' => ∃ o : List Int, IsOrd o ∧ o.length = o0.length ∧ st' = [some (.v (.ref b)), some (.d (oD o)), some (.d (.int k)), none]) (pg_name (i := 3) nd rfl (.inl rfl)) (ei_range1 T.range (ed_if (k := decide (1 < o0.length)) (ET.is (et_gtI (ed_lenO T.len (ed_var 1)) ed_int) ?_) (fun z => ?_) (fun z => ?_)) ?_) ⟨o0, h0, rfl, rfl⟩ (fun i d st' hd hst => ?_) (fun st' hst => ?_)
    · by_cases q : 1 < o0.length
      · rw [decide_eq_true q, decide_eq_true (by omega)]
      · rw [decide_eq_false q, decide_eq_false (by omega)]
    · rw [if_pos z]
      exact ed_var 2
    · rw [if_neg (by rw [z]; exact Bool.false_ne_true)]
      exact ed_int
    · split <;> omega
    · obtain ⟨hi, _⟩ := upD_at hd
      obtain ⟨o, ho, hlen, rfl⟩ := hst
      have big : 1 < o.length := by
        by_cases q : 1 < o0.length
        · omega
        · rw [if_neg (by rw [decide_eq_false q]; exact Bool.false_ne_true)] at hi
          exact absurd hi (Nat.not_lt_zero _)
      refine ⟨_, gt_name 3, ?_⟩
      refine hs_setB 1 (φ := AnOrd o0.length) nd (eb_cl c2 hr (ebs_cons (eb_of (ed_var 1)) (ebs_1 (eb_clB (ψ := IntIn fun r => 0 ≤ r ∧ r < (o.length : Int) - 1) 0 c1 hr (ebs_1 (eb_of (ed_subI (ed_lenO T.len (ed_var 1)) ed_int))) (fun ds h => ?_)))) (fun ds h => ?_)) (fun d hd => ?_)
      · obtain ⟨d, rfl, rfl⟩ := h
        exact ⟨_, ⟨_, by omega, rfl, rfl⟩, fun d h => h⟩
      · obtain ⟨d, r, rfl, ⟨d2, ⟨j, ⟨j1, j2⟩, rfl⟩, rfl⟩, rfl⟩ := h
        obtain ⟨p, rfl⟩ : ∃ p : Nat, j = (p : Int) := ⟨j.toNat, by omega⟩
        have hp : p + 1 < o.length := by omega
        exact ⟨_, ⟨o, p, hp, by omega, rfl, rfl⟩, _, ho.perm (swapO_perm hp), by rw [(swapO_perm hp).length_eq, hlen], rfl⟩
      · obtain ⟨o2, ho2, hl2, rfl⟩ := hd
        exact hs_end (st1 := [some (.v (.ref b)), some (.d (oD o2)), some (.d (.int k)), none]) ⟨o2, ho2, hl2, rfl⟩ (.so (.so (.so (.no .nil))))
    · obtain ⟨o, ho, hlen, rfl⟩ := hst
      exact hs_ret (ed_var 1) ⟨o, ho, hlen, rfl⟩
end
end K45
set_option maxHeartbeats 4000000
namespace K45
open PySem PySem.Spec PyProof.Rows L2
/-- what is to be true of a great order -/
structure GreatOk (o : List Int) : Prop where
  ord : IsOrd o
  len : o.length ≤ 10
  rough : smoothB o = !lawRough o
  ord2 : IsOrd (oppO o)
  opp : smoothB (oppO o) = smoothB o
  bes : ∀ u, IsOrd u → u.length ≤ 4 → IsOrd (besO o u) ∧ smoothB (besO o u) = (smoothB o && smoothB u)
theorem besO_len (o u : List Int) : (besO o u).length = o.length + u.length := by
  unfold besO
  rw [List.length_append, List.length_map]
theorem oppO_len (o : List Int) : (oppO o).length = o.length := by
  unfold oppO
  rw [List.length_map, List.length_range]
def badL : List D := [.none, .tuple [], .list [.int 0], .tuple [.int 1], .tuple [.int 0, .int 0], .tuple [.int 0, .int 2], .tuple [.bool true, .int 0], .tuple [.str "0"], .int 5, .tuple [.int 0, .none], .tuple [.int (-1), .int 0], .tuple [.int 0, .tuple [.int 1]], .tuple (upD 0 31)]
section
variable {P : Program} {w : World} {K : PySem.W.Frag} {mg : Str → Option Value} {base : Heap}
abbrev G_great (ds : List D) (φ : D → Prop) : Prop := ∃ o : List Int, GreatOk o ∧ ds = [oD o] ∧ φ = (· = .bool true)
theorem ok_l_great_right (T : Fr mg) (c1 : ClB P w K mg base 1 "_law_take" ["_law_bag_here", "_law_many"] G_take) (c2 : ClB P w K mg base 2 "_law_order" ["_law_bag_here", "_law_many"] G_order) (c5 : Cl P w K mg base 4 "is_smooth" ["order"] G_smooth) (c6 : Cl P w K mg base 1 "_law_truly" ["_law_found", "_law_due"] G_truly)
    (c7 : Cl P w K mg base 1 "_law_is_rough" ["_law_order_here"] G_lrough) (c8 : Cl P w K mg base 4 "opposite" ["order"] G_opp) (c9 : Cl P w K mg base 4 "side_by_side" ["one", "other"] G_side) (F : Df K mg "_law_great_right" s_l_great_right ["_law_bag_here", "_law_order_here"]) :
    ClB P w K mg base 5 "_law_great_right" ["_law_bag_here", "_law_order_here"] G_great := by
  refine F.okB sc_l_great_right (fun ds φ h => ?_) (fun f cdv A outer s H E ds φ b hr h => ?_)
  · obtain ⟨o, _, rfl, rfl⟩ := h
    rfl
  · obtain ⟨o, S, rfl, rfl⟩ := h
    have nd := sc_l_great_right.nd
    have hl := S.len
    refine hs_set 2 (d := .bool (smoothB o)) nd (ed_cl c5 hr (eds_1 (ed_var 1)) ⟨o, S.ord, by omega, rfl, rfl⟩) ?_
    refine hs_when (k := false) (et_w (ew_or (k := false) (k' := false) (ET.is (et_not (et_of (ed_cl c6 hr (eds_cons (ed_var 2) (eds_1 (ed_not (ed_cl c7 hr (eds_1 (ed_var 1)) ⟨o, by omega, rfl, rfl⟩)))) ⟨_, _, rfl, rfl⟩))) ?_) fun _ => ew_or1 (ET.is (et_neB (ed_cl c5 hr (eds_1 (ed_cl c8 hr (eds_1 (ed_var 1)) ⟨o, S.ord, rfl, rfl⟩)) ⟨oppO o, S.ord2, by rw [oppO_len]; omega, rfl, rfl⟩) (ed_var 2)) ?_))) (fun z => by cases z) (fun _ => ?_)
    · rw [S.rough]
      cases lawRough o <;> rfl
    · rw [S.opp]
      cases smoothB o <;> rfl
    refine hs_setB 3 (φ := fun d => ∃ u, IsOrd u ∧ u.length ≤ 4 ∧ d = oD u) nd (eb_clB 0 c2 hr (ebs_1 (eb_addC ed_int (eb_clB (ψ := IntIn fun r => 0 ≤ r ∧ r < 4) 0 c1 hr (ebs_1 (eb_of ed_int)) (fun ds h => ?_)))) (fun ds h => ?_)) (fun d hd => ?_)
    · obtain ⟨d, rfl, rfl⟩ := h
      exact ⟨_, ⟨4, by decide, rfl, rfl⟩, fun d h => h⟩
    · obtain ⟨d, ⟨j, ⟨i, ⟨i1, i2⟩, rfl⟩, rfl⟩, rfl⟩ := h
      refine ⟨_, ⟨(1 + i).toNat, by omega, by omega, by rw [Int.toNat_of_nonneg (by omega)], rfl⟩, fun d h => ?_⟩
      obtain ⟨u, h1, h2, h3⟩ := h
      exact ⟨u, h1, by omega, h3⟩
    · obtain ⟨u, hu, hul, rfl⟩ := hd
      obtain ⟨hb, hbs⟩ := S.bes u hu hul
      refine hs_ret (ed_eqB (ed_cl c5 hr (eds_1 (ed_cl c9 hr (eds_cons (ed_var 1) (eds_1 (ed_var 3))) ⟨o, u, S.ord, hu, by omega, rfl, rfl⟩)) ⟨besO o u, hb, by rw [besO_len]; omega, rfl, rfl⟩) (ed_and (k := smoothB o) (k' := smoothB u) (ed_var 2) fun _ => ed_one (ed_cl c5 hr (eds_1 (ed_var 3)) ⟨u, hu, by omega, rfl, rfl⟩))) ?_
      show _ = _
      rw [hbs]
      cases smoothB o <;> cases smoothB u <;> rfl
end
end K45
set_option maxHeartbeats 400000
namespace K45
open PySem PySem.Spec PyProof.Rows L2
section
variable {X : Cx} {st : Sto} {e1 e2 : Expr} {pos : Pos} {a c : D}
theorem ed_t1 {k} (h : ED X st e1 a) (he : starEach [e1] X.env = (false, eval e1 X.env) :: starEach [] X.env := by rfl) : ED X st (.Tuple [e1] k pos) (.tuple [a]) := ed_tup (eds_1 h he) (show 1 ≤ 100000 by decide)
theorem ed_t2 {k} (h1 : ED X st e1 a) (h2 : ED X st e2 c) (he : starEach [e1, e2] X.env = (false, eval e1 X.env) :: starEach [e2] X.env := by rfl) (he2 : starEach [e2] X.env = (false, eval e2 X.env) :: starEach [] X.env := by rfl) : ED X st (.Tuple [e1, e2] k pos) (.tuple [a, c]) := ed_tup (eds_cons h1 (eds_1 h2 he2) he) (show 2 ≤ 100000 by decide)
theorem eds_C {es ds v k p} (h : ED X st (.Constant v k p) a) (hs : EDs X st es ds) : EDs X st (.Constant v k p :: es) (a :: ds) := eds_cons h hs
theorem eds_T {es ds v k p} (h : ED X st (.Tuple v k p) a) (hs : EDs X st es ds) : EDs X st (.Tuple v k p :: es) (a :: ds) := eds_cons h hs
theorem eds_L {es ds v p} (h : ED X st (.List v p) a) (hs : EDs X st es ds) : EDs X st (.List v p :: es) (a :: ds) := eds_cons h hs
theorem ed_t0 {k} : ED X st (.Tuple [] k pos) (.tuple []) := ed_tup eds_nil (show 0 ≤ 100000 by decide)
end
def bad12 : List D := [.none, .tuple [], .list [.int 0], .tuple [.int 1], .tuple [.int 0, .int 0], .tuple [.int 0, .int 2], .tuple [.bool true, .int 0], .tuple [.str "0"], .int 5, .tuple [.int 0, .none], .tuple [.int (-1), .int 0], .tuple [.int 0, .tuple [.int 1]]]
theorem bad12_len : bad12.length ≤ 100000 := by
  rw [show bad12.length = 12 from rfl]
  decide
theorem bad13_len : bad12.length + ([.tuple (upD 0 31)] : List D).length ≤ 100000 := by
  rw [show bad12.length = 12 from rfl, show ([.tuple (upD 0 31)] : List D).length = 1 from rfl]
  decide
theorem badL_eq : bad12 ++ [.tuple (upD 0 31)] = badL := rfl
section
variable {P : Program} {w : World} {K : PySem.W.Frag} {mg : Str → Option Value} {base : Heap}
abbrev G_bad (ds : List D) (d : D) : Prop := ds = [] ∧ d = .list badL
theorem ok_l_bad_orders (T : Fr mg) (F : Df K mg "_law_bad_orders" s_l_bad_orders []) : Cl P w K mg base 1 "_law_bad_orders" [] G_bad := by
  refine F.ok sc_l_bad_orders (fun ds d h => ?_) (fun f cdv A outer s H E ds d hr h => ?_)
  · obtain ⟨rfl, rfl⟩ := h
    rfl
  · obtain ⟨rfl, rfl⟩ := h
    have nd := sc_l_bad_orders.nd
    have go : ∀ (es : List Expr) (p1 p2 p3 : Pos) (r : List Stmt), EDs (cx P w K mg base N_l_bad_orders "_law_bad_orders" s_l_bad_orders f cdv A outer s H E) [none] es bad12 →
        HS (cx P w K mg base N_l_bad_orders "_law_bad_orders" s_l_bad_orders f cdv A outer s H E) none [some (.d (.list bad12))] r { nx := fun _ => PyData.list badL = .none, rt := fun d' => d' = PyData.list badL } →
        HS (cx P w K mg base N_l_bad_orders "_law_bad_orders" s_l_bad_orders f cdv A outer s H E) none [none] (.Assign [.Name "_law_some" p1] (.List es p2) p3 :: r) { nx := fun _ => PyData.list badL = .none, rt := fun d' => d' = PyData.list badL } := fun es p1 p2 p3 r h1 h2 =>
      hs_set 0 (d := .list bad12) nd (ed_lst (ds := bad12) h1 bad12_len) h2
    refine go _ _ _ _ _ ?_ ?_
    · unfold bad12
      refine eds_C (X := cx P w K mg base N_l_bad_orders "_law_bad_orders" s_l_bad_orders f cdv A outer s H E) ?_ ?_
      · exact ed_non
      refine eds_T (X := cx P w K mg base N_l_bad_orders "_law_bad_orders" s_l_bad_orders f cdv A outer s H E) ?_ ?_
      · exact ed_t0
      refine eds_L (X := cx P w K mg base N_l_bad_orders "_law_bad_orders" s_l_bad_orders f cdv A outer s H E) ?_ ?_
      · exact ed_lst (eds_1 ed_int) (show 1 ≤ 100000 by decide)
      refine eds_T (X := cx P w K mg base N_l_bad_orders "_law_bad_orders" s_l_bad_orders f cdv A outer s H E) ?_ ?_
      · exact ed_t1 ed_int
      refine eds_T (X := cx P w K mg base N_l_bad_orders "_law_bad_orders" s_l_bad_orders f cdv A outer s H E) ?_ ?_
      · exact ed_t2 ed_int ed_int
      refine eds_T (X := cx P w K mg base N_l_bad_orders "_law_bad_orders" s_l_bad_orders f cdv A outer s H E) ?_ ?_
      · exact ed_t2 ed_int ed_int
      refine eds_T (X := cx P w K mg base N_l_bad_orders "_law_bad_orders" s_l_bad_orders f cdv A outer s H E) ?_ ?_
      · exact ed_t2 ed_bl ed_int
      refine eds_T (X := cx P w K mg base N_l_bad_orders "_law_bad_orders" s_l_bad_orders f cdv A outer s H E) ?_ ?_
      · exact ed_t1 ed_str
      refine eds_C (X := cx P w K mg base N_l_bad_orders "_law_bad_orders" s_l_bad_orders f cdv A outer s H E) ?_ ?_
      · exact ed_int
      refine eds_T (X := cx P w K mg base N_l_bad_orders "_law_bad_orders" s_l_bad_orders f cdv A outer s H E) ?_ ?_
      · exact ed_t2 ed_int ed_non
      refine eds_T (X := cx P w K mg base N_l_bad_orders "_law_bad_orders" s_l_bad_orders f cdv A outer s H E) ?_ ?_
      · exact ed_t2 ed_neg1 ed_int
      refine eds_T (X := cx P w K mg base N_l_bad_orders "_law_bad_orders" s_l_bad_orders f cdv A outer s H E) ?_ ?_
      · exact ed_t2 ed_int (ed_t1 ed_int)
      exact eds_nil
    · refine hs_ret (ed_addL (xs := bad12) (ys := [.tuple (upD 0 31)]) bad13_len (ed_var 0) (ed_lst (eds_1 (ed_tupRg (n := 31) T.tuple T.range ed_int (by omega))) (show 1 ≤ 100000 by decide))) ?_
      exact congrArg PyData.list badL_eq
end
end K45
set_option maxHeartbeats 1000000
/-! The plain law of the great orders. -/
namespace K45
/-! ### fours as sublists -/
theorem mem_subs : ∀ (n : Nat) (o : List Int), o.length = n → ∀ s, s ∈ subs o ↔ s.Sublist o ∧ s.length ≤ 4
  | 0, o, h, s => by
    have e := List.eq_nil_of_length_eq_zero h
    subst e
    show s ∈ [[]] ↔ _
    rw [List.mem_singleton]
    constructor
    · rintro rfl
      exact ⟨List.Sublist.refl _, Nat.zero_le _⟩
    · rintro ⟨h, _⟩
      exact List.sublist_nil.mp h
  | n + 1, o, h, s => by
    have hne : o ≠ [] := fun z => by rw [z] at h; cases h
    have e := List.dropLast_concat_getLast hne
    have hl : o.dropLast.length = n := by rw [List.length_dropLast, h]; rfl
    have ih := mem_subs n o.dropLast hl
    rw [← e, subs_snoc]
    unfold subTo
    rw [List.mem_append, ih]
    constructor
    · rintro (⟨h1, h2⟩ | h1)
      · exact ⟨h1.trans (List.sublist_append_left _ _), h2⟩
      · obtain ⟨t, ht, rfl⟩ := List.mem_map.mp h1
        obtain ⟨t1, t2⟩ := List.mem_filter.mp ht
        have t2 := of_decide_eq_true t2
        exact ⟨((ih t).mp t1).1.append (List.Sublist.refl _), by rw [List.length_append]; exact t2⟩
    · rintro ⟨h1, h2⟩
      obtain ⟨s1, s2, rfl, p1, p2⟩ := List.sublist_append_iff.mp h1
      cases p2 with
      | cons _ p3 =>
        rw [List.sublist_nil.mp p3, List.append_nil] at h2 ⊢
        exact .inl ⟨p1, h2⟩
      | cons_cons _ p3 =>
        rw [List.sublist_nil.mp p3] at h2 ⊢
        rw [List.length_append] at h2
        have h2 : s1.length + 1 ≤ 4 := h2
        exact .inr (List.mem_map.mpr ⟨s1, List.mem_filter.mpr ⟨(ih s1).mpr ⟨p1, by omega⟩, decide_eq_true (by omega)⟩, rfl⟩)
def Rgh (o : List Int) : Prop := ∃ a b c d : Nat, a < b ∧ b < c ∧ c < d ∧ d < o.length ∧ roughB (o.getD a 0) (o.getD b 0) (o.getD c 0) (o.getD d 0) = true
theorem getD_fin {o : List Int} (i : Fin o.length) : o[i] = o.getD i.1 0 := by
  rw [List.getD_eq_getElem?_getD, List.getElem?_eq_getElem i.2]
  rfl
theorem four_sub {o : List Int} {a b c d : Nat} (h1 : a < b) (h2 : b < c) (h3 : c < d) (h4 : d < o.length) : (fourAt o a b c d).Sublist o := by
  have h := List.map_getElem_sublist (l := o) (is := [⟨a, by omega⟩, ⟨b, by omega⟩, ⟨c, by omega⟩, ⟨d, h4⟩]) (by
    simp only [List.pairwise_cons, List.mem_cons, List.not_mem_nil, or_false, forall_eq_or_imp, forall_eq, false_imp_iff, implies_true, and_true, List.Pairwise.nil, Fin.mk_lt_mk]
    omega)
  rw [List.map_cons, List.map_cons, List.map_cons, List.map_cons, List.map_nil, getD_fin, getD_fin, getD_fin, getD_fin] at h
  exact h
theorem sub_four {o s : List Int} (h : s.Sublist o) (hs : s.length = 4) : ∃ a b c d : Nat, a < b ∧ b < c ∧ c < d ∧ d < o.length ∧ s = fourAt o a b c d := by
  obtain ⟨is, rfl, hp⟩ := List.sublist_eq_map_getElem h
  rw [List.length_map] at hs
  match is, hs, hp with
  | [i, j, k, l], _, hp =>
    simp only [List.pairwise_cons, List.mem_cons, List.not_mem_nil, or_false, forall_eq_or_imp, forall_eq, false_imp_iff, implies_true, and_true, List.Pairwise.nil] at hp
    obtain ⟨⟨h1, _, _⟩, ⟨h2, _⟩, h3⟩ := hp
    refine ⟨i.1, j.1, k.1, l.1, h1, h2, h3, l.2, ?_⟩
    rw [List.map_cons, List.map_cons, List.map_cons, List.map_cons, List.map_nil, getD_fin, getD_fin, getD_fin, getD_fin]
    rfl
theorem rough_iff (o : List Int) : (foursO o).any roughL = true ↔ Rgh o := by
  rw [List.any_eq_true]
  constructor
  · rintro ⟨s, hs, hr⟩
    obtain ⟨h1, h2⟩ := List.mem_filter.mp hs
    obtain ⟨a, b, c, d, i1, i2, i3, i4, rfl⟩ := sub_four ((mem_subs _ o rfl s).mp h1).1 (of_decide_eq_true h2)
    exact ⟨a, b, c, d, i1, i2, i3, i4, hr⟩
  · rintro ⟨a, b, c, d, i1, i2, i3, i4, hr⟩
    exact ⟨fourAt o a b c d, List.mem_filter.mpr ⟨(mem_subs _ o rfl _).mpr ⟨four_sub i1 i2 i3 i4, Nat.le_refl 4⟩, decide_eq_true rfl⟩, hr⟩
theorem smooth_iff (o : List Int) : smoothB o = true ↔ ¬ Rgh o := by
  rw [← rough_iff]
  unfold smoothB
  cases (foursO o).any roughL <;> simp
theorem lr_iff (o : List Int) : lawRough o = true ↔ ∃ a b c d : Nat, a < b ∧ b < c ∧ c < d ∧ d < o.length ∧ patB (fourAt o a b c d) = true := by
  constructor
  · intro h
    obtain ⟨a, ha, h⟩ := List.any_eq_true.mp h
    obtain ⟨b, hb, h⟩ := List.any_eq_true.mp h
    obtain ⟨c, hc, h⟩ := List.any_eq_true.mp h
    obtain ⟨d, hd, h⟩ := List.any_eq_true.mp h
    have hb := List.mem_range.mp hb
    have hc := List.mem_range.mp hc
    have hd := List.mem_range.mp hd
    exact ⟨_, _, _, _, by omega, by omega, by omega, by omega, h⟩
  · rintro ⟨a, b, c, d, h1, h2, h3, h4, h⟩
    refine any_yes (s := a) (by omega) ?_
    show lr2 o (0 + a) = true
    rw [Nat.zero_add]
    refine any_yes (s := b - (a + 1)) (by omega) ?_
    show lr3 o a (a + 1 + (b - (a + 1))) = true
    rw [show a + 1 + (b - (a + 1)) = b by omega]
    refine any_yes (s := c - (b + 1)) (by omega) ?_
    show lr4 o a b (b + 1 + (c - (b + 1))) = true
    rw [show b + 1 + (c - (b + 1)) = c by omega]
    refine any_yes (s := d - (c + 1)) (by omega) ?_
    show patB (fourAt o a b c (c + 1 + (d - (c + 1)))) = true
    rw [show c + 1 + (d - (c + 1)) = d by omega]
    exact h
/-! ### the pattern by ranks -/
theorem idx_get {s : List Int} {t : Int} {k : Nat} (ht : t ∈ s) (h : (s.idxOf t : Int) = (k : Int)) : s.getD k 0 = t := by
  have e : s.idxOf t = k := by omega
  have hl : s.idxOf t < s.length := List.idxOf_lt_length_iff.mpr ht
  rw [← e, List.getD_eq_getElem?_getD, List.getElem?_eq_getElem hl]
  exact List.getElem_idxOf hl
theorem patB_iff {w x y z : Int} (nd : ([w, x, y, z] : List Int).Nodup) : patB [w, x, y, z] = roughB w x y z := by
  have hp := isI_perm [w, x, y, z]
  have hs := isI_sorted [w, x, y, z]
  have mem : ∀ t ∈ [w, x, y, z], t ∈ isI [w, x, y, z] := fun t ht => hp.mem_iff.mpr ht
  have hw := mem w (by simp)
  have hx := mem x (by simp)
  have hy := mem y (by simp)
  have hz := mem z (by simp)
  have hne : w ≠ x ∧ w ≠ y ∧ w ≠ z ∧ x ≠ y ∧ x ≠ z ∧ y ≠ z := by
    simp only [List.nodup_cons, List.mem_cons, List.not_mem_nil, or_false, not_or] at nd
    exact ⟨nd.1.1, nd.1.2.1, nd.1.2.2, nd.2.1.1, nd.2.1.2, nd.2.2.1⟩
  obtain ⟨n1, n2, n3, n4, n5, n6⟩ := hne
  have key : patB [w, x, y, z] = true ↔ roughB w x y z = true := by
    constructor
    · intro h
      unfold patB at h
      have hl := hp.length_eq
      generalize hS : isI [w, x, y, z] = S at *
      match S, hl, hs with
      | [s0, s1, s2, s3], _, hs =>
        simp only [List.pairwise_cons, List.mem_cons, List.not_mem_nil, or_false, forall_eq_or_imp, forall_eq, false_imp_iff, implies_true, and_true, List.Pairwise.nil] at hs
        obtain ⟨⟨o1, o2, o3⟩, ⟨o4, o5⟩, o6⟩ := hs
        rw [Bool.or_eq_true] at h
        unfold roughB
        simp only [Bool.or_eq_true, Bool.and_eq_true, decide_eq_true_eq]
        rcases h with h | h
        · have h := of_decide_eq_true h
          unfold rankL at h
          rw [hS] at h
          simp only [List.map_cons, List.map_nil, List.cons.injEq] at h
          obtain ⟨e1, e2, e3, e4, _⟩ := h
          have g1 : s2 = w := idx_get (k := 2) hw e1.symm
          have g2 : s3 = x := idx_get (k := 3) hx e2.symm
          have g3 : s0 = y := idx_get (k := 0) hy e3.symm
          have g4 : s1 = z := idx_get (k := 1) hz e4.symm
          left
          omega
        · have h := of_decide_eq_true h
          unfold rankL at h
          rw [hS] at h
          simp only [List.map_cons, List.map_nil, List.cons.injEq] at h
          obtain ⟨e1, e2, e3, e4, _⟩ := h
          have g1 : s3 = w := idx_get (k := 3) hw e1.symm
          have g2 : s1 = x := idx_get (k := 1) hx e2.symm
          have g3 : s2 = y := idx_get (k := 2) hy e3.symm
          have g4 : s0 = z := idx_get (k := 0) hz e4.symm
          right
          omega
    · intro h
      unfold roughB at h
      simp only [Bool.or_eq_true, Bool.and_eq_true, decide_eq_true_eq] at h
      unfold patB rankL
      rw [Bool.or_eq_true]
      rcases h with ⟨h1, h2, h3⟩ | ⟨h1, h2, h3⟩
      · left
        have e0 : ([y, z, w, x] : List Int).Pairwise (· ≤ ·) := by
          simp only [List.pairwise_cons, List.mem_cons, List.not_mem_nil, or_false, forall_eq_or_imp, forall_eq, false_imp_iff, implies_true, and_true, List.Pairwise.nil]
          omega
        have e : isI [w, x, y, z] = [y, z, w, x] := (isI_one (List.perm_append_comm (l₁ := [y, z]) (l₂ := [w, x])) e0).symm
        rw [e]
        have b1 : (y == w) = false := by simpa using n2.symm
        have b2 : (z == w) = false := by simpa using n3.symm
        have b3 : (y == x) = false := by simpa using n4.symm
        have b4 : (z == x) = false := by simpa using n5.symm
        have b5 : (w == x) = false := by simpa using n1
        have b6 : (y == z) = false := by simpa using n6
        simp [List.idxOf_cons, b1, b2, b3, b4, b5, b6]
      · right
        have e0 : ([z, x, y, w] : List Int).Pairwise (· ≤ ·) := by
          simp only [List.pairwise_cons, List.mem_cons, List.not_mem_nil, or_false, forall_eq_or_imp, forall_eq, false_imp_iff, implies_true, and_true, List.Pairwise.nil]
          omega
        have e : isI [w, x, y, z] = [z, x, y, w] := (isI_one (((List.perm_append_comm (l₁ := [x, y]) (l₂ := [w])).cons z).trans (List.perm_append_comm (l₁ := [z]) (l₂ := [w, x, y]))) e0).symm
        rw [e]
        have b1 : (z == w) = false := by simpa using n3.symm
        have b2 : (x == w) = false := by simpa using n1.symm
        have b3 : (y == w) = false := by simpa using n2.symm
        have b4 : (z == x) = false := by simpa using n5.symm
        have b5 : (z == y) = false := by simpa using n6.symm
        have b6 : (x == y) = false := by simpa using n4
        simp [List.idxOf_cons, b1, b2, b3, b4, b5, b6]
  cases h1 : patB [w, x, y, z] <;> cases h2 : roughB w x y z
  · rfl
  · rw [h1, h2] at key; exact absurd (key.mpr rfl) Bool.false_ne_true
  · rw [h1, h2] at key; exact absurd (key.mp rfl) Bool.false_ne_true
  · rfl
theorem lawRough_iff {o : List Int} (nd : o.Nodup) : lawRough o = true ↔ Rgh o := by
  rw [lr_iff]
  have q : ∀ {a b c d : Nat}, a < b → b < c → c < d → d < o.length → patB (fourAt o a b c d) = roughB (o.getD a 0) (o.getD b 0) (o.getD c 0) (o.getD d 0) := fun h1 h2 h3 h4 => patB_iff (nd.sublist (four_sub h1 h2 h3 h4))
  constructor
  · rintro ⟨a, b, c, d, h1, h2, h3, h4, h⟩
    exact ⟨a, b, c, d, h1, h2, h3, h4, (q h1 h2 h3 h4).symm.trans h⟩
  · rintro ⟨a, b, c, d, h1, h2, h3, h4, h⟩
    exact ⟨a, b, c, d, h1, h2, h3, h4, (q h1 h2 h3 h4).trans h⟩
theorem smooth_law {o : List Int} (nd : o.Nodup) : smoothB o = !lawRough o := by
  have h1 := smooth_iff o
  rw [← lawRough_iff nd] at h1
  cases h2 : smoothB o <;> cases h3 : lawRough o
  · rw [h2, h3] at h1; exact absurd (h1.mpr Bool.false_ne_true) Bool.false_ne_true
  · rfl
  · rfl
  · rw [h2, h3] at h1; exact absurd rfl (h1.mp rfl)
end K45
set_option maxHeartbeats 1000000
/-! The plain law: opposite orders, orders side by side, last orders. -/
namespace K45
/-- the order's value at a place, the place of a value -/
theorem opp_at {o : List Int} {t : Nat} (ht : t < o.length) : (oppO o).getD t 0 = (o.idxOf (t : Int) : Nat) := by
  unfold oppO
  rw [List.getD_eq_getElem?_getD, List.getElem?_map, List.getElem?_range ht]
  rfl
theorem IsOrd.at_idx {o : List Int} (h : IsOrd o) {t : Nat} (ht : t < o.length) : o.idxOf (t : Int) < o.length ∧ o.getD (o.idxOf (t : Int)) 0 = t := by
  have hl : o.idxOf (t : Int) < o.length := List.idxOf_lt_length_iff.mpr (h.has ht)
  refine ⟨hl, ?_⟩
  rw [List.getD_eq_getElem?_getD, List.getElem?_eq_getElem hl]
  exact List.getElem_idxOf hl
theorem IsOrd.idx_at {o : List Int} (h : IsOrd o) {i : Nat} (hi : i < o.length) : o.idxOf (o.getD i 0) = i := by
  rw [List.getD_eq_getElem?_getD, List.getElem?_eq_getElem hi]
  exact h.nd.idxOf_getElem i hi
theorem IsOrd.opp {o : List Int} (h : IsOrd o) : IsOrd (oppO o) := by
  refine ⟨by rw [oppO_len]; exact h.l1, by rw [oppO_len]; exact h.l2, fun x hx => ?_, ?_⟩
  · rw [oppO_len]
    obtain ⟨t, ht, rfl⟩ := List.mem_map.mp hx
    have := (h.at_idx (List.mem_range.mp ht)).1
    omega
  · unfold oppO
    refine List.Pairwise.map _ (R := fun a b : Nat => a ≠ b ∧ a < o.length ∧ b < o.length) ?_ ?_
    · rintro a b ⟨hab, ha, hb⟩ e
      have e2 : o.idxOf (a : Int) = o.idxOf (b : Int) := by omega
      have h1 := (h.at_idx ha).2
      have h2 := (h.at_idx hb).2
      rw [e2, h2] at h1
      omega
    · refine List.Pairwise.imp_of_mem ?_ (List.nodup_range (n := o.length))
      intro a b ha hb hab
      exact ⟨hab, List.mem_range.mp ha, List.mem_range.mp hb⟩
theorem IsOrd.val {o : List Int} (h : IsOrd o) {i : Nat} (hi : i < o.length) : ∃ t : Nat, o.getD i 0 = (t : Int) ∧ t < o.length := by
  have := h.rg _ (getD_mem hi)
  exact ⟨(o.getD i 0).toNat, by omega, by omega⟩
theorem roughB_iff (a b c d : Int) : roughB a b c d = true ↔ (c < d ∧ d < a ∧ a < b) ∨ (d < b ∧ b < c ∧ c < a) := by
  unfold roughB
  simp only [Bool.or_eq_true, Bool.and_eq_true, decide_eq_true_eq]
theorem rgh_opp {o : List Int} (h : IsOrd o) : Rgh (oppO o) ↔ Rgh o := by
  have P : ∀ {i : Nat} {v : Nat}, i < o.length → o.getD i 0 = (v : Int) → v < o.length ∧ (oppO o).getD v 0 = (i : Int) := fun {i v} hi e => by
    have hv : v < o.length := by
      obtain ⟨t, ht, hlt⟩ := h.val hi
      omega
    refine ⟨hv, ?_⟩
    rw [opp_at hv, ← e, h.idx_at hi]
  have R : ∀ {v : Nat}, v < o.length → ∃ i : Nat, i < o.length ∧ (oppO o).getD v 0 = (i : Int) ∧ o.getD i 0 = (v : Int) := fun {v} hv => ⟨_, (h.at_idx hv).1, opp_at hv, (h.at_idx hv).2⟩
  constructor
  · rintro ⟨v1, v2, v3, v4, h1, h2, h3, h4, hr⟩
    rw [oppO_len] at h4
    obtain ⟨p1, l1, e1, g1⟩ := R (v := v1) (by omega)
    obtain ⟨p2, l2, e2, g2⟩ := R (v := v2) (by omega)
    obtain ⟨p3, l3, e3, g3⟩ := R (v := v3) (by omega)
    obtain ⟨p4, l4, e4, g4⟩ := R (v := v4) (by omega)
    rw [e1, e2, e3, e4, roughB_iff] at hr
    rcases hr with hr | hr
    · refine ⟨p3, p4, p1, p2, by omega, by omega, by omega, l2, ?_⟩
      rw [g1, g2, g3, g4, roughB_iff]
      left; omega
    · refine ⟨p4, p2, p3, p1, by omega, by omega, by omega, l1, ?_⟩
      rw [g1, g2, g3, g4, roughB_iff]
      right; omega
  · rintro ⟨a, b, c, d, h1, h2, h3, h4, hr⟩
    obtain ⟨va, ea, la⟩ := h.val (i := a) (by omega)
    obtain ⟨vb, eb, lb⟩ := h.val (i := b) (by omega)
    obtain ⟨vc, ec, lc⟩ := h.val (i := c) (by omega)
    obtain ⟨vd, ed, ld⟩ := h.val (i := d) h4
    have ga := (P (by omega) ea).2
    have gb := (P (by omega) eb).2
    have gc := (P (by omega) ec).2
    have gd := (P h4 ed).2
    rw [ea, eb, ec, ed, roughB_iff] at hr
    rcases hr with hr | hr
    · refine ⟨vc, vd, va, vb, by omega, by omega, by omega, by rw [oppO_len]; exact lb, ?_⟩
      rw [ga, gb, gc, gd, roughB_iff]
      left; omega
    · refine ⟨vd, vb, vc, va, by omega, by omega, by omega, by rw [oppO_len]; exact la, ?_⟩
      rw [ga, gb, gc, gd, roughB_iff]
      right; omega
theorem bool_of_iff {a b : Bool} (h : a = true ↔ b = true) : a = b := by
  cases a <;> cases b
  · rfl
  · exact (h.mpr rfl).symm ▸ rfl
  · exact (h.mp rfl).symm
  · rfl
theorem smooth_opp {o : List Int} (h : IsOrd o) : smoothB (oppO o) = smoothB o := bool_of_iff (by rw [smooth_iff, smooth_iff, rgh_opp h])
/-! ### side by side -/
theorem bes_l {o u : List Int} {i : Nat} (h : i < o.length) : (besO o u).getD i 0 = o.getD i 0 := by
  unfold besO
  rw [List.getD_eq_getElem?_getD, List.getD_eq_getElem?_getD, List.getElem?_append_left h]
theorem bes_r {o u : List Int} {i : Nat} (h : i < u.length) : (besO o u).getD (o.length + i) 0 = u.getD i 0 + o.length := by
  unfold besO
  rw [List.getD_eq_getElem?_getD, List.getD_eq_getElem?_getD, List.getElem?_append_right (by omega), Nat.add_sub_cancel_left, List.getElem?_map, List.getElem?_eq_getElem h]
  rfl
theorem IsOrd.bes {o u : List Int} (h : IsOrd o) (g : IsOrd u) (hl : o.length + u.length ≤ 30) : IsOrd (besO o u) := by
  have h1 := h.l1
  refine ⟨by rw [besO_len]; omega, by rw [besO_len]; exact hl, fun x hx => ?_, ?_⟩
  · rw [besO_len]
    rcases List.mem_append.mp hx with hx | hx
    · have := h.rg x hx
      omega
    · obtain ⟨y, hy, rfl⟩ := List.mem_map.mp hx
      have := g.rg y hy
      omega
  · refine List.nodup_append.mpr ⟨h.nd, List.Pairwise.map (fun x => x + (o.length : Int)) (fun a b hab e => hab (by omega)) g.nd, fun x hx y hy e => ?_⟩
    obtain ⟨z, hz, rfl⟩ := List.mem_map.mp hy
    have := h.rg x hx
    have := g.rg z hz
    omega
theorem rgh_bes {o u : List Int} (h : IsOrd o) (g : IsOrd u) : Rgh (besO o u) ↔ Rgh o ∨ Rgh u := by
  constructor
  · rintro ⟨a, b, c, d, h1, h2, h3, h4, hr⟩
    rw [besO_len] at h4
    by_cases hd : d < o.length
    · rw [bes_l (by omega), bes_l (by omega), bes_l (by omega), bes_l hd] at hr
      exact .inl ⟨a, b, c, d, h1, h2, h3, hd, hr⟩
    · by_cases ha : a < o.length
      · exfalso
        obtain ⟨i, rfl⟩ : ∃ i, d = o.length + i := ⟨d - o.length, by omega⟩
        obtain ⟨t, e1, e2⟩ := h.val ha
        have e3 := g.rg _ (getD_mem (o := u) (k := i) (by omega))
        rw [roughB_iff, bes_l ha, bes_r (by omega)] at hr
        omega
      · obtain ⟨i, rfl⟩ : ∃ i, a = o.length + i := ⟨a - o.length, by omega⟩
        obtain ⟨j, rfl⟩ : ∃ j, b = o.length + j := ⟨b - o.length, by omega⟩
        obtain ⟨k, rfl⟩ : ∃ k, c = o.length + k := ⟨c - o.length, by omega⟩
        obtain ⟨l, rfl⟩ : ∃ l, d = o.length + l := ⟨d - o.length, by omega⟩
        rw [bes_r (by omega), bes_r (by omega), bes_r (by omega), bes_r (by omega), roughB_iff] at hr
        refine .inr ⟨i, j, k, l, by omega, by omega, by omega, by omega, ?_⟩
        rw [roughB_iff]
        omega
  · rintro (⟨a, b, c, d, h1, h2, h3, h4, hr⟩ | ⟨a, b, c, d, h1, h2, h3, h4, hr⟩)
    · refine ⟨a, b, c, d, h1, h2, h3, by rw [besO_len]; omega, ?_⟩
      rw [bes_l (by omega), bes_l (by omega), bes_l (by omega), bes_l h4]
      exact hr
    · refine ⟨o.length + a, o.length + b, o.length + c, o.length + d, by omega, by omega, by omega, by rw [besO_len]; omega, ?_⟩
      rw [bes_r (by omega), bes_r (by omega), bes_r (by omega), bes_r h4, roughB_iff]
      rw [roughB_iff] at hr
      omega
theorem smooth_bes {o u : List Int} (h : IsOrd o) (g : IsOrd u) : smoothB (besO o u) = (smoothB o && smoothB u) := bool_of_iff (by
  rw [Bool.and_eq_true, smooth_iff, smooth_iff, smooth_iff, rgh_bes h g, not_or])
theorem great_ok {o : List Int} (h : IsOrd o) (hl : o.length ≤ 10) : GreatOk o := ⟨h, hl, smooth_law h.nd, h.opp, smooth_opp h, fun u hu hul => ⟨h.bes hu (by omega), smooth_bes h hu⟩⟩
/-! ### last orders -/
theorem last_at {n i : Nat} (h : i < n) : (lastO n).getD i 0 = (n : Int) - 1 - i := by
  unfold lastO
  rw [List.getD_eq_getElem?_getD, List.getElem?_map, List.getElem?_range h]
  show (n : Int) - 1 + (i : Int) * (-1) = _
  omega
theorem lastO_len (n : Nat) : (lastO n).length = n := by
  unfold lastO
  rw [List.length_map, List.length_range]
theorem last_ord {n : Nat} (h1 : 1 ≤ n) (h2 : n ≤ 30) : IsOrd (lastO n) := by
  refine ⟨by rw [lastO_len]; exact h1, by rw [lastO_len]; exact h2, fun x hx => ?_, ?_⟩
  · rw [lastO_len]
    obtain ⟨t, ht, rfl⟩ := List.mem_map.mp hx
    have := List.mem_range.mp ht
    omega
  · unfold lastO
    exact List.Pairwise.map _ (fun a b hab e => hab (by omega)) (List.nodup_range (n := n))
theorem last_smooth (n : Nat) : smoothB (lastO n) = true := by
  rw [smooth_iff]
  rintro ⟨a, b, c, d, h1, h2, h3, h4, hr⟩
  rw [lastO_len] at h4
  rw [last_at (by omega), last_at (by omega), last_at (by omega), last_at h4, roughB_iff] at hr
  omega
end K45
set_option maxHeartbeats 1000000
/-! The plain law of the small orders: lines as masks over the list of all orders. -/
namespace K45
def pick {α : Type} : List α → Nat → List α
  | [], _ => []
  | x :: r, m => if m % 2 = 1 then x :: pick r (m / 2) else pick r (m / 2)
def pcL {α : Type} : List α → Nat → Nat
  | [], _ => 0
  | _ :: r, m => m % 2 + pcL r (m / 2)
def nextM : List Nat → Nat → Nat
  | [], _ => 0
  | t :: T, m => (if m % 2 = 1 then t else 0) ||| nextM T (m / 2)
def maskRun (L : List (List Int)) (T : List Nat) : Nat → Nat → List Int → Option (List Int)
  | 0, _, _ => none
  | f + 1, m, found => if pcL L m = 0 then some found else if pcL L m < 63 then maskRun L T f (nextM T m) ((pcL L m : Int) :: found) else none
theorem pick_len {α : Type} : ∀ (L : List α) (m : Nat), (pick L m).length = pcL L m
  | [], _ => rfl
  | x :: r, m => by
    unfold pick pcL
    rcases (by omega : m % 2 = 0 ∨ m % 2 = 1) with h | h
    · rw [if_neg (by omega), pick_len r, h, Nat.zero_add]
    · rw [if_pos h, List.length_cons, pick_len r, h, Nat.add_comm]
theorem pick_mem {α : Type} {x : α} : ∀ (L : List α) (m : Nat), x ∈ pick L m ↔ ∃ i : Nat, L[i]? = some x ∧ m.testBit i = true
  | [], m => by simp [pick]
  | y :: r, m => by
    unfold pick
    have ih := pick_mem (x := x) r (m / 2)
    have b0 : m.testBit 0 = decide (m % 2 = 1) := Nat.testBit_zero m
    constructor
    · intro h
      have tail : x ∈ pick r (m / 2) → ∃ i : Nat, (y :: r)[i]? = some x ∧ m.testBit i = true := fun h => by
        obtain ⟨i, h1, h2⟩ := ih.mp h
        exact ⟨i + 1, by simpa using h1, by rw [Nat.testBit_succ]; exact h2⟩
      by_cases q : m % 2 = 1
      · rw [if_pos q] at h
        rcases List.mem_cons.mp h with rfl | h
        · exact ⟨0, rfl, by rw [b0, decide_eq_true q]⟩
        · exact tail h
      · rw [if_neg q] at h
        exact tail h
    · rintro ⟨i, h1, h2⟩
      cases i with
      | zero =>
        rw [b0] at h2
        rw [if_pos (of_decide_eq_true h2)]
        have e : y = x := by simpa using h1
        rw [e]
        exact List.mem_cons_self
      | succ i =>
        rw [Nat.testBit_succ] at h2
        have h3 := ih.mpr ⟨i, by simpa using h1, h2⟩
        split
        · exact List.mem_cons_of_mem _ h3
        · exact h3
theorem pick_sub {α : Type} : ∀ (L : List α) (m : Nat), (pick L m).Sublist L
  | [], _ => List.Sublist.refl _
  | x :: r, m => by
    unfold pick
    split
    · exact (pick_sub r _).cons_cons x
    · exact (pick_sub r _).cons x
theorem next_bit {j : Nat} : ∀ (T : List Nat) (m : Nat), (nextM T m).testBit j = true ↔ ∃ (i t : Nat), T[i]? = some t ∧ m.testBit i = true ∧ t.testBit j = true
  | [], m => by simp [nextM]
  | t :: T, m => by
    unfold nextM
    have ih := next_bit (j := j) T (m / 2)
    rw [Nat.testBit_or, Bool.or_eq_true, ih]
    constructor
    · rintro (h | ⟨i, u, h1, h2, h3⟩)
      · by_cases q : m % 2 = 1
        · rw [if_pos q] at h
          exact ⟨0, t, rfl, by rw [Nat.testBit_zero, decide_eq_true q], h⟩
        · rw [if_neg q, Nat.zero_testBit] at h
          cases h
      · exact ⟨i + 1, u, by simpa using h1, by rw [Nat.testBit_succ]; exact h2, h3⟩
    · rintro ⟨i, u, h1, h2, h3⟩
      cases i with
      | zero =>
        rw [Nat.testBit_zero] at h2
        have e : t = u := by simpa using h1
        left
        rw [if_pos (of_decide_eq_true h2), e]
        exact h3
      | succ i =>
        rw [Nat.testBit_succ] at h2
        exact .inr ⟨i, u, by simpa using h1, h2, h3⟩
/-- the table of the orders of n things -/
structure Tab (n : Nat) (L : List (List Int)) (T : List Nat) : Prop where
  len : T.length = L.length
  srt : L.Pairwise (fun a b => cd a < cd b)
  al : Al n L
  steps : ∀ (i : Nat) (o : List Int) (t : Nat), L[i]? = some o → T[i]? = some t → pick L t = dropsOf o
section
variable {n : Nat} {L : List (List Int)} {T : List Nat}
theorem Tab.line (h : Tab n L T) {stp : List Int → List (List Int)} (hs : ∀ o ∈ L, ∀ z, z ∈ stp o ↔ z ∈ dropsOf o) (m : Nat) : dd ((pick L m).flatMap stp) = pick L (nextM T m) := by
  have al : Al n ((pick L m).flatMap stp) := fun z hz => by
    obtain ⟨o, ho, hz⟩ := List.mem_flatMap.mp hz
    have hL := (pick_sub L m).subset ho
    have hz := (hs o hL z).mp hz
    obtain ⟨i, hi⟩ := List.mem_iff_getElem?.mp hL
    have hlt : i < T.length := by
      rw [h.len]
      exact (List.getElem?_eq_some_iff.mp hi).1
    rw [← h.steps i o T[i] hi (List.getElem?_eq_getElem hlt)] at hz
    exact h.al z ((pick_sub L _).subset hz)
  refine (dd_one al (fun z => ?_) (h.srt.sublist (pick_sub L _))).symm
  rw [pick_mem, List.mem_flatMap]
  constructor
  · rintro ⟨j, hj, hb⟩
    obtain ⟨i, t, h1, h2, h3⟩ := (next_bit T m).mp hb
    have hlt : i < L.length := by
      rw [← h.len]
      exact (List.getElem?_eq_some_iff.mp h1).1
    have ho := List.getElem?_eq_getElem hlt
    refine ⟨L[i], (pick_mem L m).mpr ⟨i, ho, h2⟩, (hs _ (List.getElem_mem _) z).mpr ?_⟩
    rw [← h.steps i L[i] t ho h1]
    exact (pick_mem L t).mpr ⟨j, hj, h3⟩
  · rintro ⟨o, ho, hz⟩
    obtain ⟨i, hi, hb⟩ := (pick_mem L m).mp ho
    have hlt : i < T.length := by
      rw [h.len]
      exact (List.getElem?_eq_some_iff.mp hi).1
    have ht := List.getElem?_eq_getElem hlt
    have hz := (hs o (List.mem_of_getElem? hi) z).mp hz
    rw [← h.steps i o T[i] hi ht] at hz
    obtain ⟨j, hj, hb2⟩ := (pick_mem L _).mp hz
    exact ⟨j, hj, (next_bit T m).mpr ⟨i, T[i], ht, hb, hb2⟩⟩
theorem Tab.run (h : Tab n L T) {stp : List Int → List (List Int)} (hs : ∀ o ∈ L, ∀ z, z ∈ stp o ↔ z ∈ dropsOf o) : ∀ (f m : Nat) (found : List Int), runB stp f (pick L m) found = maskRun L T f m found
  | 0, _, _ => rfl
  | f + 1, m, found => by
    unfold runB maskRun
    rw [pick_len, h.line hs, h.run hs f]
/-- the mask of one order -/
theorem pick_one : ∀ (L : List (List Int)) (i : Nat) (o : List Int), L[i]? = some o → pick L (2 ^ i) = [o]
  | [], i, o, h => by simp at h
  | x :: r, 0, o, h => by
    have e : x = o := by simpa using h
    subst e
    have z : ∀ (r : List (List Int)), pick r 0 = [] := fun r => List.eq_nil_of_length_eq_zero (by
      rw [pick_len]
      induction r with
      | nil => rfl
      | cons _ r ih =>
        unfold pcL
        rw [show 0 % 2 = 0 from rfl, show 0 / 2 = 0 from rfl, ih])
    show (if 1 % 2 = 1 then x :: pick r (1 / 2) else pick r (1 / 2)) = [x]
    rw [if_pos (by decide), show 1 / 2 = 0 from rfl, z]
  | x :: r, i + 1, o, h => by
    unfold pick
    have h1 : 2 ^ (i + 1) % 2 = 0 := by rw [Nat.pow_succ]; omega
    have h2 : 2 ^ (i + 1) / 2 = 2 ^ i := by rw [Nat.pow_succ]; omega
    rw [if_neg (by omega), h2]
    exact pick_one r i o (by simpa using h)
/-- sorted, by neighbours -/
def srtd : List Int → Bool
  | x :: y :: r => decide (x < y) && srtd (y :: r)
  | _ => true
theorem srtd_pw : ∀ (l : List Int), srtd l = true → l.Pairwise (· < ·)
  | [], _ => List.Pairwise.nil
  | [x], _ => List.pairwise_singleton _ _
  | x :: y :: r, h => by
    unfold srtd at h
    rw [Bool.and_eq_true, decide_eq_true_eq] at h
    have ih := srtd_pw (y :: r) h.2
    refine List.pairwise_cons.mpr ⟨fun z hz => ?_, ih⟩
    rcases List.mem_cons.mp hz with rfl | hz
    · exact h.1
    · exact Int.lt_trans h.1 ((List.pairwise_cons.mp ih).1 z hz)
def stepChk (L : List (List Int)) : List (List Int) → List Nat → Bool
  | o :: os, t :: ts => decide (pick L t = dropsOf o) && stepChk L os ts
  | [], [] => true
  | _, _ => false
theorem stepChk_ok {L : List (List Int)} : ∀ {os : List (List Int)} {ts : List Nat}, stepChk L os ts = true → ts.length = os.length ∧ ∀ (i : Nat) (o : List Int) (t : Nat), os[i]? = some o → ts[i]? = some t → pick L t = dropsOf o
  | [], [], _ => ⟨rfl, fun i o t h => by simp at h⟩
  | o :: os, t :: ts, h => by
    unfold stepChk at h
    rw [Bool.and_eq_true, decide_eq_true_eq] at h
    obtain ⟨h1, h2⟩ := stepChk_ok h.2
    refine ⟨by rw [List.length_cons, List.length_cons, h1], fun i o' t' e1 e2 => ?_⟩
    cases i with
    | zero =>
      have e1 : o = o' := by simpa using e1
      have e2 : t = t' := by simpa using e2
      subst e1 e2
      exact h.1
    | succ i => exact h2 i o' t' (by simpa using e1) (by simpa using e2)
  | [], _ :: _, h => by cases h
  | _ :: _, [], h => by cases h
def alChk (n : Nat) (L : List (List Int)) : Bool := L.all fun o => decide (o.length = n) && o.all fun x => decide (0 ≤ x) && decide (x < 64)
theorem tab_of (h1 : stepChk L L T = true) (h2 : srtd (L.map cd) = true) (h3 : alChk n L = true) : Tab n L T := by
  obtain ⟨a, b⟩ := stepChk_ok h1
  refine ⟨a, List.pairwise_map.mp (srtd_pw _ h2), fun o ho => ?_, b⟩
  have := List.all_eq_true.mp h3 o ho
  rw [Bool.and_eq_true, decide_eq_true_eq] at this
  refine ⟨this.1, fun x hx => ?_⟩
  have := List.all_eq_true.mp this.2 x hx
  rw [Bool.and_eq_true, decide_eq_true_eq, decide_eq_true_eq] at this
  exact this
def bitOf (L : List (List Int)) (o : List Int) : Nat := 2 ^ L.idxOf o
/-- what is to be seen of one order -/
def seen (L : List (List Int)) (T : List Nat) (o : List Int) : Bool := match maskRun L T 12 (bitOf L o) [] with
  | some r => decide (r.length = invs o + 1) && (decide (r.length < 2) || decide (r[r.length - 2]? = some ((dropsOf o).length : Int))) && (smoothB o == decide (r = r.reverse)) && decide (isrt (dropsLaw o) = dropsOf o)
    && decide (maskRun L T 12 (bitOf L (oppO o)) [] = some r) && decide (maskRun L T 12 (bitOf L (overO o.reverse)) [] = some r)
  | none => false
theorem Tab.small (h : Tab n L T) (hn : n ≤ 5) (all : ∀ o, IsOrd o → o.length = n → o ∈ L) (hs : L.all (seen L T) = true) {o : List Int} (ho : IsOrd o) (hl : o.length = n) : ∃ r, SmallOk o r := by
  have hL := all o ho hl
  have law : ∀ o ∈ L, ∀ z, z ∈ dropsLaw o ↔ z ∈ dropsOf o := fun o hL z => by
    have q := List.all_eq_true.mp hs o hL
    unfold seen at q
    split at q
    · simp only [Bool.and_eq_true, decide_eq_true_eq] at q
      rw [← q.1.1.2]
      exact (isrt_perm _).mem_iff.symm
    · cases q
  have own : ∀ o ∈ L, ∀ z, z ∈ dropsOf o ↔ z ∈ dropsOf o := fun _ _ _ => Iff.rfl
  have one : ∀ {u : List Int}, IsOrd u → u.length = n → pick L (bitOf L u) = [u] := fun {u} hu hul => by
    have hm := all u hu hul
    have hlt : L.idxOf u < L.length := List.idxOf_lt_length_iff.mpr hm
    exact pick_one L _ u (by rw [List.getElem?_eq_getElem hlt, List.getElem_idxOf hlt])
  have q := List.all_eq_true.mp hs o hL
  unfold seen at q
  split at q
  · rename_i r hr
    simp only [Bool.and_eq_true, Bool.or_eq_true, decide_eq_true_eq, beq_iff_eq] at q
    obtain ⟨⟨⟨⟨⟨q1, q2⟩, q3⟩, q4⟩, q5⟩, q6⟩ := q
    have hrev : IsOrd o.reverse := ho.perm (List.reverse_perm o)
    have hover : IsOrd (overO o.reverse) := by
      have e : (overO o.reverse).length = o.length := by unfold overO; rw [List.length_map, List.length_reverse]
      have h1 := ho.l1
      have h2 := ho.l2
      refine ⟨by omega, by omega, fun x hx => ?_, ?_⟩
      · obtain ⟨y, hy, rfl⟩ := List.mem_map.mp hx
        have := hrev.rg y hy
        rw [e]
        rw [List.length_reverse] at this ⊢
        omega
      · exact List.Pairwise.map _ (fun a b hab z => hab (by omega)) hrev.nd
    have hol : (overO o.reverse).length = n := by unfold overO; rw [List.length_map, List.length_reverse, hl]
    have run : ∀ {u : List Int}, IsOrd u → u.length = n → maskRun L T 12 (bitOf L u) [] = some r → runB dropsOf 12 [u] [] = some r := fun {u} hu hul e => by rw [← one hu hul, h.run own, e]
    refine ⟨r, ho, by omega, ⟨12, by decide, run ho hl hr⟩, ⟨12, by decide, by rw [← one ho hl, h.run law, hr]⟩, q1, fun z => ?_, q3, smooth_law ho.nd, ho.opp, ⟨12, by decide, run ho.opp (by rw [oppO_len, hl]) q5⟩, hrev, hover, ⟨12, by decide, run hover hol q6⟩⟩
    rcases q2 with q2 | q2
    · omega
    · exact q2
  · cases q
end
/-! ### all orders of n things -/
def perms : Nat → List Int → List (List Int)
  | 0, _ => [[]]
  | k + 1, xs => xs.flatMap fun x => (perms k (xs.erase x)).map fun p => x :: p
theorem perms_all : ∀ (k : Nat) (xs o : List Int), xs.length = k → o.Perm xs → o ∈ perms k xs
  | 0, xs, o, h, p => by
    have e := List.eq_nil_of_length_eq_zero (p.length_eq.trans h)
    subst e
    exact List.mem_singleton.mpr rfl
  | k + 1, xs, o, h, p => by
    cases o with
    | nil =>
      have := p.length_eq
      rw [h] at this
      cases this
    | cons y o =>
      obtain ⟨h1, h2⟩ := List.cons_perm_iff_perm_erase.mp p
      exact List.mem_flatMap.mpr ⟨y, h1, List.mem_map.mpr ⟨o, perms_all k _ _ (by rw [List.length_erase_of_mem h1, h]; rfl) h2, rfl⟩⟩
theorem IsOrd.plain {o : List Int} (h : IsOrd o) : o.Perm (plainO o.length) := (List.perm_ext_iff_of_nodup h.nd (nat_ints_nodup _)).mpr fun x => by
  constructor
  · intro hx
    have := h.rg x hx
    exact List.mem_map.mpr ⟨x.toNat, List.mem_range.mpr (by omega), by omega⟩
  · intro hx
    obtain ⟨t, ht, rfl⟩ := List.mem_map.mp hx
    exact h.has (List.mem_range.mp ht)
theorem all_of {n : Nat} {L : List (List Int)} (e : perms n (plainO n) = L) : ∀ o, IsOrd o → o.length = n → o ∈ L := fun o ho hl => by
  rw [← e]
  have := ho.plain
  rw [hl] at this
  exact perms_all n _ o (plainO_len n) this
end K45
set_option maxHeartbeats 1000000
/-! The plain law of the small orders: the tables. -/
namespace K45
theorem all_cut {α : Type} {p : α → Bool} {l : List α} (n : Nat) (h1 : (l.take n).all p = true) (h2 : (l.drop n).all p = true) : l.all p = true := by
  rw [← List.take_append_drop n l, List.all_append, h1, h2]
  rfl
def L1 : List (List Int) := [[0]]
def T1 : List Nat := [0]
theorem all1 : perms 1 (plainO 1) = L1 := by decide +kernel
theorem stp1 : stepChk L1 L1 T1 = true := by decide +kernel
theorem srt1 : srtd (L1.map cd) = true := by decide +kernel
theorem alc1 : alChk 1 L1 = true := by decide +kernel
theorem see1_0 : ((L1).take 12).all (seen L1 T1) = true := by decide +kernel
theorem see1 : L1.all (seen L1 T1) = true := (all_cut 12 see1_0 rfl)
def L2 : List (List Int) := [[0, 1], [1, 0]]
def T2 : List Nat := [0, 1]
theorem all2 : perms 2 (plainO 2) = L2 := by decide +kernel
theorem stp2 : stepChk L2 L2 T2 = true := by decide +kernel
theorem srt2 : srtd (L2.map cd) = true := by decide +kernel
theorem alc2 : alChk 2 L2 = true := by decide +kernel
theorem see2_0 : ((L2).take 12).all (seen L2 T2) = true := by decide +kernel
theorem see2 : L2.all (seen L2 T2) = true := (all_cut 12 see2_0 rfl)
def L3 : List (List Int) := [[0, 1, 2], [0, 2, 1], [1, 0, 2], [1, 2, 0], [2, 0, 1], [2, 1, 0]]
def T3 : List Nat := [0, 1, 1, 6, 6, 24]
theorem all3 : perms 3 (plainO 3) = L3 := by decide +kernel
theorem stp3 : stepChk L3 L3 T3 = true := by decide +kernel
theorem srt3 : srtd (L3.map cd) = true := by decide +kernel
theorem alc3 : alChk 3 L3 = true := by decide +kernel
theorem see3_0 : ((L3).take 12).all (seen L3 T3) = true := by decide +kernel
theorem see3 : L3.all (seen L3 T3) = true := (all_cut 12 see3_0 rfl)
def L4 : List (List Int) := [[0, 1, 2, 3], [0, 1, 3, 2], [0, 2, 1, 3], [0, 2, 3, 1], [0, 3, 1, 2], [0, 3, 2, 1], [1, 0, 2, 3], [1, 0, 3, 2], [1, 2, 0, 3], [1, 2, 3, 0], [1, 3, 0, 2], [1, 3, 2, 0], [2, 0, 1, 3], [2, 0, 3, 1], [2, 1, 0, 3], [2, 1, 3, 0], [2, 3, 0, 1], [2, 3, 1, 0], [3, 0, 1, 2], [3, 0, 2, 1], [3, 1, 0, 2], [3, 1, 2, 0], [3, 2, 0, 1], [3, 2, 1, 0]]
def T4 : List Nat := [0, 1, 1, 6, 6, 24, 1, 66, 68, 392, 400, 1568, 68, 4232, 4352, 25088, 25632, 100352, 4240, 270368, 279552, 1607680, 1638400, 6422528]
theorem all4 : perms 4 (plainO 4) = L4 := by decide +kernel
theorem stp4 : stepChk L4 L4 T4 = true := by decide +kernel
theorem srt4 : srtd (L4.map cd) = true := by decide +kernel
theorem alc4 : alChk 4 L4 = true := by decide +kernel
theorem see4_0 : ((L4).take 12).all (seen L4 T4) = true := by decide +kernel
theorem see4_1 : (((L4).drop 12).take 12).all (seen L4 T4) = true := by decide +kernel
theorem see4 : L4.all (seen L4 T4) = true := (all_cut 12 see4_0 (all_cut 12 see4_1 rfl))
def L5 : List (List Int) := [[0, 1, 2, 3, 4], [0, 1, 2, 4, 3], [0, 1, 3, 2, 4], [0, 1, 3, 4, 2], [0, 1, 4, 2, 3], [0, 1, 4, 3, 2], [0, 2, 1, 3, 4], [0, 2, 1, 4, 3], [0, 2, 3, 1, 4], [0, 2, 3, 4, 1], [0, 2, 4, 1, 3], [0, 2, 4, 3, 1], [0, 3, 1, 2, 4], [0, 3, 1, 4, 2], [0, 3, 2, 1, 4], [0, 3, 2, 4, 1], [0, 3, 4, 1, 2], [0, 3, 4, 2, 1], [0, 4, 1, 2, 3], [0, 4, 1, 3, 2], [0, 4, 2, 1, 3], [0, 4, 2, 3, 1], [0, 4, 3, 1, 2], [0, 4, 3, 2, 1], [1, 0, 2, 3, 4], [1, 0, 2, 4, 3], [1, 0, 3, 2, 4], [1, 0, 3, 4, 2], [1, 0, 4, 2, 3], [1, 0, 4, 3, 2], [1, 2, 0, 3, 4], [1, 2, 0, 4, 3], [1, 2, 3, 0, 4], [1, 2, 3, 4, 0], [1, 2, 4, 0, 3], [1, 2, 4, 3, 0], [1, 3, 0, 2, 4], [1, 3, 0, 4, 2], [1, 3, 2, 0, 4], [1, 3, 2, 4, 0], [1, 3, 4, 0, 2], [1, 3, 4, 2, 0], [1, 4, 0, 2, 3], [1, 4, 0, 3, 2], [1, 4, 2, 0, 3], [1, 4, 2, 3, 0], [1, 4, 3, 0, 2], [1, 4, 3, 2, 0], [2, 0, 1, 3, 4], [2, 0, 1, 4, 3], [2, 0, 3, 1, 4], [2, 0, 3, 4, 1], [2, 0, 4, 1, 3], [2, 0, 4, 3, 1], [2, 1, 0, 3, 4], [2, 1, 0, 4, 3], [2, 1, 3, 0, 4], [2, 1, 3, 4, 0], [2, 1, 4, 0, 3], [2, 1, 4, 3, 0], [2, 3, 0, 1, 4], [2, 3, 0, 4, 1], [2, 3, 1, 0, 4], [2, 3, 1, 4, 0], [2, 3, 4, 0, 1], [2, 3, 4, 1, 0], [2, 4, 0, 1, 3], [2, 4, 0, 3, 1], [2, 4, 1, 0, 3], [2, 4, 1, 3, 0], [2, 4, 3, 0, 1], [2, 4, 3, 1, 0], [3, 0, 1, 2, 4], [3, 0, 1, 4, 2], [3, 0, 2, 1, 4], [3, 0, 2, 4, 1], [3, 0, 4, 1, 2], [3, 0, 4, 2, 1], [3, 1, 0, 2, 4], [3, 1, 0, 4, 2], [3, 1, 2, 0, 4], [3, 1, 2, 4, 0], [3, 1, 4, 0, 2], [3, 1, 4, 2, 0], [3, 2, 0, 1, 4], [3, 2, 0, 4, 1], [3, 2, 1, 0, 4], [3, 2, 1, 4, 0], [3, 2, 4, 0, 1], [3, 2, 4, 1, 0], [3, 4, 0, 1, 2], [3, 4, 0, 2, 1], [3, 4, 1, 0, 2], [3, 4, 1, 2, 0], [3, 4, 2, 0, 1], [3, 4, 2, 1, 0], [4, 0, 1, 2, 3], [4, 0, 1, 3, 2], [4, 0, 2, 1, 3], [4, 0, 2, 3, 1], [4, 0, 3, 1, 2], [4, 0, 3, 2, 1], [4, 1, 0, 2, 3], [4, 1, 0, 3, 2], [4, 1, 2, 0, 3], [4, 1, 2, 3, 0], [4, 1, 3, 0, 2], [4, 1, 3, 2, 0], [4, 2, 0, 1, 3], [4, 2, 0, 3, 1], [4, 2, 1, 0, 3], [4, 2, 1, 3, 0], [4, 2, 3, 0, 1], [4, 2, 3, 1, 0], [4, 3, 0, 1, 2], [4, 3, 0, 2, 1], [4, 3, 1, 0, 2], [4, 3, 1, 2, 0], [4, 3, 2, 0, 1], [4, 3, 2, 1, 0]]
def T5 : List Nat := [0, 1, 1, 6, 6, 24, 1, 66, 68, 392, 400, 1568, 68, 4232, 4352, 25088, 25632, 100352, 4240, 270368, 279552, 1607680, 1638400, 6422528, 1, 16777218, 16777220, 100663304, 100663312, 402653216, 16777280, 1107296384, 1140850944, 6576669184, 6710887424, 26306676736, 1140854784, 71001186304, 73014460416, 420906827776, 430033666048, 1683627311104, 71135657984, 4536022859776, 4690105335808, 26972396716032, 27487794888704, 107752147910656, 16777280, 281475010265216, 281475043819776, 1688849994482176, 1688850128700416, 6755399977928704, 281476050452480, 18577350610386944, 19140302711291904, 110338199460511744, 112590007864131584, 441352797842046976, 19140367135817728, 1191202238878482432, 1224979373522681856, 7061644765472751616, 7214767702559293440, 28246579061891006464, 1193458299300741120, 76101835299401760768, 78686910281603350528, 452521725742559526912, 461168672211491356672, 1807781059961024413696, 281475043823616, 4722367045819732860928, 4722367608769552072704, 28334201149017685000192, 28334203400818035589120, 113336804596070740000768, 4722384497336874172416, 311676223898331042021376, 321120992893004790366208, 1851167805400638755438592, 1888946881379333748817920, 7404671221602555021754368, 321122073756640481378304, 19985057261347347758055424, 20551743545134714397392896, 118474739545605695975981056, 121043716135658819827007488, 473898958182422783903924224, 20022907674352386641494016, 1276776928814452826821361664, 1320147290167150606876147712, 7592054737475822313348792320, 7737126426125247435530829824, 30329533323675058169851150336, 4722367045819867332608, 79228171958997303333371772928, 79228181403734772671753224192, 475369012864526895717682249728, 475369050643449751475591315456, 1901476051458071554073710034944, 79228464745755274445903101952, 5229059330404356097284581097472, 5387516259896082818958501085184, 31057442123443836061864253456384, 31691269841409013566303023136768, 124229768493773038404447800131584, 5387534393856875766722622128128, 335293622446140478316601264832512, 344801040633626000448549805883392, 1987676295900958908029723694071808, 2030776571051813914163504671096832, 7950705183603835632118894776287232, 335928647000520076776901248548864, 21420762318536698997251840562692096, 22148396238947781244471498000826368, 127373542214452804545430937269174272, 129807441270411319279346806616489984, 508845131750494364728157437035544576]
theorem all5 : perms 5 (plainO 5) = L5 := by decide +kernel
theorem stp5 : stepChk L5 L5 T5 = true := by decide +kernel
theorem srt5 : srtd (L5.map cd) = true := by decide +kernel
theorem alc5 : alChk 5 L5 = true := by decide +kernel
theorem see5_0 : ((L5).take 12).all (seen L5 T5) = true := by decide +kernel
theorem see5_1 : (((L5).drop 12).take 12).all (seen L5 T5) = true := by decide +kernel
theorem see5_2 : ((((L5).drop 12).drop 12).take 12).all (seen L5 T5) = true := by decide +kernel
theorem see5_3 : (((((L5).drop 12).drop 12).drop 12).take 12).all (seen L5 T5) = true := by decide +kernel
theorem see5_4 : ((((((L5).drop 12).drop 12).drop 12).drop 12).take 12).all (seen L5 T5) = true := by decide +kernel
theorem see5_5 : (((((((L5).drop 12).drop 12).drop 12).drop 12).drop 12).take 12).all (seen L5 T5) = true := by decide +kernel
theorem see5_6 : ((((((((L5).drop 12).drop 12).drop 12).drop 12).drop 12).drop 12).take 12).all (seen L5 T5) = true := by decide +kernel
theorem see5_7 : (((((((((L5).drop 12).drop 12).drop 12).drop 12).drop 12).drop 12).drop 12).take 12).all (seen L5 T5) = true := by decide +kernel
theorem see5_8 : ((((((((((L5).drop 12).drop 12).drop 12).drop 12).drop 12).drop 12).drop 12).drop 12).take 12).all (seen L5 T5) = true := by decide +kernel
theorem see5_9 : (((((((((((L5).drop 12).drop 12).drop 12).drop 12).drop 12).drop 12).drop 12).drop 12).drop 12).take 12).all (seen L5 T5) = true := by decide +kernel
theorem see5 : L5.all (seen L5 T5) = true := (all_cut 12 see5_0 (all_cut 12 see5_1 (all_cut 12 see5_2 (all_cut 12 see5_3 (all_cut 12 see5_4 (all_cut 12 see5_5 (all_cut 12 see5_6 (all_cut 12 see5_7 (all_cut 12 see5_8 (all_cut 12 see5_9 rfl))))))))))
theorem small_ok {o : List Int} (ho : IsOrd o) (hl : o.length ≤ 5) : ∃ r, SmallOk o r := by
  have h1 := ho.l1
  rcases (by omega : o.length = 1 ∨ o.length = 2 ∨ o.length = 3 ∨ o.length = 4 ∨ o.length = 5) with e | e | e | e | e
  · exact (tab_of stp1 srt1 alc1).small (by decide) (all_of all1) see1 ho e
  · exact (tab_of stp2 srt2 alc2).small (by decide) (all_of all2) see2 ho e
  · exact (tab_of stp3 srt3 alc3).small (by decide) (all_of all3) see3 ho e
  · exact (tab_of stp4 srt4 alc4).small (by decide) (all_of all4) see4 ho e
  · exact (tab_of stp5 srt5 alc5).small (by decide) (all_of all5) see5 ho e
end K45
set_option maxHeartbeats 4000000
/-! Defs that raise. -/
namespace K45
open PySem PySem.Spec PyProof.Rows L2
abbrev CXR (P : Program) (w : World) : CXT := L2N.CX P w
/-- the exception's dict, where it has one, is known -/
def DX (d : Option Addr) (H : Hp) : Prop := match d with
  | none => True
  | some dx => ∃ fs, H dx = some (.xd fs)
/-- a promise of a def that raises: with such data, an exception of such a class -/
def PR (K : PySem.W.Frag) (G : List D → Value → Prop) : Sp := fun vs H _ E => ∃ (B : Hp) (ds : List D) (cls : Value), Same B H ∧ DqAll K B vs ds ∧ G ds cls ∧ ∀ d B2 H2, DX d B2 → Nx none B H B2 H2 → E cls d H2
abbrev cxR (P : Program) (w : World) (K : PySem.W.Frag) (mg : Str → Option Value) (base : Heap) (N : List Str) (x : Str) (st : Stmt) (f : Addr) (cdv : Value) (A : Around) (outer : List Env) (s : Shared) (H : Hp) (E : XK) : Cx :=
  cxOf (CXR P w) P w K mg base N x (defScope st) f cdv A outer s H E
/-- the way to an exception of the class cls -/
def HR (X : Cx) (W : WX) (cls : Value) (st : Sto) (sts : List Stmt) : Prop := ∀ (Dn : Ends) Bf B0 H0 σ H, StOk X.K none Bf B0 H0 st σ H → (∀ d σ' B2 H2, DX d B2 → Nx none B0 H0 B2 H2 → W cls d σ' H2) → WSs X sts Dn σ H
section
variable {P : Program} {w : World} {K : PySem.W.Frag} {mg : Str → Option Value} {base : Heap}
structure ClR (P : Program) (w : World) (K : PySem.W.Frag) (mg : Str → Option Value) (base : Heap) (k : Nat) (x : Str) (ps : List Str) (G : List D → Value → Prop) : Prop where
  ex : ∃ f fd, FnOk P w K mg base (CXR P w) k f fd ps (PR K G) ∧ mg x = some (.ref f) ∧ PySem.W.keepIn K (.ref f) = true ∧ Binds K fd ps []
theorem Df.okR {x : Str} {st : Stmt} {ps N : List Str} {k : Nat} {G : List D → Value → Prop} (F : Df K mg x st ps) (S : FnScope N ps (defScope st)) (hl : ∀ ds cls, G ds cls → ds.length = ps.length)
    (hb : ∀ f cdv A outer s H E ds cls, Room k (A.deeper (envOfC x (defScope st) s.heap.objs.size f cdv)) → G ds cls →
      L2N.Takes (cxR P w K mg base N x st f cdv A outer s H E) (fun c d _ H' => E c d H') → HR (cxR P w K mg base N x st f cdv A outer s H E) (fun c d _ H' => E c d H') cls (st0 N ds) (defBody st)) : ClR P w K mg base (k + 1) x ps G := by
  obtain ⟨f, fd, F, hm, hbn⟩ := F.ex
  refine ⟨f, fd, ?_, hm, F.kp, hbn⟩
  obtain ⟨oc, od, kV, doc, pm, an, cdv, ct, osl, rfl, lk, hcd⟩ := F.ex
  refine fn_of lk hcd S (fun vs H Q E h => ?_) fun A outer s H vs Q E hr h => ?_
  · obtain ⟨B, ds, cls, _, ha, g, _⟩ := h
    rw [ha.len]
    exact hl ds cls g
  · obtain ⟨B, ds, cls, sm, ha, g, q⟩ := h
    refine ⟨fun E' σ' H' => WSs (cxR P w K mg base N x st f cdv A outer s H E) (defBody st) E' σ' H', pssW, ?_⟩
    exact hb f cdv A outer s H E ds cls hr g (L2N.takes_of rfl rfl rfl rfl) _ B B H _ H ⟨B, Same.refl B, Nx.refl sm, (fun _ z => nomatch z), sl_start ha⟩ fun d _ B2 H2 x n => q d B2 H2 x n
end
section
variable {X : Cx} {st : Sto} {e : Expr} {es : List Expr} {d : D} {ds : List D} {pos p : Pos} {W : WX} {cls : Value} {u v rest : List Stmt}
theorem hr_cons {s : Stmt} (h : ∀ (Dn : Ends) Bf B0 H0 σ H, StOk X.K none Bf B0 H0 st σ H → (∀ d σ' B2 H2, DX d B2 → Nx none B0 H0 B2 H2 → W cls d σ' H2) → WS X s { Dn with nx := fun σ' H' => ∃ st', StOk X.K none Bf B0 H0 st' σ' H' ∧ HR X W cls st' rest } σ H) : HR X W cls st (s :: rest) := fun Dn Bf B0 H0 σ H o q =>
  WSs.of (pss_cons psW pssW) (WS.mono (h Dn Bf B0 H0 σ H o q) (fun σ' H' ⟨st', o', h'⟩ => h' Dn Bf B0 H0 σ' H' o' q) (fun _ _ q => q) (fun _ _ q => q) (fun _ _ q => q))
theorem hr_if (hc : ET X st e true) (h : HR X W cls st u) : HR X W cls st (.If e u v pos :: rest) := hr_cons fun Dn Bf B0 H0 σ H o q => by
  obtain ⟨B, sm, f, l, g, n, up⟩ := o.nx
  exact WS.of (ps_if ptW pssW pssW) (hc none H0 B H σ sm l _ fun B1 H1 n1 => h _ Bf B0 H0 σ H1 (up B1 H1 n1) q)
theorem hr_expr (he : ED X st e d) (h : HR X W cls st rest) (hs : swapsWith e none pos.line X.env = pure false := by rfl) : HR X W cls st (.Expr e pos :: rest) := hr_cons fun Dn Bf B0 H0 σ H o q => by
  obtain ⟨B, sm, f, l, g, n, up⟩ := o.nx
  exact WS.of (ps_expr peW hs) (he.any sm l fun v B1 H1 n1 d1 => ⟨st, up B1 H1 n1, h⟩)
/-- a call that raises -/
theorem hr_call {j k : Nat} {ps : List Str} {G : List D → Value → Prop} {x : Str} {E : XK} (cl : ClR X.prog X.w X.K X.mg X.base j x ps G) (hr : Room k X.A) (tk : L2N.Takes X (fun c d _ H' => E c d H')) (ha : EDs X st (e :: es) ds) (hG : G ds cls) (hj : j ≤ k := by decide) (hg : Gl X x := by rfl)
    (hdb : (x == ("__debug__" : Str)) = false := by decide) (he : starEach (e :: es) X.env = (false, eval e X.env) :: starEach es X.env := by rfl) (hpl : (backTo pos (starEach es X.env)).any (·.1) = false := by rfl) (hs : swapsWith (.Call (.Name x p) (e :: es) [] pos) none pos.line X.env = pure false := by rfl) :
    HR X (fun c d _ H' => E c d H') cls st (.Expr (.Call (.Name x p) (e :: es) [] pos) pos :: rest) := hr_cons fun Dn Bf B0 H0 σ H o q => by
  obtain ⟨B, sm, f, l, g, n, up⟩ := o.nx
  obtain ⟨f, fd, F, hm, hk, hb⟩ := cl.ex
  refine WS.of (ps_expr (pe_call F (hr.mono hj) hg hm hk hb .nil (L2N.passes_call tk fun _ _ _ _ h => h) paW hdb he hpl) hs) (ha none H0 B H σ sm l _ fun xs B1 H1 n1 d1 => ?_)
  rw [List.append_nil]
  exact ⟨B1, ds, cls, n1.i, d1, hG, fun d B2 H2 x n2 => q d [] B2 H2 x ((n.trans n1).trans n2)⟩
/-- what is known of an own exception class without an __init__ -/
structure OwnX (K : PySem.W.Frag) (mg : Str → Option Value) (x : Str) (C : Addr) : Prop where
  g : mg x = some (.ref C)
  k : PySem.W.keepIn K (.ref C) = true
  e : PySem.W.excIn K C HandSPX.veTail "ValueError.__new__" = true
  s : PySem.W.subIn K (.ref C) (.type "BaseException") = some true
  t : PySem.W.typeIn K (.ref C) = some (.type "type")
theorem hr_raise {x t : Str} {C : Addr} {j : Nat} {p2 p3 : Pos} (T : OwnX X.K X.mg x C) (tk : L2N.Takes X W) (hc : X.calm = true := by rfl) (hg : Gl X x := by rfl) (hdb : (x == ("__debug__" : Str)) = false := by decide) :
    HR X W (.ref C) st (.Raise (some (.Call (.Name x p) [.Constant (.str t) j p2] [] p3)) none pos :: rest) := hr_cons fun Dn Bf B0 H0 σ H o q => by
  obtain ⟨B, sm, f, l, g, n, up⟩ := o.nx
  exact WS.of (L2N.ps_raise hc tk (L2N.pmk_own PySem.F.excBase_ValueError T.e T.g T.k (raises_own T.s T.t) hg hdb)) (q none σ B H True.intro n)
end
end K45
set_option maxHeartbeats 4000000
/-! TooMany: its __init__ with super().__init__; the making of one. -/
namespace K45
open PySem PySem.Spec PyProof.Rows L2 PySem.HandSPX
abbrev s_tm : Stmt := (match topS 7 with
  | .ClassDef _ _ _ (d :: _) _ _ _ _ _ _ _ => d
  | x => x)
/-- what is known of TooMany, at C, and of its __init__, at fI -/
structure TmX (P : Program) (K : PySem.W.Frag) (mg : Str → Option Value) (C fI cc cda : Addr) : Prop where
  g : mg "TooMany" = some (.ref C)
  k : PySem.W.keepIn K (.ref C) = true
  cls : ∃ nm q N bs bm sn sub ab col dd k0 k1 k2 k3 k5, K.lookup C = some (excClassObj nm q C N bs bm true sn sub ab col dd k0 k1 k2 k3 k5 "ValueError.__new__") ∧ refsVE bm = true
  sa : PySem.W.findIn K (.ref C) "__setattr__" = some (some (.builtin "object.__setattr__"))
  noN : PySem.W.findIn K (.ref C) "limit" = some none
  iC : PySem.W.findIn K (.ref C) "__init__" = some (some (.ref fI))
  tI : PySem.W.typeIn K (.ref fI) = some (.type "function")
  s : PySem.W.subIn K (.ref C) (.type "BaseException") = some true
  t : PySem.W.typeIn K (.ref C) = some (.type "type")
  sup : PySem.W.ks_superIn K C C "__init__" = some (some (.builtin "ValueError.__init__"))
  sve : PySem.W.subIn K (.ref C) (.type "ValueError") = some true
  own : PySem.W.mroIn K C (.ref C) = some true
  third : PySem.W.nsIn K cStatics "thirdparty.any" = some none
  fn : ∃ (oc : Value) (od : Option Addr) (kV doc pm : Value) (an : Option Addr) (ct : Value) (osl : Array (Option Value)),
    K.lookup fI = some ⟨oc, od, .func (PySem.W.ksFn "__init__" "TooMany.__init__" (L2.defArgs s_tm) (defBody s_tm) (defScope s_tm) .none kV doc pm an (.ref cda) ct cc), osl⟩ ∧ PySem.W.codeIn K (.ref cda) "TooMany.__init__" = true
  cell : ∃ (oc : Value) (od : Option Addr) (osl : Array (Option Value)), K.lookup cc = some ⟨oc, od, .cell (some (.ref C)), osl⟩
  file : ∃ (oc : Value) (od : Option Addr) (vs : Array Value) (osl : Array (Option Value)) (fl : Str) (tf : Tok), K.lookup cda = some ⟨oc, od, .fields vs, osl⟩ ∧ vs[2]? = some (.str fl tf) ∧ ((P.main.file : Str) == fl) = true
  top : (P.main.scope.names.lookup ("super" : Str)).isSome = false
/-- what __init__ leaves of a fresh exception at x -/
structure TmEnd (h h' : Heap) (x C dx t1 : Addr) (v : Value) : Prop where
  keep : ∀ b o, b ≠ x → h.get? b = some o → h'.get? b = some o
  dbig : h.objs.size ≤ dx
  dne : dx ≠ x
  ns : h'.Ns1 dx (fun y => if y = "limit" then some v else none)
  obj : h'.get? x = some { cls := .ref C, dict := some dx, data := .fields #[.ref t1, .none, .none, .none, .bool false, .none] }
section
variable {prog : Program} {w : World} {A : Around} {E : Value → Shared → Prop} {R : Result → Shared → Prop} {s : Shared} {K : PySem.W.Frag} {mg : Str → Option Value} {C fI cc cda : Addr}
/-- the bound ValueError.__init__ is called -/
theorem call_veb {h : Heap} {g : Array GenState} {d : Drawn} {t : Nat} {os : OsState} {nm q : Str} {N : Addr} {bs bm : List Value} {hdct : Bool} {sn : List Str} {sub : List Value} {ab : Bool} {col : Option Bool} {dd : Option Addr} {k0 k1 k2 k3 k5 : Option Value}
    {u e t0 : Addr} {rest : List Value} {Q : Value → Shared → Prop} (hC : h.get? C = some (excClassObj nm q C N bs bm hdct sn sub ab col dd k0 k1 k2 k3 k5 "ValueError.__new__")) (he : h.get? e = some (excO C t0)) (hu : h.get? u = some (PySem.W.kxs_mw "ValueError.__init__" e)) (few : rest.length ≤ sizeLine)
    (fin : ∀ h' t1, (∀ b o, b ≠ e → h.get? b = some o → h'.get? b = some o) → h'.get? e = some (excO C t1) → Q .none ⟨h', g, d, t, os⟩) : wpAny (model prog w) A (call (.ref u) rest) Q E ⟨h, g, d, t, os⟩ := by
  refine wpAny_call (codeAny_of_tree ?_)
  show wpAny _ A.in1 (callAny (.ref u) ⟨rest, []⟩) _ _ _
  simp only [callAny]
  refine wpAny_bind (wpAny_load hu ?_)
  simp only [show (Value.type "method-wrapper" == Value.type "method" || Value.type "method-wrapper" == Value.type "builtin_function_or_method" || Value.type "method-wrapper" == Value.type "method-wrapper") = true by decide, if_true]
  refine PySem.W.KFB.if_so (by decide) ?_
  refine wpAny_bind (ESX.check_bound F.excBase_ValueError hC he rfl (wpAny_bind (wpAny_pure (wpAny_pure ⟨Code.quiet_builtin _ (by decide +kernel), codeAny_builtin F.excBase_ValueError.initEntry ?_⟩))))
  rw [Around.under_plainId (F.excBase_ValueError.init.plain) _]
  wp_walk
  refine fin _ h.objs.size (fun b o hb ho => (Heap.get?_update_other _ _ (Ne.symm hb)).trans (Heap.get?_push_of_some _ ho)) ?_
  rw [Heap.get?_update_self _ (Heap.get?_push_of_some _ he) rfl]
  rfl
theorem tm_noCell : ∀ y ∈ (defScope s_tm).names, y.2 ≠ .cell := by decide +kernel
theorem tm_init (T : TmX prog K mg C fI cc cda) {base : Heap} {x t0 : Addr} {v : Value} (M : Mod K mg base) (hb : ∀ b o, base.get? b = some o → s.heap.get? b = some o) (hms : mg "super" = none) (hx : s.heap.get? x = some (excO C t0)) (hnx : K.lookup x = none) (hroom : A.depth < recursionLimit)
    (hq : ∀ h' tk dx t1, TmEnd s.heap h' x C dx t1 v → R (.ok (.ret .none)) { s with heap := h', toks := tk }) : codeAny (model prog w) A (.call (.ref fI) ⟨[.ref x, v], []⟩) R s := by
  have X : K.In s.heap := fun a o e => hb _ _ (M.kin a o e)
  obtain ⟨oc, od, kV, doc, pm, an, ct, osl, ho, hcd⟩ := T.fn
  obtain ⟨nm, q, N, bs, bm, sn, sub, ab, col, dd, k0, k1, k2, k3, k5, hC, hbm⟩ := T.cls
  obtain ⟨ccl, ccd, csl, hcell⟩ := T.cell
  obtain ⟨fcl, fcd, fvs, fsl, fl, tf, hfile, hf2, hfl⟩ := T.file
  obtain ⟨mb, hmb1, hmb2⟩ := M.blt
  have hcl : PySem.W.clsIn K C = some { name := nm, bases := bs, mro := .ref C :: bm, ns := N, qualname := q, hasDict := true, slotNames := sn, subclasses := sub, abstract := ab, collection := col, hasDel := false } := by unfold PySem.W.clsIn; rw [hC] <;> rfl
  have hxC : x ≠ C := PySem.W.ks_ne (odx := none) X ⟨hx, rfl, rfl, trivial⟩ hcl
  refine ks_codeAny_call_defAt (binds := [("self", .ref x), ("limit", v)]) hroom (X _ _ ho) rfl (M.nolimit.keeps hb) (PySem.W.codeRec_of X hcd) rfl (BindsTo.of_eq (by first | rfl | with_unfolding_all rfl)) tm_noCell (fun y hy => ?_) (fun h₀ hns k => ?_)
  · rcases List.mem_cons.mp hy with rfl | hy
    · rfl
    · rw [List.mem_singleton.mp hy]
      rfl
  have I0 : PySem.W.InstAt h₀ x (excO C t0) C none := ⟨k _ _ hx, rfl, rfl, trivial⟩
  have X0 : K.In h₀ := X.keeps k
  have hb0 : ∀ b o, base.get? b = some o → h₀.get? b = some o := fun b o e => k _ _ (hb _ _ e)
  refine ks_wpAt_execs_cons (ks_wpAt_Expr_any (ks_wpAt_MethodCall (ks_wpAt_super_base (by rfl) (by rfl) (by decide) (by rfl) (X0 _ _ ho) rfl (by rfl) (by rfl) (X0 _ _ hfile) rfl hf2 hfl T.top ?_)))
  refine PySem.W.ks_loadName_global (by rfl) (by rfl) (Calls.loadGlobal_builtin (M.glob.keeps hb0) hms (hmb1.keeps hb0) ((hmb2 _ (by decide)).trans (show bootBuiltins "super" = some (.type "super") by decide +kernel)) ⟨rfl, ?_⟩)
  refine wpAny_loadName_free (by rfl) (by rfl) (by rfl) ⟨_, X0 _ _ hcell, rfl⟩ ?_
  refine wpAny_loadName_local (by rfl) (by rfl) hns (by rfl) ?_
  refine ks_wpAny_isType_cls (X0 _ _ hC) rfl ⟨rfl, ?_⟩
  refine ks_wpAny_call_super (X0 _ _ hC) rfl I0.at_ rfl (fun c e => by cases e) (PySem.W.looks_mroIn X0 T.own) (fun h1 e1 k1 => ?_)
  have X1 : K.In h1 := X0.keeps k1
  have I1 : PySem.W.InstAt h1 x (excO C t0) C none := ⟨k1 _ _ I0.at_, rfl, rfl, trivial⟩
  have hf : PySem.W.alongIn K "__init__" (((Value.ref C :: bm).dropWhile (· != .ref C)).drop 1) = some (some (.builtin "ValueError.__init__")) := by
    have q := T.sup
    unfold PySem.W.ks_superIn at q
    rwa [hcl] at q
  refine PySem.W.kxs_getMethod PySem.W.kxs_ValueError e1 (PySem.W.looks_opaque X1 T.third) (l₀ := Value.ref C :: bm) (fun A Q E s k q => wpAny_bind ((PySem.W.looks_clsIn X1 hcl) A _ E s k (wpAny_pure q))) rfl X1 hf (I1.type.andThen (PySem.W.looks_subIn X1 T.sve)) hxC (by decide) ?_
  refine PySem.W.kxs_callWith (i := "ValueError.__init__") (x := x) (by rfl) (Calls.evalArgs_plain (PyProof.Rows.args_cons (Calls.Constant_str (PyProof.Rows.args_nil ⟨?_, ?_⟩)) (by rfl)))
  · exact Heap.get?_push_at rfl rfl
  have k2 : ∀ b o, h1.get? b = some o → (h1.push (PySem.W.kxs_mw "ValueError.__init__" x)).get? b = some o := fun b o e => Heap.get?_push_of_some _ e
  refine call_veb (k2 _ _ (X1 _ _ hC)) (k2 _ _ I1.at_) (Heap.get?_push_at rfl rfl) (by show 1 ≤ _; rw [sizeLine_eq]; decide) fun h3 t1 k3 hx3 => ?_
  have kk : ∀ b o, b ≠ x → s.heap.get? b = some o → h3.get? b = some o := fun b o n e => k3 b o n (k2 _ _ (k1 _ _ (k _ _ e)))
  have X3 : K.In h3 := fun a o e => kk a o (fun z => by rw [z, hnx] at e; cases e) (X _ _ e)
  have hn3 : h3.Ns s.heap.objs.size (fun y => ([("self", Value.ref x), ("limit", v)] : List (Str × Value)).reverse.lookup y) := hns.at fun o q => k3 _ _ (Nat.ne_of_gt (Heap.lt_size hx)) (k2 _ _ (k1 _ _ q))
  refine wpAt_of_wpAny (wpAny_execs_cons (plainObj_wpAny_Assign_Attribute ?_))
  refine wpAny_Name (wpAny_loadName_local (by rfl) (by rfl) hn3 (by rfl) ?_) (by decide)
  refine wpAny_Name (wpAny_loadName_local (by rfl) (by rfl) hn3 (by rfl) ?_) (by decide)
  refine PySem.W.set_plain X3 (ox := excO C t1) (od := none) ⟨hx3, rfl, rfl, trivial⟩ T.sa ?_
  refine exc_osa X3 hx3 hcl (show refsVE (.ref C :: bm) = true from hbm) rfl T.noN (fun h4 tk4 dx k4 dn dne hx4 hn4 => ?_)
  exact wpAny_execs_nil (hq h4 tk4 dx t1 ⟨fun b o n e => k4 b o n (kk b o n e), Nat.le_of_lt (Nat.lt_of_lt_of_le hn3.lt dn), dne, hn4, hx4⟩)
/-- a made TooMany -/
structure TmMade (h h' : Heap) (e C d : Addr) (v : Value) : Prop where
  keep : ∀ b o, h.get? b = some o → h'.get? b = some o
  new : h.objs.size ≤ e
  dbig : h.objs.size ≤ d
  dne : d ≠ e
  ns : h'.Ns1 d (fun y => if y = "limit" then some v else none)
  obj : ∃ t1, h'.get? e = some { cls := .ref C, dict := some d, data := .fields #[.ref t1, .none, .none, .none, .bool false, .none] }
theorem tm_made (T : TmX prog K mg C fI cc cda) {base : Heap} {v : Value} (M : Mod K mg base) (hb : ∀ b o, base.get? b = some o → s.heap.get? b = some o) (hms : mg "super" = none) (hroom : A.depth + 1 < recursionLimit)
    (hq : ∀ h' tk e d, TmMade s.heap h' e C d v → R (.ok (.ret (.ref e))) { s with heap := h', toks := tk }) : codeAny (model prog w) A (.call (.ref C) ⟨[v], []⟩) R s := by
  have X : K.In s.heap := fun a o e => hb _ _ (M.kin a o e)
  obtain ⟨nm, q, N, bs, bm, sn, sub, ab, col, dd, k0, k1, k2, k3, k5, hC, hbm⟩ := T.cls
  obtain ⟨hp, g, dr, tk, os⟩ := s
  have k : ∀ b o, hp.get? b = some o → ((hp.push (PySem.W.kdv_tup [v])).push (excO C hp.objs.size)).get? b = some o := fun b o e => Heap.get?_push_of_some _ (Heap.get?_push_of_some _ e)
  have hget : ((hp.push (PySem.W.kdv_tup [v])).push (excO C hp.objs.size)).get? (hp.objs.size + 1) = some (excO C hp.objs.size) := by heap_get
  have hnx : K.lookup (hp.objs.size + 1) = none := by
    cases e : K.lookup (hp.objs.size + 1) with
    | none => rfl
    | some o => exact absurd (Nat.lt_of_succ_lt (Heap.lt_size (show hp.get? (hp.objs.size + 1) = some o from X _ _ e))) (Nat.lt_irrefl _)
  refine call_own F.excBase_ValueError (fun X => refsVE_contains X bm hbm) (X _ _ hC) (PySem.W.looks_findIn X T.iC) (fun self => PySem.W.bind_fn X self T.tI) (by show 1 ≤ _; rw [sizeLine_eq]; decide) ?_
  refine tm_init (s := ⟨(hp.push (PySem.W.kdv_tup [v])).push (excO C hp.objs.size), g, dr, tk, os⟩) T M (fun b o e => k _ _ (hb b o e)) hms hget hnx (show A.depth + 1 < recursionLimit from hroom) fun h' tk' dx t1 ⟨k', dn, dne, hns, hx⟩ => ?_
  have z : hp.objs.size + 1 + 1 ≤ dx := by
    have q := dn
    rwa [Heap.size_push, Heap.size_push] at q
  exact ⟨rfl, hq h' tk' (hp.objs.size + 1) dx ⟨fun b o e => k' b o (Nat.ne_of_lt (Nat.lt_succ_of_lt (Heap.lt_size e))) (k b o e), Nat.le_succ _, Nat.le_trans (Nat.le_trans (Nat.le_succ _) (Nat.le_succ _)) z, dne, hns, t1, hx⟩⟩
end
section
variable {X : Cx} {st : Sto} {d : D} {pos p : Pos} {W : WX} {cls : Value} {rest : List Stmt} {C fI cc cda : Addr}
theorem relO_limit {v : V} {v' : Value} (r : RelV v v') (f : Str) : RelO (List.lookup f [(("limit" : Str), v)]) (if f = "limit" then some v' else none) := by
  by_cases hw : f = "limit"
  · subst hw
    rw [if_pos rfl, show List.lookup ("limit" : Str) [(("limit" : Str), v)] = some v by simp [List.lookup]]
    exact r
  · have qw : (f == ("limit" : Str)) = false := by simpa using hw
    rw [if_neg hw, show List.lookup f [(("limit" : Str), v)] = none by simp [List.lookup, qw]]
    trivial
theorem hr_raiseTm {y : Str} {i : Nat} {p2 p3 : Pos} {k : Nat} (T : TmX X.prog X.K X.mg C fI cc cda) (hms : X.mg "super" = none) (hr : Room k X.A) (tk : L2N.Takes X W) (hd : st[i]? = some (some (.d d))) (hN : X.N[i]? = some y) (hc : X.calm = true := by rfl) (hg : Gl X "TooMany" := by rfl)
    (hv : Vis X.env.scope y := by first | exact Or.inl rfl | exact Or.inr (Or.inl rfl) | exact Or.inr (Or.inr rfl)) (hdy : (y == ("__debug__" : Str)) = false := by decide) (hcy : (y == ("__classdict__" : Str)) = false := by decide)
    (he : starEach [.Name y p2] X.env = (false, eval (.Name y p2) X.env) :: starEach [] X.env := by rfl) (hpl : (backTo p3 (starEach [] X.env)).any (·.1) = false := by rfl) :
    HR X W (.ref C) st (.Raise (some (.Call (.Name "TooMany" p) [.Name y p2] [] p3)) none pos :: rest) := hr_cons fun Dn Bf B0 H0 σ H o q => by
  obtain ⟨B, sm, f, l, g, n, up⟩ := o.nx
  obtain ⟨v, hv1, hv2⟩ := l.2 i _ hd
  refine WS.of (L2N.ps_raise (t := fun σ H Q => σ[i]? = some (some v) ∧ ∀ d, H d = none → Q (.ref C) (some d) (upd H d (.xd [(("limit" : Str), v)]))) hc tk fun pins s σ H Q I h => ?_) ⟨hv1, fun d hd => q (some d) σ (upd B d (.xd [(("limit" : Str), v)])) _ ⟨_, upd_same⟩ (n.trans (Nx.new sm hd))⟩
  refine wpAny_Call_Name_kw (ld_glob I hg T.g ?_)
  refine PySem.W.callWith_K (h₀ := X.base) I.ok.mod.kin T.k (thn ((pa_cons (pe_var hN hv hdy hcy) pa_nil he).run p3 pins s σ H (fun vs H1 => vs = [v] ∧ H1 = H) I ⟨v, h.1, rfl, rfl⟩) fun us s1 hh => ?_) he hpl
  obtain ⟨vs, H1, I1, r1, ev, eH⟩ := hh
  subst ev eH
  refine ⟨I1.kIn, ?_⟩
  cases r1 with
  | cons rv rn =>
    rename_i v' us'
    cases rn
    obtain ⟨hp, g', dr, tk', os⟩ := s1
    refine wpAny_call (tm_made T I1.ok.mod I1.bk hms (by have := hr.dp; omega) fun h' tk2 e d M => ?_)
    show L2N.MkP X pins σ Q (.ref e) ⟨h', g', dr, tk2, os⟩
    obtain ⟨t1, hobj⟩ := M.obj
    obtain ⟨G', g1, g2⟩ := restrict h' fun b => decide (b ≠ e)
    have gk : ∀ b, b ≠ e → G'.get? b = h'.get? b := fun b hb => g1 b (decide_eq_true hb)
    have ge : G'.get? e = none := g2 e (by simp)
    have old : ∀ b o, hp.get? b = some o → G'.get? b = some o := fun b o q => (gk b (Nat.ne_of_lt (Nat.lt_of_lt_of_le (Heap.lt_size q) M.new))).trans (M.keep b o q)
    have hns := M.ns
    have ob : ObjOk X.prog X.w (upd H1 d (.xd [(("limit" : Str), v)])) G' d (.xd [(("limit" : Str), v)]) := ⟨_, hns.at (fun o q => (gk d M.dne).trans q), fun f => relO_limit rv f⟩
    have J : Inv X pins σ (upd H1 d (.xd [(("limit" : Str), v)])) ⟨G', g', dr, tk2, os⟩ := I1.laid (t' := tk2) old M.dbig ob
    refine ⟨e, _, _, ⟨G', g', dr, tk2, os⟩, _, .ref C, some d, rfl, J, fun b o q => ?_, ge, hobj, ⟨rfl, rfl, fun vs e => by cases e; rfl⟩, rfl, rfl, ?_, rfl, I1.bare, raises_own T.s T.t, h.2 d (I1.hok.fresh M.dbig)⟩
    · by_cases hb : b = e
      · have q' : G'.get? b = some o := q
        rw [hb, ge] at q'; cases q'
      · exact (gk b hb).symm.trans q
    · rw [upd_ne (Ne.symm M.dne)]
      exact I1.hok.fresh M.new
end
end K45
set_option maxHeartbeats 4000000
namespace K45
open PySem PySem.Spec PyProof.Rows L2
section
variable {P : Program} {w : World} {K : PySem.W.Frag} {mg : Str → Option Value} {base : Heap} {C : Addr}
abbrev G_nbad (C : Addr) (ds : List D) (cls : Value) : Prop := ∃ v : D, NoDict v ∧ fitsB v = false ∧ ds = [v] ∧ cls = .ref C
theorem okr_need_order (c1 : Cl P w K mg base 2 "fits_order" ["value"] G_fits) (O : OwnX K mg "InvalidOrder" C) (F : Df K mg "need_order" s_need_order ["value"]) : ClR P w K mg base 3 "need_order" ["value"] (G_nbad C) := by
  refine F.okR sc_need_order (fun ds cls h => ?_) (fun f cdv A outer s H E ds cls hr h tk => ?_)
  · obtain ⟨v, _, _, rfl, rfl⟩ := h
    rfl
  · obtain ⟨v, h1, h2, rfl, rfl⟩ := h
    refine hr_if (ET.is (et_not (et_of (ed_cl c1 hr (eds_1 (ed_var 0)) ⟨v, h1, rfl, rfl⟩))) (by rw [h2]; rfl)) ?_
    exact hr_raise O tk
theorem okr_is_smooth (c1 : ClR P w K mg base 3 "need_order" ["value"] (G_nbad C)) (F : Df K mg "is_smooth" s_is_smooth ["order"]) : ClR P w K mg base 4 "is_smooth" ["order"] (G_nbad C) := by
  refine F.okR sc_is_smooth (fun ds cls h => ?_) (fun f cdv A outer s H E ds cls hr h tk => ?_)
  · obtain ⟨v, _, _, rfl, rfl⟩ := h
    rfl
  · obtain ⟨v, h1, h2, rfl, rfl⟩ := h
    exact hr_call c1 hr tk (eds_1 (ed_var 0)) ⟨v, h1, h2, rfl, rfl⟩
theorem okr_sizes_below (c1 : ClR P w K mg base 3 "need_order" ["value"] (G_nbad C)) (F : Df K mg "sizes_below" s_sizes_below ["order"]) : ClR P w K mg base 4 "sizes_below" ["order"] (G_nbad C) := by
  refine F.okR sc_sizes_below (fun ds cls h => ?_) (fun f cdv A outer s H E ds cls hr h tk => ?_)
  · obtain ⟨v, _, _, rfl, rfl⟩ := h
    rfl
  · obtain ⟨v, h1, h2, rfl, rfl⟩ := h
    exact hr_call c1 hr tk (eds_1 (ed_var 0)) ⟨v, h1, h2, rfl, rfl⟩
/-- the orders that are none -/
theorem bad_all : ∀ v ∈ badL, NoDict v ∧ fitsB v = false := by
  intro v hv
  have q : (badL.all fun v => !fitsB v) = true := by decide +kernel
  have q2 := List.all_eq_true.mp q v hv
  rw [Bool.not_eq_true'] at q2
  refine ⟨?_, q2⟩
  simp only [badL, List.mem_cons, List.not_mem_nil, or_false] at hv
  rcases hv with rfl | rfl | rfl | rfl | rfl | rfl | rfl | rfl | rfl | rfl | rfl | rfl | rfl
  all_goals refine ⟨by decide, fun xs e x hx => ?_⟩
  all_goals first | (cases e; done) | skip
  all_goals (injection e with e; subst e)
  all_goals first
    | (simp only [List.mem_cons, List.not_mem_nil, or_false] at hx
       rcases hx with rfl | rfl <;> decide)
    | (simp only [List.mem_cons, List.not_mem_nil, or_false] at hx
       subst hx
       decide)
    | (cases hx; done)
    | (obtain ⟨i, _, rfl⟩ := List.mem_map.mp hx
       show "int" ≠ "dict"
       decide)
end
end K45
set_option maxHeartbeats 4000000
namespace K45
open PySem PySem.Spec PyProof.Rows L2
section
variable {P : Program} {w : World} {K : PySem.W.Frag} {mg : Str → Option Value} {base : Heap} {C fI cc cda : Addr}
abbrev G_fewbad (C : Addr) (ds : List D) (cls : Value) : Prop := ∃ n l : Int, l < n ∧ ds = [.int n, .int l] ∧ cls = .ref C
theorem okr_need_few (T : Fr mg) (O : TmX P K mg C fI cc cda) (F : Df K mg "need_few" s_need_few ["many", "limit"]) : ClR P w K mg base 1 "need_few" ["many", "limit"] (G_fewbad C) := by
  refine F.okR sc_need_few (fun ds cls h => ?_) (fun f cdv A outer s H E ds cls hr h tk => ?_)
  · obtain ⟨n, l, _, rfl, rfl⟩ := h
    rfl
  · obtain ⟨n, l, h1, rfl, rfl⟩ := h
    refine hr_if (ET.is (et_gtI (ed_var 0) (ed_var 1)) (decide_eq_true h1)) ?_
    exact hr_raiseTm (i := 1) O T.sup hr tk rfl rfl
abbrev G_toomany (C : Addr) (ds : List D) (cls : Value) : Prop := ∃ o : List Int, IsOrd o ∧ 6 < o.length ∧ ds = [oD o] ∧ cls = .ref C
theorem okr_sizes_many (T : Fr mg) (c1 : Cl P w K mg base 3 "need_order" ["value"] G_need) (c2 : ClR P w K mg base 1 "need_few" ["many", "limit"] (G_fewbad C)) (F : Df K mg "sizes_below" s_sizes_below ["order"]) : ClR P w K mg base 4 "sizes_below" ["order"] (G_toomany C) := by
  refine F.okR sc_sizes_below (fun ds cls h => ?_) (fun f cdv A outer s H E ds cls hr h tk => ?_)
  · obtain ⟨o, _, _, rfl, rfl⟩ := h
    rfl
  · obtain ⟨o, ho, hl, rfl, rfl⟩ := h
    obtain ⟨tt, ht⟩ := T.few
    refine hr_expr (ed_cl c1 hr (eds_1 (ed_var 0)) ⟨o, ho, rfl, rfl⟩) ?_
    exact hr_call c2 hr tk (eds_cons (ed_lenO T.len (ed_var 0)) (eds_1 (ed_globI ht))) ⟨_, _, by omega, rfl, rfl⟩
end
end K45
set_option maxHeartbeats 4000000
/-! Within an except suite: zip of two lists, list comprehensions. -/
namespace K45
open PySem PySem.Spec PyProof.Rows L2 HotX
section
variable {prog : Program} {w : World} {A : Around} {E : Value → Shared → Prop} {s : Shared}
theorem list_over_hot {it l x1 : Addr} {i : Nat} {items : Array Value} {Q : Value → Shared → Prop} (hot : HotAt A x1 s.heap) (ne : x1 ≠ it) (hit : s.heap.IsListIter it l i) (hl : s.heap.IsList l items) (hx : items[i]? = none)
    (fin : ∀ h' e, Heap.ExtBut it s.heap h' → (∃ o, h'.get? e = some o ∧ o.cls = .type "StopIteration") → E (.ref e) { s with heap := h' }) : wpAny (model prog w) A (Builtin.SmallTypes.nextOf (.ref it)) Q E s := by
  obtain ⟨o, ho, hc, hd⟩ := id hit
  obtain ⟨ol, hol, _, nl, hdl⟩ := hl
  obtain ⟨hh, o1, vs1, g1, d1, c1⟩ := hot
  unfold Builtin.SmallTypes.nextOf
  refine wpAny_bind (wpAny_callSpecial?_slot (name := Str.ofString "__next__") hit.typeIs slot_listiter_next (wpAny_call_entry slot_listiter_next hit.typeIs entry_listiter_next ?_ (args_listiter_next _)))
  show wpAny _ _ (field (Value.ref it) 0 >>= _) _ _ s
  refine wpAny_bind (wpAny_field ho hd (x := Value.ref l) rfl ?_)
  show wpAny _ _ (if (Value.ref l == Value.none) = true then _ else _) _ _ s
  rw [if_neg (show ¬((Value.ref l == Value.none) = true) from Bool.false_ne_true)]
  show wpAny _ _ (field (Value.ref it) 1 >>= _) _ _ s
  refine wpAny_bind (wpAny_field ho hd (x := Value.int i 0) rfl ?_)
  show wpAny _ _ (seqItems? (Value.ref l) >>= _) _ _ s
  refine wpAny_bind (wpAny_seqItems hol hdl ?_)
  simp only [Int.toNat_natCast, hx]
  refine wpAny_bind (wpAny_rule (wpAny_bind (wpAny_setField ho hd (by simp) ?_)))
  show wpAny _ _ (newExc (.type "StopIteration") [] >>= _) _ _ _
  refine wpAny_bind ?_
  simp only [newExc, newTuple]
  refine wpAny_bind (wpAny_newObj_type ?_ (by size_fits))
  refine wpAny_bind (m := firstArgMember _ _) (wpAny_of_eq (a := Value.none) (by first | rfl | (simp only [firstArgMember]; rfl)) ?_)
  refine wpAny_newObj_type ?_ (by size_fits)
  have g2 : (s.heap.update it (Obj.mapFields (·.setIfInBounds 0 .none))).get? x1 = some o1 := (Heap.get?_update_other _ _ (Ne.symm ne)).trans g1
  refine raiseNew_hot (x1 := x1) ⟨hh, o1, vs1, Heap.get?_push_of_some _ (Heap.get?_push_of_some _ g2), d1, c1⟩ (Nat.ne_of_lt (Heap.lt_size (Heap.get?_push_of_some _ g2))) (Heap.get?_push_size _ rfl) rfl (by first | (simp; done) | (simp; omega)) ?_
  refine fin _ _ (fun b u hb e => ?_) ⟨_, Heap.get?_update_self _ (Heap.get?_push_size _ rfl) rfl, rfl⟩
  have e2 : (s.heap.update it (Obj.mapFields (·.setIfInBounds 0 .none))).get? b = some u := (Heap.get?_update_other _ _ (Ne.symm hb)).trans e
  rw [Heap.get?_update_other _ _ (Nat.ne_of_gt (Heap.lt_size (Heap.get?_push_of_some _ e2)))]
  exact Heap.get?_push_of_some _ (Heap.get?_push_of_some _ e2)
/-- zip of two lists of one length, at its end -/
theorem zip_over_hot {z TI TO i1 i2 l1 l2 x1 : Addr} {k1 : Nat} {xs : Array Value} {a b : Value} {Q : Option Value → Shared → Prop} (hot : HotAt A x1 s.heap) (nz : x1 ≠ z) (ni : x1 ≠ i1) (D : ZipApart z TI TO i1 i2 l1 l2) (hz : IsZip s.heap z TI TO .none) (hTI : IsPair s.heap TI (.ref i1) (.ref i2)) (hTO : IsPair s.heap TO a b)
    (h1 : s.heap.IsListIter i1 l1 k1) (hl1 : s.heap.IsList l1 xs) (hend : xs[k1]? = none) (fin : ∀ h', (∀ c o, c ≠ z → c ≠ i1 → s.heap.get? c = some o → h'.get? c = some o) → Q none { s with heap := h' }) : wpAny (model prog w) A (pyNext (.ref z)) Q E s := by
  have ty : s.TypeIs (.ref z) "zip" := ⟨_, hz, rfl⟩
  unfold pyNext
  refine wpAny_bind (wpAny_attempt (wpAny_callSpecial?_slot (name := Str.ofString "__next__") ty F.slot_zip_next (wpAny_call_entry F.slot_zip_next ty F.entry_zip_next ?_ (F.args_zip_next_1 _))))
  show wpAny _ _ (field (Value.ref z) 2 >>= _) _ _ _
  refine wpAny_bind (wpAny_field hz rfl (x := Value.bool false) rfl ?_)
  show wpAny _ _ (field (Value.ref z) 3 >>= _) _ _ _
  refine wpAny_bind (wpAny_field hz rfl (x := Value.ref TI) rfl (wpAny_bind (wpAny_seqItems hTI rfl ?_)))
  show wpAny _ _ (Builtin.SmallTypes.ownedTupleIsFree (Value.ref z) >>= _) _ _ _
  refine wpAny_bind ?_
  unfold Builtin.SmallTypes.ownedTupleIsFree
  refine wpAny_bind (wpAny_field hz rfl (x := Value.none) rfl (wpAny_pure ?_))
  simp only [if_true]
  refine wpAny_bind (wpAny_rule (wpAny_bind (wpAny_field hz rfl (x := Value.ref TO) rfl (wpAny_bind (wpAny_setField_rec hz (by simp) fun h2 hz2 same2 => ?_)))))
  replace hz2 : IsZip h2 z TI TO .ellipsis := hz2
  refine wpAny_bind ?_
  simp only [List.zipIdx_cons, List.zipIdx_nil, List.forIn_cons, List.forIn_nil]
  refine wpAny_bind (wpAny_bind (wpAny_onRaise ?_))
  show wpAny _ _ (Builtin.SmallTypes.nextOf (Value.ref i1) >>= _) _ _ _
  obtain ⟨hh, o1, vs1, g1, d1, c1⟩ := hot
  refine wpAny_bind (list_over_hot (x1 := x1) ⟨hh, o1, vs1, same2.extBut _ _ nz g1, d1, c1⟩ ni (h1.extBut same2.extBut D.i1z) (hl1.extBut same2.extBut D.l1z) hend fun h3 e same3 ⟨oe, hoe, hce⟩ => ?_)
  have hz3 : IsZip h3 z TI TO .ellipsis := same3 _ _ D.i1z.symm hz2
  have hez : e ≠ z := fun q => by
    subst q
    rw [hz3] at hoe
    cases hoe
    simp at hce
  refine wpAny_setField_rec hz3 (by simp) fun h4 _ same4 => ?_
  refine wpAny_bind (wpAny_isInstance (T := "StopIteration") (b := true) ⟨oe, same4.extBut _ _ hez hoe, hce⟩ isSubtype_stop (wpAny_pure (fin _ fun c o n1 n2 q => same4.extBut _ _ n1 (same3 _ _ n2 (same2.extBut _ _ n1 q)))))
end
/-- the walk of a zip while an exception is handled: the first list ends first -/
def ItzH (K : PySem.W.Frag) (a b : Addr) : It := { Itz K a b with stop := fun i H => ∃ xs ys : List V, SqL K H a xs ∧ SqL K H b ys ∧ xs.length ≤ i }
theorem fp5 {c z TI TO i1 i2 : Addr} (h : c ∈ [z, TI, TO, i1, i2]) : c = z ∨ c = TI ∨ c = TO ∨ c = i1 ∨ c = i2 := by simpa using h
theorem turn_zipH {P : Program} {w : World} {K : PySem.W.Frag} {elts : List Expr} {kk : Nat} {tpos : Pos} {a b z TI TO i1 i2 : Addr} (D : ZipApart z TI TO i1 i2 a b) :
    L2H.TurnH P w K (.Tuple elts kk tpos) (ItzH K a b) [z, TI, TO, i1, i2] z (fun i h => IsZip h z TI TO .none ∧ IsPair h TI (.ref i1) (.ref i2) ∧ (∃ x y, IsPair h TO x y) ∧ h.IsListIter i1 a i ∧ h.IsListIter i2 b i) where
  mem := List.mem_cons_self
  obj := (turn_zip (P := P) (w := w) (K := K) (elts := elts) (kk := kk) (tpos := tpos) D).obj
  keep := (turn_zip (P := P) (w := w) (K := K) (elts := elts) (kk := kk) (tpos := tpos) D).keep
  self := (turn_zip (P := P) (w := w) (K := K) (elts := elts) (kk := kk) (tpos := tpos) D).self
  done := by
    intro X eP ew eK hot i pins s σ H E I hf ⟨hz, hTI, ⟨x0, y0, hTO⟩, h1, h2⟩ ⟨xs, ys, hqx, hqy, over⟩
    subst eP ew eK
    obtain ⟨p, ⟨hA, vs, hd, hc⟩, hp⟩ := hot
    have pin := (I.pin p (List.mem_append_left _ hp)).1
    have off : ∀ c ∈ [z, TI, TO, i1, i2], p.1 ≠ c := fun c hc => (hf c hc).2.2.2.2.2 p (List.mem_append_left _ hp)
    obtain ⟨its, rv, pl, _⟩ := I.list hqx
    have l1 := rv.length
    exact zip_over_hot (x1 := p.1) ⟨hA, p.2, vs, pin, hd, hc⟩ (off z (by simp)) (off i1 (by simp)) D hz hTI hTO h1 pl.isList (by simp; omega) fun h' ke => ⟨rfl, I.turnedL (t' := s.toks) (ch := [z, TI, TO, i1, i2]) (fun c o nb e => ke c o (fun q => nb (by simp [q])) (fun q => nb (by simp [q])) e) hf⟩
  item := by
    intro X eP ew eK hot i pins s σ H E I hf ⟨hz, hTI, ⟨x0, y0, hTO⟩, h1, h2⟩ ⟨xs, ys, x, y, hqx, hqy, hx, hy⟩
    subst eP ew eK
    obtain ⟨its, rv, pl, _⟩ := I.list hqx
    obtain ⟨its2, rv2, pl2, _⟩ := I.list hqy
    obtain ⟨u, hu, ru⟩ := rv.get hx
    obtain ⟨u2, hu2, ru2⟩ := rv2.get hy
    have below : ∀ c ∈ [z, TI, TO, i1, i2], c < s.heap.objs.size := fun c hc => by
      rcases fp5 hc with q | q | q | q | q
      · rw [q]; exact Heap.lt_size hz
      · rw [q]; exact Heap.lt_size hTI
      · rw [q]; exact Heap.lt_size hTO
      · rw [q]; obtain ⟨_, e1, _⟩ := h1; exact Heap.lt_size e1
      · rw [q]; obtain ⟨_, e2, _⟩ := h2; exact Heap.lt_size e2
    have zb := below z List.mem_cons_self
    refine wpAny_pyNext_zip_item D hz hTI hTO h1 h2 pl.isList pl2.isList (x := u) (y := u2) (by simpa using hu) (by simpa using hu2) fun h3 z3 TO3 h13 h23 hT hsz hk => ?_
    refine ⟨_, rfl, wpAny_letOwnedTupleGo_zip (s := { s with heap := h3 }) z3 fun h4 z4 same => ?_⟩
    have hT4 : h4.get? s.heap.objs.size = some { cls := .type "tuple", data := .seq #[u, u2] } := (same.2 _ (Nat.ne_of_gt zb)).trans hT
    have new : ObjOk X.prog X.w (upd H s.heap.objs.size (.tup [x, y])) h4 s.heap.objs.size (.tup [x, y]) := ⟨by show 2 ≤ sizeLine; decide, [u, u2], .cons ru (.cons ru2 .nil), ⟨_, hT4, rfl, _, rfl⟩⟩
    have J : Inv X pins σ (upd H s.heap.objs.size (.tup [x, y])) { s with heap := h4 } := I.turnedNew (t' := s.toks) (ch := [z, TI, TO, i1, i2]) (fun c o nb e =>
      (same.2 c (fun q => nb (by simp [q]))).trans (hk c o (fun q => nb (by simp [q])) (fun q => nb (by simp [q])) (fun q => nb (by simp [q])) (fun q => nb (by simp [q])) e)) hf (Nat.le_refl _) new
    refine ⟨.ref s.heap.objs.size, _, J, rfl, ⟨_, x, y, rfl, I.hok.fresh (Nat.le_refl _), rfl, fun l hl => by rw [I.list_inj hl hqx]; exact hx, fun l hl => by rw [I.list_inj hl hqy]; exact hy⟩, ⟨z4, ?_, ⟨u, u2, ?_⟩, ?_, ?_⟩, fun c hc => ?_⟩
    · exact (same.2 _ D.TIz).trans (hk _ _ D.TIz D.TITO D.TIi1 D.TIi2 hTI)
    · exact (same.2 _ D.TOz).trans TO3
    · exact h13.at fun o q => (same.2 _ D.i1z).trans q
    · exact h23.at fun o q => (same.2 _ D.i2z).trans q
    · rw [upd_ne (Nat.ne_of_lt (below c hc))]
      exact (hf c hc).1
def iZipH (K : PySem.W.Frag) (ta : TA) : TI := fun σ H R => ta σ H fun vs H1 => ∃ a b xs ys, vs = [.ref a, .ref b] ∧ SqL K H1 a xs ∧ SqL K H1 b ys ∧ R (ItzH K a b) H1
theorem pi_zipH {X : Cx} {e e2 : Expr} {ta : TA} {p pos tpos : Pos} {elts : List Expr} {kk : Nat} (hg : Gl X "zip") (hm : X.mg "zip" = none) (ha : PA X [e, e2] ta) (hs : starEach [e, e2] X.env = (false, eval e X.env) :: starEach [e2] X.env := by rfl)
    (hpl : (backTo pos (starEach [e2] X.env)).any (·.1) = false := by rfl) : L2H.PIH X (.Tuple elts kk tpos) (.Call (.Name "zip" p) [e, e2] [] pos) (iZipH X.K ta) := by
  refine ⟨fun pins s σ H R I h => ?_⟩
  refine Call_ (ld_blt I hg hm PyProof.Rows.boot_zip (PyProof.Rows.callWith_type1 (thn (ha.run pos pins s σ H _ I h) fun us s1 ⟨vs, H1, I1, r1, q1⟩ => ?_) hs hpl))
  obtain ⟨a, b, xs, ys, ex, hqx, hqy, q⟩ := q1
  subst ex
  cases r1 with
  | cons r rr =>
    cases rr with
    | cons r' rr =>
      cases rr
      cases r
      cases r'
      obtain ⟨its, rv, p1, _⟩ := I1.list hqx
      obtain ⟨its2, rv2, p2, _⟩ := I1.list hqy
      refine call_zip_2 p1.isList p2.isList fun h' hz hTI hTO h1 h2 hsz hk => wpAny_pyIter_zip hz ?_
      have I2 : Inv X pins σ H1 { s1 with heap := h' } := I1.kept (t' := s1.toks) hk
      refine ⟨s1.heap.objs.size + 4, [s1.heap.objs.size + 4, s1.heap.objs.size + 2, s1.heap.objs.size + 3, s1.heap.objs.size, s1.heap.objs.size + 1], _, _, H1, rfl, I2, turn_zipH (PySem.W.ktu_apart s1.heap.objs.size a b p1.lt p2.lt), ⟨hz, hTI, ⟨_, _, hTO⟩, h1, h2⟩, fun c hcm => ?_, q⟩
      have le : s1.heap.objs.size ≤ c := by
        rcases fp5 hcm with q | q | q | q | q
        · rw [q]; exact Nat.le_add_right _ _
        · rw [q]; exact Nat.le_add_right _ _
        · rw [q]; exact Nat.le_add_right _ _
        · rw [q]; exact Nat.le_refl _
        · rw [q]; exact Nat.le_add_right _ _
      exact I1.fpOk le (I1.hok.fresh le)
end K45
set_option maxHeartbeats 4000000
/-! List comprehensions within an except suite. -/
namespace K45
open PySem PySem.Spec PyProof.Rows L2 HotX
abbrev hblk (X : Cx) (p : Addr × Obj) (s : Shared) (H : Hp) (scope : Scope) (ce : Env) (fp : List Addr) : Cx := (X.blk s H scope ce fp).tr ((X.blk s H scope ce fp).pn ++ [p]) fun _ _ => False
section
variable {X : Cx}
/-- [elt for tg in iter if c] where the exception p is handled -/
theorem pe_lcH {elt tg iter : Expr} {ifs : List Expr} {scope : Scope} {own : List (Str × Nat)} {pos : Pos} {wi : TI} {g : TG} {tt : TT} {te : TE} (p : Addr × Obj) (h1 : L2H.Hot1 X.A p) (hp : p ∈ X.pn) (hN : X.N.Nodup) (hi : L2H.PIH X tg iter wi) (ok : BlkOk X.N X.env.scope scope own)
    (hg : ∀ (s : Shared) (H : Hp) (C : Addr) (cl : List (Str × Addr)) (fp : List Addr), PG (hblk X p s H scope (compEnvC scope cl C X.env) fp) tg g) (ht : ∀ (s : Shared) (H : Hp) (C : Addr) (cl : List (Str × Addr)) (fp : List Addr), PTs (hblk X p s H scope (compEnvC scope cl C X.env) fp) ifs tt)
    (he : ∀ (s : Shared) (H : Hp) (C : Addr) (cl : List (Str × Addr)) (fp : List Addr), PE (hblk X p s H scope (compEnvC scope cl C X.env) fp) elt te) (hs : ∀ x, foldedSetIterable iter X.env x = pure x := by intro _; rfl) : PE X (.ListComp elt [⟨tg, iter, ifs, 0⟩] scope pos) (tLc wi g tt te (own.map (·.2))) := by
  refine ⟨fun pins s σ H Q I h => ?_⟩
  rw [eval_ListComp]
  have hfree : ∀ y ∈ scope.names, y.2 = .free → ∃ c, X.env.cells.lookup y.1 = some c := fun y hy e => (ok.free y hy e).elim (fun k => I.ok.has _ (.inl k)) fun k => I.ok.has _ (.inr k)
  refine wpAny_comprehension_free (use := none) rfl hs (closure_ok hfree) ok.kind (fun y hy e => by rw [ok.uniq y hy, e]) (thn (hi.run pins s σ H _ I h) fun xv s1 hx => thn hx fun itv s2 h2 => ?_)
  obtain ⟨it, fp, tn, J, H2, e, I2, T, st2, f2, q⟩ := h2
  subst e
  refine wpAny_newObj_type (newEnv_comp ?_) (by show 0 ≤ sizeLine; decide)
  generalize hD : s2.heap.objs.size = Dl
  obtain ⟨Wv, ⟨m0, w0⟩, turn⟩ := q Dl (I2.hok.fresh (Nat.le_of_eq hD))
  generalize hs3 : ({ s2 with heap := s2.heap.push { cls := .type "list", data := .seq ([] : List Value).toArray } } : Shared) = s3
  have I3 : Inv X pins σ (upd H2 Dl (.lst [])) s3 := by
    rw [← hs3]
    refine I2.laid (t' := s2.toks) (fun b o e => Heap.get?_push_of_some _ e) (Nat.le_of_eq hD) ⟨Nat.zero_le _, [], 0, .nil, ?_⟩
    rw [← hD]
    exact Heap.get?_push_size _ rfl
  have h3 : s3.heap = s2.heap.push { cls := .type "list", data := .seq ([] : List Value).toArray } := by rw [← hs3]
  have f3 : ∀ b ∈ fp, FpOk X pins (upd H2 Dl (.lst [])) b ∧ b < s3.heap.objs.size := fun b hb => by
    obtain ⟨o, eo, _⟩ := T.obj _ _ st2 b hb
    have lt : b < s2.heap.objs.size := Heap.lt_size eo
    refine ⟨⟨?_, (f2 b hb).2⟩, by rw [h3, Heap.size_push]; exact Nat.lt_succ_of_lt lt⟩
    rw [upd_ne (by rw [← hD]; exact Nat.ne_of_lt lt)]
    exact (f2 b hb).1
  have st3 : tn 0 s3.heap := T.keep _ _ _ st2 fun b _ o e => by rw [h3]; exact Heap.get?_push_of_some _ e
  have I4 := block_start I3 ok hN f3
  have pg := hg s3 (upd H2 Dl (.lst [])) s3.heap.objs.size (cellsFrom (s3.heap.objs.size + 1) scope.names (cloFrom X.env.cells scope.names [])) fp
  have pt := ht s3 (upd H2 Dl (.lst [])) s3.heap.objs.size (cellsFrom (s3.heap.objs.size + 1) scope.names (cloFrom X.env.cells scope.names [])) fp
  have pe := he s3 (upd H2 Dl (.lst [])) s3.heap.objs.size (cellsFrom (s3.heap.objs.size + 1) scope.names (cloFrom X.env.cells scope.names [])) fp
  have nfp : ∀ b ∈ fp, (upd H2 Dl (.lst [])) b = none := fun b hb => (f3 b hb).1.1
  show codeAny _ _ (.compStart (.ListComp elt [⟨tg, iter, ifs, 0⟩] scope pos) 0 (.ref it) (.ref Dl) (compEnvC scope (cellsFrom (s3.heap.objs.size + 1) scope.names (cloFrom X.env.cells scope.names [])) s3.heap.objs.size X.env)) (compPost (model X.prog X.w) X.A X.xe none (EP X pins σ Q) (.ref Dl) s3.heap.objs.size) { s3 with heap := pushCells (s3.heap.push { cls := .type "dict", data := .dict #[] }) scope.names }
  generalize hce : compEnvC scope (cellsFrom (s3.heap.objs.size + 1) scope.names (cloFrom X.env.cells scope.names [])) s3.heap.objs.size X.env = ce at I4 pg pt pe ⊢
  have cL : ce.locals = s3.heap.objs.size := by subst hce; rfl
  generalize hH3 : upd H2 Dl (.lst []) = H3 at I3 I4 pg pt pe w0 nfp f3
  generalize hs4 : ({ s3 with heap := pushCells (s3.heap.push { cls := .type "dict", data := .dict #[] }) scope.names } : Shared) = s4 at I4 ⊢
  have kp4 : ∀ b o, s3.heap.get? b = some o → s4.heap.get? b = some o := fun b o e => by rw [← hs4]; exact pushCells_keeps _ _ _ _ (Heap.get?_push_of_some _ e)
  have st4 : tn 0 s4.heap := T.keep _ _ _ st3 fun b _ o e => kp4 b o e
  -- the exception stays pinned
  have pin3 := I3.pin p (List.mem_append_left _ hp)
  have J4 : Inv (X.blk s3 H3 scope ce fp) [p] (wipe σ (own.map (·.2))) H3 s4 := I4.pins_of fun r hr => by
    rw [List.mem_singleton.mp hr]
    refine ⟨kp4 _ _ pin3.1, pin3.2.1, ?_, fun z => ?_, pin3.2.2.2.2⟩
    · show p.1 ≠ ce.locals
      rw [cL]
      exact Nat.ne_of_lt (Heap.lt_size pin3.1)
    · rcases List.mem_cons.mp (I3.stkSub _ z) with z | z
      · exact pin3.2.2.1 z
      · exact pin3.2.2.2.1 z
  have stat : ∀ {σ' : St} {H' : Hp} {s' : Shared}, Inv (hblk X p s3 H3 scope ce fp) [] σ' H' s' → (∀ b ∈ fp, H' b = none) → ∀ b ∈ fp, FpOk (hblk X p s3 H3 scope ce fp) [] H' b := fun {σ' H' s'} I' hn b hb =>
    ⟨hn b hb, (I'.ok.exf b hb).1, I'.ok.exfs b hb, .inl hb, fun x c e => (I'.ok.exf b hb).2 x c e, fun r hr => by
      rw [List.mem_singleton.mp (show r ∈ [p] from hr)]
      exact (f3 b hb).1.2.2.2.2.2 p (List.mem_append_left _ hp)⟩
  have loop : codeAny (model X.prog X.w) X.A (.compLoop (.ListComp elt [⟨tg, iter, ifs, 0⟩] scope pos) 0 (.ref it) (.ref Dl) ce) (compPost (model X.prog X.w) X.A X.xe none (EP X pins σ Q) (.ref Dl) s3.heap.objs.size) s4 := by
    refine compLoop_any (fun n s' => ∃ i H', Inv (hblk X p s3 H3 scope ce fp) [] (wipe σ (own.map (·.2))) H' s' ∧ tn i s'.heap ∧ (∀ b ∈ fp, H' b = none) ∧ Wv i n H') ?_ m0 ⟨0, H3, J4.toTry _, st4, nfp, w0⟩
    rintro n s5 ⟨i, H5, I5, st5, n5, w5⟩
    have hotB : L2H.HotC (hblk X p s3 H3 scope ce fp) := ⟨p, h1, List.mem_singleton.mpr rfl⟩
    have fpt : ∀ b ∈ fp, FpOk (hblk X p s3 H3 scope ce fp) [] H5 b := fun b hb => by
      obtain ⟨q1, q2, q3, q4, q5, q6⟩ := stat I5 n5 b hb
      exact ⟨q1, q2, q3, q4, q5, fun r hr => q6 r (by rw [List.append_nil] at hr; exact hr)⟩
    rcases turn i n H5 w5 with ⟨stop, qq⟩ | ⟨go, Nx, hNx, step⟩
    · refine thnF (T.done (hblk X p s3 H3 scope ce fp) rfl rfl rfl hotB i [] s5 _ H5 (fun _ _ => False) I5 fpt st5 stop) fun r s6 ⟨hr, I6t⟩ => ?_
      subst hr
      have I6 : Inv (hblk X p s3 H3 scope ce fp) [] (wipe σ (own.map (·.2))) H5 s6 := I6t
      have I7 : Inv X pins σ H5 s6 := I3.call' (ch := fp) I6.os I6.base I6.hok I6.bare fun b hb => ⟨(f3 b hb).1.2.2.2.1, (f3 b hb).1.2.1, (f3 b hb).1.2.2.2.2.1, (f3 b hb).1.2.2.2.2.2⟩
      have nC : H5 s3.heap.objs.size = none := by
        have z : H5 ce.locals = none := I6.free
        rwa [cL] at z
      obtain ⟨m, hn, _⟩ := I6.loc
      have hn : s6.heap.Ns ce.locals m := hn
      rw [cL] at hn
      refine ⟨m, hn, fun h'' sb => ?_⟩
      obtain ⟨f0, f1, f2', f3', f4, f5⟩ := I3.fpOk (H' := H5) (Nat.le_refl _) nC
      exact ⟨.ref Dl, H5, I7.turned (t' := s6.toks) (fun b o hb e => (sb.2 b hb).trans e) f0 f1 f3' f4 f5, rfl, qq⟩
    · refine thnF (T.item (hblk X p s3 H3 scope ce fp) rfl rfl rfl hotB i [] s5 _ H5 (fun _ _ => False) I5 fpt st5 go) fun r s6 ⟨u, hr, h6⟩ => ?_
      subst hr
      refine thnF h6 fun _ s7 ⟨x, H7, I7t, r7, y7, st7, n7⟩ => ?_
      have I7 : Inv (hblk X p s3 H3 scope ce fp) [] (wipe σ (own.map (·.2))) H7 s7 := I7t
      have I7' := I7.pinned (stat I7 n7) (T.obj _ _ st7)
      refine thnF (pg.run _ s7 _ H7 x u _ I7' r7 (step x H7 y7)) fun _ s8 ⟨σ8, H8, I8, hw8, q8⟩ => ?_
      refine thnF (pt.run _ s8 σ8 H8 _ I8 q8) fun b s9 ⟨H9, I9, q9⟩ => ?_
      have fin : ∀ {s' : Shared} {H' : Hp}, Inv (hblk X p s3 H3 scope ce fp) ([] ++ pinsAt fp s7.heap) σ8 H' s' → Nx H' → ∃ m, m < n ∧ ∃ i H', Inv (hblk X p s3 H3 scope ce fp) [] (wipe σ (own.map (·.2))) H' s' ∧ tn i s'.heap ∧ (∀ b ∈ fp, H' b = none) ∧ Wv i m H' := fun {s' H'} I' nx => by
        obtain ⟨m', hm, w'⟩ := hNx H' nx
        have kept : ∀ b ∈ fp, ∀ o, s7.heap.get? b = some o → s'.heap.get? b = some o ∧ H' b = none := fun b hb o e => by
          have z := I'.pin (b, o) (List.mem_append_right _ (List.mem_append_right _ (mem_pinsAt hb e)))
          exact ⟨z.1, z.2.1⟩
        refine ⟨m', hm, i + 1, H', (I'.unpinned (pins := [])).weak (by rw [← hw8, wipe_length]) (fun j v e => ?_), T.keep _ _ _ st7 fun b hb o e => (kept b hb o e).1, fun b hb => ?_, w'⟩
        · rw [← hw8] at e
          exact (wipe_some e).1
        · obtain ⟨o, e, _⟩ := T.obj _ _ st7 b hb
          exact (kept b hb o e).2
      cases b with
      | false =>
        simp only [Bool.false_eq_true, if_false] at q9 ⊢
        exact fin I9 q9
      | true =>
        simp only [if_true] at q9 ⊢
        exact thnF (pe.run _ s9 σ8 H9 _ I9 q9) fun z s10 ⟨yv, H10, I10, r10, acc, hD10, hz10, nx⟩ => app_ok (X := hblk X p s3 H3 scope ce fp) I10 hD10 hz10 r10 fun s11 I11 => fin I11 nx
  exact codeAny_compStart_list loop (T.self X.A 0 _ _ _ st4 loop)
end
end K45
set_option maxHeartbeats 4000000
/-! isinstance of the exception that is handled. -/
namespace K45
open PySem PySem.Spec PyProof.Rows L2
/-- isinstance(e, c), e the pinned exception of the class D -/
def rIsX (K : PySem.W.Frag) (D a : Addr) (d : Option Addr) : List V → Hp → VK → Prop := fun xs H Q => ∃ (c : V) (cv : Value) (b : Bool), xs = [.ref a, c] ∧ (∀ u, RelV c u → u = cv) ∧ PySem.W.kitOne K (.ref D) cv = some b ∧ DX d H ∧ Q (.bl b) H
theorem call_isX {X : Cx} {a D : Addr} {oe : Obj} {d : Option Addr} (hp : (a, oe) ∈ X.pn) (C : ExcC X.K D) (hz : oe.cls = .ref D ∧ oe.dict = d) (hf : ∃ vs, oe.data = .fields vs) : CallR X (.builtin "isinstance") (rIsX X.K D a d) := by
  intro pins s σ H xs us Q I r h
  obtain ⟨c, cv, b, rfl, hcv, e, dx, q⟩ := h
  cases r with
  | cons rx rr =>
    cases rr with
    | cons rt rr =>
      cases rr
      cases rx
      have ec := hcv _ rt
      subst ec
      obtain ⟨hget, _⟩ := I.pin (a, oe) (List.mem_append_left _ hp)
      obtain ⟨vs, hv⟩ := hf
      have J : ∃ od, PySem.W.InstAt s.heap a oe D od := by
        obtain ⟨oc, od, oda, osl⟩ := oe
        obtain ⟨h1, h2⟩ := hz
        dsimp only at h1 h2 hv
        subst h1 h2 hv
        cases od with
        | none => exact ⟨none, hget, rfl, rfl, trivial⟩
        | some dd =>
          obtain ⟨fs, hd⟩ := dx
          have ok : ObjOk X.prog X.w H s.heap dd (.xd fs) := I.hok dd _ hd
          obtain ⟨mA, hns, _⟩ := ok
          obtain ⟨o2, ho, _⟩ := lookIn_ns hns
          exact ⟨some o2, hget, rfl, rfl, ho⟩
      obtain ⟨od, J⟩ := J
      have hcl : (PySem.W.clsIn X.K D).isSome = true := by
        obtain ⟨cd, hc, _⟩ := PySem.W.any_some C.hd
        rw [hc]
        rfl
      exact PySem.W.kia_one (PySem.W.kitx_exc (od := od) hcl C.hg C.hk C.hs C.ha C.hn C.ht C.hm) I.kIn J e (fun z => nomatch z) fun tk => ⟨.bl b, H, I.kept (t' := tk) fun _ _ z => z, rfl, q⟩
/-! ### a def that is called with the handled exception -/
open L2H in
/-- called with the exception p that is handled, it keeps the promise sp -/
structure FnE (P : Program) (w : World) (K : PySem.W.Frag) (mg : Str → Option Value) (base : Heap) (k : Nat) (f : Addr) (fd : FuncData) (x : Str) (sp : Addr × Obj → Hp → VK → Prop) : Prop where
  run : ∀ (A : Around) (outer : List Env) (s : Shared) (H : Hp) (args : Args) (Q : VK) (p : Addr × Obj), RoomH k A → Hot1 A p → PinOk outer H s p → Env0 P w K mg base A outer s H → BindsTo s fd args ([x].zip [.ref p.1]) → sp p H Q →
    codeAny (model P w) A (.call (.ref f) args) (CR CX0 outer P w H s Q E0) s
section
open L2H
variable {P : Program} {w : World} {K : PySem.W.Frag} {mg : Str → Option Value} {base : Heap}
theorem fnE_of {k : Nat} {f : Addr} {name qual x : Str} {params : Arguments} {body : List Stmt} {scope : Scope} {dV kV doc pm cdv ct oc : Value} {an od : Option Addr} {osl : Array (Option Value)} {N : List Str} {sp : Addr × Obj → Hp → VK → Prop}
    (lk : K.lookup f = some ⟨oc, od, .func (PySem.W.fnOf name qual params body scope dV kV doc pm an cdv ct), osl⟩) (hcd : PySem.W.codeIn K cdv qual = true) (S : FnScope N [x] scope)
    (hb : ∀ (A : Around) (outer : List Env) (s : Shared) (H : Hp) (Q : VK) (p : Addr × Obj), Hot1 A p → RoomH k (A.deeper (envOfC qual scope s.heap.objs.size f cdv)) → sp p H Q →
      WSs (cxH CX0 P w K mg base N qual scope f cdv A outer s H E0 p) body { nx := fun _ H' => Q .non H', rt := Q } (L2.start N [.ref p.1]) H) :
    FnE P w K mg base (k + 1) f (PySem.W.fnOf name qual params body scope dV kV doc pm an cdv ct) x sp := by
  refine ⟨fun A outer s H args Q p hr hot hpin e0 hbd hsp => ?_⟩
  have inK : K.In s.heap := e0.mod.kin.keeps fun b o e => (e0.bs b o e).1
  have room : s.heap.NoLimit := e0.mod.nolimit.keeps fun b o e => (e0.bs b o e).1
  have kinds : ∀ y ∈ ([x] : List Str).zip [Value.ref p.1], scope.names.lookup y.1 = some .local ∨ (scope.names.lookup y.1 = some .cell ∧ ((cellsFrom (s.heap.objs.size + 1) scope.names []).lookup y.1).isSome = true) := fun ⟨n, v⟩ hy =>
    (S.par n (List.of_mem_zip hy).1).elim .inl fun q => .inr ⟨q, PySem.W.cellsFrom_some _ _ _ (.inl q)⟩
  refine codeAny_call_function hr.depth (inK _ _ lk) rfl S.co S.gen rfl (PySem.W.codeRec_of inK hcd) (hbd _ _ _ _ (wpAny_newFunctionEnv_cells S.kind kinds fun env he s1 c => ?_))
  subst he
  refine ⟨room.keeps c.toInCall.keep, codeAny_func ?_⟩
  have I : Inv (cxH CX0 P w K mg base N qual scope f cdv A outer s H E0 p) [] (L2.start N [.ref p.1]) H s1 := inv_startH S hpin e0 rfl (.cons rfl .nil) c
  refine wpAny_mono (hb A outer s H Q p hot (hr.deeper _) hsp [] s1 I) (fun fl s' hs => ?_) fun e s' hs => hs
  cases fl with
  | ret u =>
    obtain ⟨v, σ', H', J, rv, q⟩ := hs
    exact ⟨v, H', J.os, J.bare, J.base, J.hok, rv, q⟩
  | next =>
    obtain ⟨σ', H', J, q⟩ := hs
    exact ⟨V.non, H', J.os, J.bare, J.base, J.hok, rfl, q⟩
  | brk =>
    obtain ⟨_, _, _, z⟩ := hs
    exact False.elim z
  | cont =>
    obtain ⟨_, _, _, z⟩ := hs
    exact False.elim z
theorem pe_callE {X : Cx} {k : Nat} {f : Addr} {fd : FuncData} {x y : Str} {sp : Addr × Obj → Hp → VK → Prop} {e : Expr} {te : TE} {q pos : Pos} (F : FnE X.prog X.w X.K X.mg X.base k f fd y sp) (p : Addr × Obj) (hr : RoomH k X.A) (h1 : Hot1 X.A p) (hp : p ∈ X.pn) (hg : Gl X x) (hm : X.mg x = some (.ref f)) (hk : PySem.W.keepIn X.K (.ref f) = true)
    (hb : Binds X.K fd [y] []) (he1 : PE X e te) (hdb : (x == ("__debug__" : Str)) = false := by decide) (he : starEach [e] X.env = (false, eval e X.env) :: starEach [] X.env := by rfl) :
    PE X (.Call (.Name x q) [e] [] pos) (fun σ H Q => te σ H fun v H1 => v = .ref p.1 ∧ sp p H1 Q) := by
  refine ⟨fun pins s σ H Q I h => ?_⟩
  refine wpAny_Call_Name_kw (ld_glob I hg hm ?_ hdb)
  refine PySem.W.callWith_K (h₀ := X.base) I.ok.mod.kin hk (thn ((pa_cons he1 pa_nil he).run pos pins s σ H (fun vs H1 => vs = [.ref p.1] ∧ sp p H1 Q) I (by
    show te σ H fun v H1 => ([v] = [V.ref p.1] ∧ sp p H1 Q)
    have q : (fun v H1 => ([v] = [V.ref p.1] ∧ sp p H1 Q)) = fun v H1 => v = .ref p.1 ∧ sp p H1 Q := by
      funext v H1
      simp
    rw [q]
    exact h)) fun us s1 ⟨vs, H1, I1, r, ev, hsp⟩ => ⟨I1.kIn, ?_⟩) he (by rfl)
  subst ev
  cases r with
  | cons ru rn =>
    cases rn
    cases ru
    have b := hb s1 [.ref p.1] I1.kIn rfl
    rw [List.append_nil] at b
    have P1 := I1.pin p (List.mem_append_left _ hp)
    have hpin : PinOk X.stack H1 s1 p := ⟨P1.1, P1.2.1, fun hm => (List.mem_cons.mp (I1.stkSub p.1 hm)).elim P1.2.2.1 P1.2.2.2.1, P1.2.2.2.2⟩
    refine wpAny_call (codeAny_mono (F.run X.A X.stack s1 H1 ⟨[.ref p.1], []⟩ Q p hr h1 hpin I1.env0 b hsp) fun r s' hq => ?_)
    cases r with
    | error e => exact False.elim (show False from hq)
    | ok fl =>
      cases fl with
      | ret u => exact I1.after hq
      | next => exact False.elim hq
      | brk => exact False.elim hq
      | cont => exact False.elim hq
end
end K45
set_option maxHeartbeats 4000000
/-! Within an except suite: a tuple taken apart. -/
namespace K45
open PySem PySem.Spec PyProof.Rows L2 HotX
section
variable {prog : Program} {w : World} {A : Around} {E : Value → Shared → Prop} {s : Shared}
theorem tup_over_hot {it t x1 : Addr} {i : Nat} {items : Array Value} {Q : Option Value → Shared → Prop} (hot : HotAt A x1 s.heap) (ne : x1 ≠ it) (hit : IsTupIter s.heap it t i) (ht : IsTup s.heap t items) (hx : items[i]? = none)
    (fin : ∀ h', Heap.ExtBut it s.heap h' → Q none { s with heap := h' }) : wpAny (model prog w) A (pyNext (.ref it)) Q E s := by
  obtain ⟨o, ho, hc, hd⟩ := id hit
  obtain ⟨ol, hol, _, nl, hdl⟩ := ht
  obtain ⟨hh, o1, vs1, g1, d1, c1⟩ := hot
  have ty : s.TypeIs (.ref it) "tuple_iterator" := ⟨o, ho, hc⟩
  unfold pyNext
  refine wpAny_bind (wpAny_attempt (wpAny_callSpecial?_slot (name := Str.ofString "__next__") ty PySem.F.slot_tuple_iterator_next (wpAny_call_entry PySem.F.slot_tuple_iterator_next ty PySem.F.entry_tuple_iterator_next ?_ (PySem.F.args_tuple_iterator_next_1 _))))
  show wpAny _ _ (field (Value.ref it) 0 >>= _) _ _ s
  refine wpAny_bind (wpAny_field ho hd (x := Value.ref t) rfl ?_)
  show wpAny _ _ (if (Value.ref t == Value.none) = true then _ else _) _ _ s
  rw [if_neg (show ¬((Value.ref t == Value.none) = true) from Bool.false_ne_true)]
  show wpAny _ _ (field (Value.ref it) 1 >>= _) _ _ s
  refine wpAny_bind (wpAny_field ho hd (x := Value.int i 0) rfl ?_)
  show wpAny _ _ (seqItems? (Value.ref t) >>= _) _ _ s
  refine wpAny_bind (wpAny_seqItems hol hdl ?_)
  simp only [Int.toNat_natCast, hx]
  refine wpAny_bind (wpAny_rule (wpAny_bind (wpAny_setField ho hd (by simp) ?_)))
  show wpAny _ _ (newExc (.type "StopIteration") [] >>= _) _ _ _
  refine wpAny_bind ?_
  simp only [newExc, newTuple]
  refine wpAny_bind (wpAny_newObj_type ?_ (by size_fits))
  refine wpAny_bind (m := firstArgMember _ _) (wpAny_of_eq (a := Value.none) (by first | rfl | (simp only [firstArgMember]; rfl)) ?_)
  refine wpAny_newObj_type ?_ (by size_fits)
  have g2 : (s.heap.update it (Obj.mapFields (·.setIfInBounds 0 .none))).get? x1 = some o1 := (Heap.get?_update_other _ _ (Ne.symm ne)).trans g1
  refine raiseNew_hot (x1 := x1) ⟨hh, o1, vs1, Heap.get?_push_of_some _ (Heap.get?_push_of_some _ g2), d1, c1⟩ (Nat.ne_of_lt (Heap.lt_size (Heap.get?_push_of_some _ g2))) (Heap.get?_push_size _ rfl) rfl (by first | (simp; done) | (simp; omega)) ?_
  refine wpAny_bind (wpAny_isInstance (T := "StopIteration") (b := true) ⟨_, Heap.get?_update_self _ (Heap.get?_push_size _ rfl) rfl, rfl⟩ isSubtype_stop (wpAny_pure (fin _ fun b u hb e => ?_)))
  have e2 : (s.heap.update it (Obj.mapFields (·.setIfInBounds 0 .none))).get? b = some u := (Heap.get?_update_other _ _ (Ne.symm hb)).trans e
  rw [Heap.get?_update_other _ _ (Nat.ne_of_gt (Heap.lt_size (Heap.get?_push_of_some _ e2)))]
  exact Heap.get?_push_of_some _ (Heap.get?_push_of_some _ e2)
theorem apart_hot {t x1 : Addr} {items : Array Value} {targets : List (Bool × (Value → Sem Unit))} {Q : Unit → Shared → Prop} (hot : HotAt A x1 s.heap) (ht : IsTup s.heap t items) (hn : targets.length = items.size) (hstar : targets.findIdx? (·.1) = none)
    (fin : ∀ h', Heap.ExtBut s.heap.objs.size s.heap h' → wpAny (model prog w) A (assignInOrder (targets.map (·.2)) items.toList) Q E { s with heap := h' }) : wpAny (model prog w) A (unpack (.ref t) targets) Q E s := by
  obtain ⟨hh, o1, vs1, g1, d1, c1⟩ := hot
  have off : t ≠ s.heap.objs.size := by obtain ⟨o, ho, _⟩ := ht; exact Nat.ne_of_lt (Heap.lt_size ho)
  have ox : x1 ≠ s.heap.objs.size := Nat.ne_of_lt (Heap.lt_size g1)
  unfold unpack
  rw [hn, hstar]
  refine wpAny_bind (wpAny_holding ?_)
  unfold unpackItems
  refine wpAny_bind ?_
  unfold notIterableAtAll
  refine wpAny_bind (wpAny_specialOf ht.typeIs slot_tuple_iter.lookup (wpAny_pure ?_))
  simp only [Bool.false_eq_true, if_false]
  refine wpAny_bind (wpAny_holding (iter_tuple ht (wpAny_bind (wpAny_holding (draw_tuple off items.size 0 _ _ ⟨_, Heap.get?_push_size _ rfl, rfl, rfl⟩ (ht.push _) (by omega) fun h1 hit1 same1 => ?_)))))
  rw [show List.take items.size (List.drop 0 items.toList) = items.toList by rw [List.drop_zero]; exact List.take_of_length_le (by simp), if_neg (by simp)]
  refine wpAny_bind (wpAny_holding (tup_over_hot (x1 := x1) ⟨hh, o1, vs1, same1.extBut _ _ ox (Heap.get?_push_of_some _ g1), d1, c1⟩ ox hit1 ((ht.push _).extBut same1.extBut off) (by simp) fun h2 same2 => ?_))
  simp only [Option.isSome_none, Bool.false_eq_true, if_false]
  exact wpAny_pure (fin h2 fun b o hb e => same2 b o hb (same1.extBut b o hb (Heap.get?_push_of_some _ e)))
end
theorem pg_tupH {X : Cx} {es : List Expr} {k : Nat} {t : TGs} {n : Nat} {pos : Pos} (hot : L2H.HotC X) (h : PGs X es t) (hn : (assignEach es X.env).length = n := by rfl) (hst : (assignEach es X.env).findIdx? (·.1) = none := by rfl) : PG X (.Tuple es k pos) (gTup X.K n t) := by
  refine ⟨fun pins s σ H v u Q I r hw => ?_⟩
  obtain ⟨a, xs, e1, hq, hl, hw⟩ := hw
  subst e1
  cases r
  obtain ⟨its, rv, ht, hz⟩ := I.tuple hq
  obtain ⟨x1, hx⟩ := L2H.HotC.at hot I
  rw [assign_Tuple]
  refine wpAny_bind (wpAny_standAt (apart_hot hx ht (by simp [hn, ← hl, rv.length]) hst fun h' ex => ?_))
  have I1 : Inv X pins σ H { s with heap := h' } := I.kept (t' := s.toks) fun b o e => ex b o (Nat.ne_of_lt (Heap.lt_size e)) e
  exact h.run pins _ σ H xs _ Q I1 (by simpa using rv) hw
end K45
set_option maxHeartbeats 4000000
namespace K45
open PySem PySem.Spec PyProof.Rows L2
def labelsL : List Str := [("order" : Str), ("exchange" : Str), ("row" : Str), ("unlike" : Str), ("many" : Str)]
theorem spl : PySem.Txt.split ("order exchange row unlike many" : Str) (" " : Str) = labelsL := by decide +kernel
def nameOf (bs : List Bool) : Str := PySem.Txt.join (" " : Str) (((labelsL.zip bs).filter (·.2)).map (·.1))
section
variable {X : Cx} {st : Sto} {e e1 e2 : Expr} {pos p p2 p3 : Pos} {K : PySem.W.Frag} {B H : Hp} {d : Option Addr}
theorem DX.up {H H' : Hp} (s : Same H H') (h : DX d H) : DX d H' := by
  cases d with
  | none => trivial
  | some dx =>
    obtain ⟨fs, e⟩ := h
    exact ⟨fs, s _ _ e⟩
/-- the slot that holds the handled exception -/
def IsE (a : Addr) (d : Option Addr) (v : V) (H : Hp) : Prop := v = .ref a ∧ DX d H
theorem IsE.up (a : Addr) (d : Option Addr) : ∀ v H H', Same H H' → IsE a d v H → IsE a d v H' := fun _ _ _ s h => ⟨h.1, h.2.up s⟩
theorem ed_isX {x : Str} {C D : Addr} {b : Bool} {pn : Addr × Obj} (hp : pn ∈ X.pn) (hC : ExcC X.K D) (hz : pn.2.cls = .ref D ∧ pn.2.dict = d) (hf : ∃ vs, pn.2.data = .fields vs) (hm : X.mg "isinstance" = none) (hmx : X.mg x = some (.ref C)) (hk : PySem.W.kitOne X.K (.ref D) (.ref C) = some b) (h : EX X st e (IsE pn.1 d)) (hg : Gl X "isinstance" := by rfl) (hgx : Gl X x := by rfl)
    (hdb : (x == ("__debug__" : Str)) = false := by decide) (he : starEach [e, .Name x p2] X.env = (false, eval e X.env) :: starEach [.Name x p2] X.env := by rfl) (he2 : starEach [.Name x p2] X.env = (false, eval (.Name x p2) X.env) :: starEach [] X.env := by rfl)
    (hpl : (backTo pos (starEach [.Name x p2] X.env)).any (·.1) = false := by rfl) : ED X st (.Call (.Name "isinstance" p) [e, .Name x p2] [] pos) (.bool b) := fun m H0 B H σ s l Q q =>
  WE.of (pe_callB (call_isX hp hC hz hf) hg hm (by decide +kernel) (pa_cons peW (pa_cons (pe_glob hgx hmx (v := .ref C) rfl hdb) pa_nil he2) he) (he := he) (hpl := hpl)) (h m H0 B H σ s l _ fun v B1 H1 n1 ⟨ev, dx⟩ => ⟨.ref C, .ref C, b, by rw [ev], fun u r => r, hk, dx.up n1.i, q _ B1 H1 n1 (.bl b)⟩)
theorem DqAll.strs : ∀ (xs : List Str), DqAll K B (xs.map V.str) (xs.map PyData.str)
  | [] => .nil
  | x :: xs => .cons (.str x) (DqAll.strs xs)
theorem DqAll.strs_inv : ∀ {vs : List V} {xs : List Str}, DqAll K B vs (xs.map PyData.str) → vs = xs.map V.str
  | _, [], h => by cases h; rfl
  | _, x :: xs, h => by
    cases h with
    | cons a t => cases a; rw [List.map_cons, t.strs_inv]
theorem ed_split {x y : Str} {ap : Pos} (h1 : ED X st e1 (.str x)) (h2 : ED X st e2 (.str y)) (hy : (y.length == 0) = false) (hx : x.length + 2 ≤ 100000) (hbase : attributeBase e1 "split" X.env (eval e1 X.env) = eval e1 X.env := by rfl)
    (hfew : ((backTo pos (starEach [e2] X.env)).all (fun x => !x.1) && (backToKw pos (keywordEach [] X.env)).all (fun x => x.1.isSome)
      && decide (([e2] : List Expr).length + ([] : List Keyword).length + (if ([] : List Keyword).isEmpty then 0 else 1) < 30)) = true := by rfl)
    (hline : (ap.endLine == pos.line) = true := by rfl) (hs : starEach [e2] X.env = (false, eval e2 X.env) :: starEach [] X.env := by rfl) : ED X st (.Call (.Attribute e1 "split" ap) [e2] [] pos) (.list ((PySem.Txt.split x y).map .str)) := fun m H0 B H σ s l Q q =>
  WE.of (pe_bm PySem.F.plainAttrs_str PySem.F.slot_str_split PySem.F.type_str_split mt_split peW paW hbase hfew hline hs (by rfl)) (h1.any s l fun v B1 H1 n1 d1 => by
    rw [d1.str_inv]
    refine ⟨rfl, eds_1 h2 hs m H0 B1 H1 σ n1.i (l.nx n1.any) _ fun ws B2 H2 n2 d2 => ?_⟩
    have e := DqAll.strs_inv (xs := [y]) d2
    subst e
    exact ⟨x, y, rfl, rfl, hy, small hx, fun t ht => q _ (upd B2 t (.lst _)) _ ((n1.trans n2).trans (Nx.new n2.i ht)) (.lst upd_same (DqAll.strs _))⟩)
theorem ed_join {x : Str} {ys : List Str} {ap : Pos} (h1 : ED X st e1 (.str x)) (h2 : ED X st e2 (.list (ys.map .str))) (hz : (ys.map (·.length)).sum + ys.length * x.length ≤ 100000) (hbase : attributeBase e1 "join" X.env (eval e1 X.env) = eval e1 X.env := by rfl)
    (hfew : ((backTo pos (starEach [e2] X.env)).all (fun x => !x.1) && (backToKw pos (keywordEach [] X.env)).all (fun x => x.1.isSome)
      && decide (([e2] : List Expr).length + ([] : List Keyword).length + (if ([] : List Keyword).isEmpty then 0 else 1) < 30)) = true := by rfl)
    (hline : (ap.endLine == pos.line) = true := by rfl) (hs : starEach [e2] X.env = (false, eval e2 X.env) :: starEach [] X.env := by rfl) : ED X st (.Call (.Attribute e1 "join" ap) [e2] [] pos) (.str (PySem.Txt.join x ys)) := fun m H0 B H σ s l Q q =>
  WE.of (pe_bm PySem.F.plainAttrs_str PySem.F.slot_str_join PySem.F.type_str_join mt_join peW paW hbase hfew hline hs (by rfl)) (h1.any s l fun v B1 H1 n1 d1 => by
    rw [d1.str_inv]
    refine ⟨rfl, eds_1 h2 hs m H0 B1 H1 σ n1.i (l.nx n1.any) _ fun ws B2 H2 n2 d2 => ?_⟩
    cases d2 with
    | cons y t =>
      cases t
      obtain ⟨r, us, rfl, t1, a1⟩ := y.lst_inv
      rw [a1.strs_inv] at t1
      exact ⟨x, r, ys, rfl, rfl, .inl (SqL.of (n2.i _ _ t1)), by omega, q _ B2 H2 (n1.trans n2) (.str _)⟩)
/-- the walk of zip(list, list) while an exception is handled -/
theorem jd_zipH {a b : Addr} {us ws : List V} {ds es : List D} {B1 : Hp} (ha : B1 a = some (.lst us)) (hb : B1 b = some (.lst ws)) (da : DqAll K B1 us ds) (db : DqAll K B1 ws es) (hl : ds.length = es.length) : JD K (ItzH K a b) B1 ((ds.zip es).map fun z => PyData.tuple [z.1, z.2]) := fun B H s1 s2 i => by
  have ea : SqL K H a us := SqL.of (s2 _ _ (s1 _ _ ha))
  have eb : SqL K H b ws := SqL.of (s2 _ _ (s1 _ _ hb))
  refine ⟨fun d hd => ?_, fun hi => ⟨us, ws, ea, eb, ?_⟩⟩
  · rw [List.getElem?_map] at hd
    obtain ⟨z, hz, rfl⟩ := Option.map_eq_some_iff.mp hd
    obtain ⟨h1, h2⟩ := List.getElem?_zip_eq_some.mp hz
    obtain ⟨u, hu, du⟩ := da.at_ h1
    obtain ⟨w, hw, dw⟩ := db.at_ h2
    refine ⟨⟨us, ws, u, w, ea, eb, hu, hw⟩, fun x H' y => ?_⟩
    obtain ⟨T, x1, y1, rfl, hT, rfl, g1, g2⟩ := y
    have e1 := Option.some.inj ((g1 us ea).symm.trans hu)
    have e2 := Option.some.inj ((g2 ws eb).symm.trans hw)
    subst e1 e2
    have n := Nx.new (o := .tup [x1, y1]) s2 hT
    exact ⟨_, n, .tup (SqT.of upd_same) (.cons (Dq.up (s1.trans n.b) du) (.cons (Dq.up (s1.trans n.b) dw) .nil))⟩
  · rw [List.length_map, List.length_zip] at hi
    have := da.len
    omega
end
end K45
set_option maxHeartbeats 4000000
namespace K45
open PySem PySem.Spec PyProof.Rows L2
/-- the reading gives such data -/
def TEok (K : PySem.W.Frag) (te : TE) (st : Sto) (d : D) : Prop := ∀ (m : Option Addr) (H0 B H : Hp) (σ : St), Same B H → Sl K m H0 B H st σ → ∀ Q : VK, (∀ v B2 H2, Nx none B H B2 H2 → Dq K B2 v d → Q v H2) → te σ H Q
section
variable {X : Cx} {st st1 st2 : Sto} {e e1 e2 e3 : Expr} {es : List Expr} {a b c d : D} {ds : List D} {pos : Pos} {K : PySem.W.Frag} {m : Option Addr} {B H H0 B0 Bf B2 H2 : Hp} {σ : St} {s : Stmt} {rest body : List Stmt} {E E' : EndD}
theorem lc_readG {te : TE} {vs : List Nat} {g : TG} {tt : TT} {α : Type} {ys : List α} {ι f : α → D} {p : α → Bool} {wi : TI}
    (hw : ∀ (m : Option Addr) (H0 B H : Hp) (σ : St), Same B H → Sl X.K m H0 B H st σ → ∀ R : It → Hp → Prop, (∀ J B1 H1, Nx none B H B1 H1 → JD X.K J B1 (ys.map ι) → R J H1) → wi σ H R)
    (gw : GW g vs) (hz : ys.length ≤ 100000)
    (hb : ∀ m, ∀ y ∈ ys, ∃ st2, GT X.K m g (wipeS st vs) (ι y) st2 ∧ (∀ H0 B H σ, Same B H → Sl X.K m H0 B H st2 σ → ∀ Q : Bool → Hp → Prop, (∀ B2 H2, Nx none B H B2 H2 → Q (p y) H2) → tt σ H Q) ∧ (p y = true → TEok X.K te st2 (f y)))
    (m : Option Addr) (H0 B H : Hp) (σ : St) (s : Same B H) (l : Sl X.K m H0 B H st σ) (Q : VK) (q : ∀ v B2 H2, Nx none B H B2 H2 → Dq X.K B2 v (.list ((ys.filter p).map f)) → Q v H2) :
    tLc wi g tt te vs σ H Q := by
  refine hw m H0 B H σ s l _ fun J B1 H1 n1 jd Da hDa => ?_
  -- what holds ahead of the i-th turn
  let Pv : Nat → Hp → Prop := fun i H' => ∃ B' acc, Nx none B1 H1 B' H' ∧ B' Da = none ∧ H' Da = some (.lst acc) ∧ DqAll X.K B' acc (((ys.take i).filter p).map f)
  have hDB : B1 Da = none := same_sub n1.i hDa
  have h0 : Pv 0 (upd H1 Da (.lst [])) := ⟨B1, [], (Nx.refl n1.i).put (.inl hDa) hDB, hDB, upd_same, .nil⟩
  refine ⟨fun i k H' => k = ys.length - i ∧ i ≤ ys.length ∧ Pv i H', ⟨ys.length, rfl, Nat.zero_le _, h0⟩, ?_⟩
  rintro i k H' ⟨rfl, hik, B', acc, n2, bD, hD, da⟩
  have jd' := jd B' H' n2.b n2.i i
  by_cases hlt : i < ys.length
  · refine .inr ?_
    have hy : ys[i]? = some ys[i] := List.getElem?_eq_getElem hlt
    obtain ⟨go, yl⟩ := jd'.1 (ι ys[i]) (by rw [List.getElem?_map, hy]; rfl)
    refine ⟨go, Pv (i + 1), fun H3 q3 => ⟨ys.length - (i + 1), by omega, rfl, hlt, q3⟩, fun x H3 y3 => ?_⟩
    obtain ⟨B3, n3, d3⟩ := yl x H3 y3
    obtain ⟨st2, gt, htt, hel⟩ := hb m _ (List.getElem_mem hlt)
    have hD3 : H3 Da = some (.lst acc) := n3.same Da _ hD
    have bD3 : B3 Da = none := (n3.n Da (by rw [hD]; exact fun z => nomatch z)).trans bD
    have l3 : Sl X.K m H0 B3 H3 (wipeS st vs) (L2.wipe σ vs) := Sl.wipes (l.nx ((n1.trans n2).trans n3).any) _
    refine gw x σ H3 _ ?_
    refine gt H0 B3 H3 _ x n3.i l3 d3 _ fun σ4 l4 => ?_
    refine htt H0 B3 H3 σ4 n3.i l4 _ fun B4 H4 n4 => ?_
    have hD4 : H4 Da = some (.lst acc) := n4.same Da _ hD3
    have bD4 : B4 Da = none := (n4.n Da (by rw [hD3]; exact fun z => nomatch z)).trans bD3
    by_cases hp : p ys[i] = true
    · rw [if_pos hp]
      refine hel hp m H0 B4 H4 σ4 n4.i (l4.nx n4.any) _ fun v B6 H6 n6 d6 => ?_
      have hD6 : H6 Da = some (.lst acc) := n6.same Da _ hD4
      have bD6 : B6 Da = none := (n6.n Da (by rw [hD4]; exact fun z => nomatch z)).trans bD4
      have hla := da.len
      refine ⟨acc, hD6, ?_, B6, acc ++ [v], (((n2.trans n3).trans n4).trans n6).put (.inl hDa) bD6, bD6, upd_same, ?_⟩
      · rw [hla, List.length_map]
        have h1 := List.length_filter_le p (ys.take i)
        have h2 : (ys.take i).length ≤ i := List.length_take_le _ _
        exact Nat.lt_of_lt_of_le (show _ < 100000 by omega) (by decide)
      · rw [filter_take_succ hy, if_pos hp, List.map_append]
        exact (DqAll.up ((n3.b.trans n4.b).trans n6.b) da).app (.cons d6 .nil)
    · rw [if_neg hp]
      refine ⟨B4, acc, (n2.trans n3).trans n4, bD4, hD4, ?_⟩
      rw [filter_take_succ hy, if_neg hp, List.append_nil]
      exact DqAll.up (n3.b.trans n4.b) da
  · have e : i = ys.length := by omega
    refine .inl ⟨jd'.2 (by rw [List.length_map]; exact e), ?_⟩
    rw [e, List.take_length] at da
    exact q (.ref Da) (upd B' Da (.lst acc)) H' (n1.trans (n2.freeze hDa bD hD)) (.lst upd_same (DqAll.up (same_new bD) da))
theorem ed_lcH {tg iter elt c : Expr} {scope : Scope} {own : List (Str × Nat)} {g : TG} {α : Type} {ys : List α} {ι f : α → D} {p : α → Bool} {wi : TI} (pn : Addr × Obj) (h1 : L2H.Hot1 X.A pn) (hp : pn ∈ X.pn) (nd : X.N.Nodup) (hi : L2H.PIH X tg iter wi)
    (hw : ∀ (m : Option Addr) (H0 B H : Hp) (σ : St), Same B H → Sl X.K m H0 B H st σ → ∀ R : It → Hp → Prop, (∀ J B1 H1, Nx none B H B1 H1 → JD X.K J B1 (ys.map ι) → R J H1) → wi σ H R) (ok : BlkOk X.N X.env.scope scope own)
    (hg : ∀ (s : Shared) (H : Hp) (C : Addr) (cl : List (Str × Addr)) (fp : List Addr), PG (hblk X pn s H scope (compEnvC scope cl C X.env) fp) tg g) (gw : GW g (own.map (·.2))) (hz : ys.length ≤ 100000)
    (hb : ∀ m, ∀ y ∈ ys, ∃ st2, GT X.K m g (wipeS st (own.map (·.2))) (ι y) st2 ∧ (∀ s H' C cl fp, ET (hblk X pn s H' scope (compEnvC scope cl C X.env) fp) st2 c (p y)) ∧ (p y = true → ∀ s H' C cl fp, ED (hblk X pn s H' scope (compEnvC scope cl C X.env) fp) st2 elt (f y)))
    (hs : ∀ x, foldedSetIterable iter X.env x = pure x := by intro _; rfl) : ED X st (.ListComp elt [⟨tg, iter, [c], 0⟩] scope pos) (.list ((ys.filter p).map f)) := by
  intro m H0 B H σ s l Q q
  refine WE.of (pe_lcH (te := fun σ H Q => ∀ s H' C cl fp, WE (hblk X pn s H' scope (compEnvC scope cl C X.env) fp) elt σ H Q) (tt := fun σ H Q => ∀ s H' C cl fp, WT (hblk X pn s H' scope (compEnvC scope cl C X.env) fp) c σ H Q) pn h1 hp nd hi ok hg
    (fun s H C cl fp => pts_one ⟨fun pins s' σ' H' Q I h => h s H C cl fp pins s' I⟩) (fun s H C cl fp => ⟨fun pins s' σ' H' Q I h => h s H C cl fp pins s' I⟩) hs) (lc_readG hw gw hz (fun m y hy => ?_) m H0 B H σ s l Q q)
  obtain ⟨st2, g1, g2, g3⟩ := hb m y hy
  exact ⟨st2, g1, fun H0 B H σ s l Q q s5 H5 C5 cl5 fp5 => g2 s5 H5 C5 cl5 fp5 m H0 B H σ s l Q q, fun z m H0 B H σ s l Q q s5 H5 C5 cl5 fp5 => g3 z s5 H5 C5 cl5 fp5 m H0 B H σ s l Q q⟩
end
end K45
set_option maxHeartbeats 4000000
namespace K45
open PySem PySem.Spec PyProof.Rows L2
/-- which of the named classes an exception of the class D is of -/
structure NamX (K : PySem.W.Frag) (mg : Str → Option Value) (D : Addr) (b0 b1 b2 b3 b4 : Bool) : Prop where
  c : ExcC K D
  x0 : ∃ C, mg "InvalidOrder" = some (.ref C) ∧ PySem.W.kitOne K (.ref D) (.ref C) = some b0
  x1 : ∃ C, mg "InvalidExchange" = some (.ref C) ∧ PySem.W.kitOne K (.ref D) (.ref C) = some b1
  x2 : ∃ C, mg "InvalidRow" = some (.ref C) ∧ PySem.W.kitOne K (.ref D) (.ref C) = some b2
  x3 : ∃ C, mg "Unlike" = some (.ref C) ∧ PySem.W.kitOne K (.ref D) (.ref C) = some b3
  x4 : ∃ C, mg "TooMany" = some (.ref C) ∧ PySem.W.kitOne K (.ref D) (.ref C) = some b4
section
variable {P : Program} {w : World} {K : PySem.W.Frag} {mg : Str → Option Value} {base : Heap}
def spN (K : PySem.W.Frag) (mg : Str → Option Value) : Addr × Obj → Hp → VK → Prop := fun p H Q => ∃ (B : Hp) (D : Addr) (d : Option Addr) (b0 b1 b2 b3 b4 : Bool), Same B H ∧ (p.2.cls = .ref D ∧ p.2.dict = d) ∧ DX d B ∧ NamX K mg D b0 b1 b2 b3 b4 ∧
  ∀ v B2 H2, Nx none B H B2 H2 → Dq K B2 v (.str (nameOf [b0, b1, b2, b3, b4])) → Q v H2
def pickN (bs : List Bool) : List Str := ((labelsL.zip bs).filter (·.2)).map (·.1)
def FitsN (bs : List Bool) : Prop := ((pickN bs).map (·.length)).sum + (pickN bs).length * ((" " : Str)).length ≤ 100000
theorem nameOf_fits (b0 b1 b2 b3 b4 : Bool) : FitsN [b0, b1, b2, b3, b4] := by
  unfold FitsN pickN
  cases b0 <;> cases b1 <;> cases b2 <;> cases b3 <;> cases b4 <;> decide +kernel
theorem ok_named (T : Fr mg) (F : Df K mg "_law_named_error" s_l_named_error ["_law_e"]) : ∃ f fd, FnE P w K mg base 1 f fd "_law_e" (spN K mg) ∧ mg "_law_named_error" = some (.ref f) ∧ PySem.W.keepIn K (.ref f) = true ∧ Binds K fd ["_law_e"] [] := by
  obtain ⟨f, fd, F, hm, hbn⟩ := F.ex
  refine ⟨f, fd, ?_, hm, F.kp, hbn⟩
  obtain ⟨oc, od, kV, doc, pm, an, cdv, ct, osl, rfl, lk, hcd⟩ := F.ex
  refine fnE_of lk hcd sc_l_named_error fun A outer s H Q p h1 hr ⟨B, D, d, b0, b1, b2, b3, b4, sm, hz, dx, NX, q⟩ => ?_
  have hf : ∃ vs, p.2.data = .fields vs := ⟨_, h1.2.choose_spec.1⟩
  have nd := sc_l_named_error.nd
  obtain ⟨C0, g0, k0⟩ := NX.x0
  obtain ⟨C1, g1, k1⟩ := NX.x1
  obtain ⟨C2, g2, k2⟩ := NX.x2
  obtain ⟨C3, g3, k3⟩ := NX.x3
  obtain ⟨C4, g4, k4⟩ := NX.x4
  have hp : p ∈ (L2H.cxH CX0 P w K mg base N_l_named_error "_law_named_error" (defScope s_l_named_error) f cdv A outer s H E0 p).pn := List.mem_singleton.mpr rfl
  have main : HS (L2H.cxH CX0 P w K mg base N_l_named_error "_law_named_error" (defScope s_l_named_error) f cdv A outer s H E0 p) none [some (.x (IsE p.1 d) (IsE.up p.1 d)), none, none, none] (defBody s_l_named_error) { nx := fun _ => False, rt := fun d' => d' = .str (nameOf [b0, b1, b2, b3, b4]) } := by
    refine hs_set 1 (d := .list [.bool b0, .bool b1, .bool b2]) nd (ed_lst (eds_cons (ed_isX hp NX.c hz hf T.isinstance g0 k0 (ex_var 0)) (eds_cons (ed_isX hp NX.c hz hf T.isinstance g1 k1 (ex_var 0)) (eds_1 (ed_isX hp NX.c hz hf T.isinstance g2 k2 (ex_var 0))))) (show 3 ≤ 100000 by decide)) ?_
    refine hs_set 1 (d := .list ([b0, b1, b2, b3, b4].map .bool)) nd (ed_addL (xs := [.bool b0, .bool b1, .bool b2]) (ys := [.bool b3, .bool b4]) (show 3 + 2 ≤ 100000 by decide) (ed_var 1) (ed_lst (eds_cons (ed_isX hp NX.c hz hf T.isinstance g3 k3 (ex_var 0)) (eds_1 (ed_isX hp NX.c hz hf T.isinstance g4 k4 (ex_var 0)))) (show 2 ≤ 100000 by decide))) ?_
    have hfit := nameOf_fits b0 b1 b2 b3 b4
    generalize hbs : [b0, b1, b2, b3, b4] = bs at hfit ⊢
    have hl : bs.length = 5 := by rw [← hbs]; rfl
    refine hs_ret (ed_join (ys := pickN bs) ed_str (ED.is (ed_lcH (own := [("_law_label", 2), ("_law_good", 3)]) (g := gTup K 2 (gCons (gName 2) (gCons (gName 3) gNil))) (ys := labelsL.zip bs) (ι := fun z => PyData.tuple [.str z.1, .bool z.2]) (f := fun z => .str z.1) (p := fun z => z.2) p h1 hp nd (pi_zipH rfl T.zip paW) (fun m H0 B H σ s l R r => ?_) (blkOk_by (N := N_l_named_error) (sc := defScope s_l_named_error) (by decide +kernel))
      (fun s' H' C cl fp => pg_tupH ⟨p, h1, List.mem_singleton.mpr rfl⟩ (pgs_cons (pg_name (i := 2) nd rfl (.inl rfl)) (pgs_cons (pg_name (i := 3) nd rfl (.inl rfl)) pgs_nil))) gw_pair (by rw [List.length_zip]; show min 5 _ ≤ _; omega) (fun m y hy => ⟨_, gt_pair 2 3, fun s' H' C cl fp => et_of (ed_var 3), fun _ s' H' C cl fp => ed_var 2⟩)) ?_) hfit) rfl
    · refine eds_cons (ED.is (ed_split ed_str ed_str (by decide +kernel) (by decide +kernel)) (by rw [spl])) (eds_1 (ed_var 1)) (by rfl) m H0 B H σ s l _ fun vs B1 H1 n1 d1 => ?_
      cases d1 with
      | cons x t =>
        cases t with
        | cons y t =>
          cases t
          obtain ⟨a, us, rfl, t1, a1⟩ := x.lst_inv
          obtain ⟨b, ws, rfl, t2, a2⟩ := y.lst_inv
          refine ⟨a, b, us, ws, rfl, SqL.of (n1.i _ _ t1), SqL.of (n1.i _ _ t2), r _ B1 H1 n1 ?_⟩
          have e : (labelsL.zip bs).map (fun z => PyData.tuple [.str z.1, .bool z.2]) = ((labelsL.map PyData.str).zip (bs.map PyData.bool)).map fun z => PyData.tuple [z.1, z.2] := by
            rw [List.zip_map, List.map_map]
            rfl
          rw [e]
          exact jd_zipH t1 t2 a1 a2 (by rw [List.length_map, List.length_map, hl]; rfl)
    · unfold pickN
      rw [List.map_map]
      rfl
  refine WSs.mono (main B B H _ H ⟨B, Same.refl B, Nx.refl sm, (fun _ z => nomatch z), rfl, fun i s e => ?_⟩) (fun σ' H' ⟨st', e, _⟩ => (show False from e).elim) (fun v H' ⟨d', B', e, _, n, _, dv, _⟩ => ?_) (fun σ' H' ⟨st', e, _⟩ => (show False from e)) (fun σ' H' ⟨st', e, _⟩ => (show False from e))
  · match i, e with
    | 0, e =>
      cases e
      exact ⟨_, rfl, rfl, dx⟩
    | 1, e => cases e
    | 2, e => cases e
    | 3, e => cases e
    | i + 4, e => simp at e
  · have e : d' = _ := e
    subst e
    exact q v B' H' n dv
end
end K45
set_option maxHeartbeats 4000000
/-! A lambda handed to a def, its exceptions with context None. -/
namespace K45
open PySem PySem.Spec PyProof.Rows L2 LamX
/-- the context of the lambda's body -/
abbrev lamN (X : Cx) (A : Around) (outer : List Env) (s : Shared) (H : Hp) (E : XK) (scope : Scope) (f c' : Addr) : Cx :=
  (lamCx X A outer s H E scope f c').tr ((lamCx X A outer s H E scope f c').pn ++ []) fun e s' => wpAny (model X.prog X.w) (A.deeper (lamEnv X scope s.heap.objs.size f c')) (leaving (lamEnv X scope s.heap.objs.size f c') e) (fun _ s'' => L2N.CX X.prog X.w outer H s E e s'') (fun e' s'' => L2N.CX X.prog X.w outer H s E e' s'') s'
section
variable {X : Cx} {pins : List (Addr × Obj)} {σ : L2.St} {H HZ : Hp} {s s1 : Shared}
/-- x(), in the def that got the lambda -/
theorem pe_actN {CXg : CXT} {Eg : XK} {Ng : List Str} {qg : Str} {sg : Scope} {g f c' : Addr} {cdg pm ctv : Value} {params : Arguments} {body : Expr} {scope : Scope} {k i : Nat} {a : Str} {pn : List (Addr × Obj)} {xe : Value → Shared → Prop} {W : WX} {E : XK} {tb : TE} {p1 p2 : Pos}
    (I : Inv X pins σ H s) (L : LamS X.env.scope scope) (hf : s.heap.get? f = some (PySem.W.kla_obj "<lambda>" (X.env.qual ++ "<lambda>") params body scope (cloFrom X.env.cells scope.names []) pm c' ctv)) (hfn : H f = none) (hfr : f ∉ frs X.stack)
    (hbind : bindArgs (PySem.W.kla_fn "<lambda>" (X.env.qual ++ "<lambda>") params body scope (cloFrom X.env.cells scope.names []) pm (.ref c') ctv) ⟨[], []⟩ = pure [])
    (tk : L2N.Takes ((cxOf CXg X.prog X.w X.K X.mg X.base Ng qg sg g cdg X.A X.stack s H Eg).tr pn xe) W) (hW : ∀ cls d σ' H', E cls d H' → W cls d σ' H') (hr : Room (k + 1) (X.A.deeper (envOfC qg sg s.heap.objs.size g cdg)))
    (hbody : ∀ (A : Around) (outer : List Env) (s : Shared) (H : Hp), Room k (A.deeper (lamEnv X scope s.heap.objs.size f c')) → PE (lamN X A outer s H E scope f c') body tb)
    (hN : Ng[i]? = some a) (hv : Vis sg a) (hd : (a == ("__debug__" : Str)) = false := by decide) (hcd : (a == ("__classdict__" : Str)) = false := by decide) :
    PE ((cxOf CXg X.prog X.w X.K X.mg X.base Ng qg sg g cdg X.A X.stack s H Eg).tr pn xe) (.Call (.Name a p1) [] [] p2) (fun σZ HZ Q => σZ[i]? = some (some (.ref f)) ∧ HZ c' = some (CodeO c' (X.env.qual ++ "<lambda>")) ∧ tb σ HZ Q) := by
  refine ⟨fun pinsZ sZ σZ HZ Q IZ ⟨hs, hc, ht⟩ => ?_⟩
  refine wpAny_Call_Name_kw (thn ((pe_var (pos := p1) (i := i) hN hv hd hcd).run pinsZ sZ σZ HZ (fun v H1 => v = .ref f ∧ H1 = HZ) IZ ⟨.ref f, hs, rfl, rfl⟩) fun u s1 ⟨v, H1, I1, r1, ev, eH⟩ => ?_)
  subst ev
  rw [eH] at I1
  obtain rfl : u = Value.ref f := r1
  have lamAt : s1.heap.get? f = some (PySem.W.kla_obj "<lambda>" (X.env.qual ++ "<lambda>") params body scope (cloFrom X.env.cells scope.names []) pm c' ctv) := I1.base.keep f _ hf hfn hfr (fun z => nomatch (show f ∈ ([] : List Addr) from z))
  refine PySem.W.callWith_F0 ⟨_, _, _, _, lamAt⟩ ?_
  have un : Un (frs X.stack) [] H HZ s.heap s1.heap := I1.base
  obtain ⟨⟨oc, vs, t, hoc, hdc, hvc⟩, _, _⟩ := I1.hok c' _ hc
  have run : codeAny (model X.prog X.w) (X.A.deeper (envOfC qg sg s.heap.objs.size g cdg)) (.call (.ref f) ⟨[], []⟩) (CR (L2N.CX X.prog X.w) (envOfC qg sg s.heap.objs.size g cdg :: X.stack) X.prog X.w HZ s1 Q E) s1 := by
    refine PySem.W.kla_callFunE hr.depth lamAt rfl L.co L.gen rfl ⟨c', oc, vs, t, rfl, hoc, hdc, hvc⟩ ?_
    rw [hbind]
    refine wpAny_pure (wpAny_newFunctionEnv (fun y hy => (L.own y hy).2) (fun y hy => absurd hy (by simp)) (fun h1 hns hsb => ⟨I1.nolimit.fresh _ hsb, ?_⟩) L.kind)
    show codeAny _ _ (.expr body (lamEnv X scope s1.heap.objs.size f c')) _ _
    have kp : ∀ b o, s1.heap.get? b = some o → h1.get? b = some o := fun b o e => hsb.extBut b o (Nat.ne_of_lt (Heap.lt_size e)) (Heap.get?_push_of_some _ e)
    have J0 : Inv (lamCx X (X.A.deeper (envOfC qg sg s.heap.objs.size g cdg)) (envOfC qg sg s.heap.objs.size g cdg :: X.stack) s1 HZ E scope f c') [] σ HZ { s1 with heap := h1, toks := s1.toks + ([] : List (Str × Value)).length } := lam_start2 I L I1.env0 hr.hd un hns kp
    refine PySem.W.kla_codeExpr (wpAny_mono ((hbody _ _ s1 HZ (hr.deeper _)).run [] _ _ HZ Q (J0.toTry _) ht) (fun v s' hq => ?_) fun e s' hq => hq)
    obtain ⟨w', H', J', rv, q⟩ := hq
    exact ⟨w', H', J'.os, J'.bare, J'.base, J'.hok, rv, q⟩
  have hx : Passes (L2N.CX X.prog X.w) ((cxOf CXg X.prog X.w X.K X.mg X.base Ng qg sg g cdg X.A X.stack s H Eg).tr pn xe) E := L2N.passes_call tk hW
  refine wpAny_call (codeAny_mono run fun r s' hq => ?_)
  cases r with
  | error e => exact hx pinsZ σZ HZ s1 e s' I1 hq
  | ok fl =>
    cases fl with
    | ret u => exact I1.after hq
    | next => exact False.elim hq
    | brk => exact False.elim hq
    | cont => exact False.elim hq
/-- the def that calls what it got: a calls it; TT: what it makes of the lambda's reading -/
def GivesN (X : Cx) (kk : Nat) (Ng : List Str) (x : Str) (sg : Scope) (g : Addr) (cdg : Value) (bg : List Stmt) (a : Str) (q : Str) (TT : (XK → Hp → VK → Prop) → Hp → VK → Prop) : Prop :=
  ∀ (f c' : Addr) (s : Shared) (H : Hp) (Q : VK) (tl : XK → Hp → VK → Prop),
    (∀ (W : WX) (pn : List (Addr × Obj)) (xe : Value → Shared → Prop) (E : XK) (p1 p2 : Pos), L2N.Takes ((cxOf CX0 X.prog X.w X.K X.mg X.base Ng x sg g cdg X.A X.stack s H E0).tr pn xe) W → (∀ cls d σ' H', E cls d H' → W cls d σ' H') →
      PE ((cxOf CX0 X.prog X.w X.K X.mg X.base Ng x sg g cdg X.A X.stack s H E0).tr pn xe) (.Call (.Name a p1) [] [] p2) (fun σZ HZ Q => σZ[0]? = some (some (.ref f)) ∧ HZ c' = some (CodeO c' q) ∧ tl E HZ Q)) →
    Room kk (X.A.deeper (envOfC x sg s.heap.objs.size g cdg)) → H c' = some (CodeO c' q) → TT tl H Q → WSs (cxOf CX0 X.prog X.w X.K X.mg X.base Ng x sg g cdg X.A X.stack s H E0).nox bg { nx := fun _ H' => Q .non H', rt := Q } (L2.start Ng [.ref f]) H
/-- x(lambda: body) -/
theorem pe_lamcallN {X : Cx} {T : List (Addr × Str)} {TT : (XK → Hp → VK → Prop) → Hp → VK → Prop} {x a : Str} {g c P : Addr} {k : Nat} {pg : Arguments} {bg : List Stmt} {sg : Scope} {dV kV doc pm cdv ct oc : Value} {an od : Option Addr} {osl : Array (Option Value)} {Ng : List Str} {params : Arguments} {body : Expr} {scope : Scope} {t : XK → TE}
    {p lpos pos : Pos} (hg : Gl X x) (hm : X.mg x = some (.ref g)) (hk : PySem.W.keepIn X.K (.ref g) = true) (lk : X.K.lookup g = some ⟨oc, od, .func (PySem.W.fnOf x x pg bg sg dV kV doc pm an cdv ct), osl⟩) (hcg : PySem.W.codeIn X.K cdv x = true) (hb : L2.Binds X.K (PySem.W.fnOf x x pg bg sg dV kV doc pm an cdv ct) [a] [])
    (Sg : FnScope Ng [a] sg) (hNg : Ng[0]? = some a) (hva : Vis sg a) (hG : GivesN X (k + 1) Ng x sg g cdv bg a (X.env.qual ++ "<lambda>") TT) (TB : TabB X.base X.mg c P) (hcode : X.env.code = .ref c) (hmT : (P, X.env.qual ++ "<lambda>") ∈ T) (hu : ∀ p ∈ T, p.1 = P → p.2 = X.env.qual ++ "<lambda>") (hr : Room (k + 2) X.A)
    (L : LamS X.env.scope scope) (hdef : defaultsOf params X.env = ([], [])) (hbind : ∀ (q : Str) (cl : List (Str × Addr)) (pm cv ctv : Value), bindArgs (PySem.W.kla_fn "<lambda>" q params body scope cl pm cv ctv) ⟨[], []⟩ = pure [])
    (hbody : ∀ (A : Around) (outer : List Env) (s : Shared) (H : Hp) (E : XK) (f c' : Addr), Room k (A.deeper (lamEnv X scope s.heap.objs.size f c')) → PE (lamN X A outer s H E scope f c') body (t E))
    (hdb : (x == ("__debug__" : Str)) = false := by decide) (hd : (a == ("__debug__" : Str)) = false := by decide) (hcd : (a == ("__classdict__" : Str)) = false := by decide) : PE X (.Call (.Name x p) [.Lambda params body scope lpos] [] pos) (tLam T TT t) := by
  refine ⟨fun pins s σ H Q I ⟨hT, h⟩ => ?_⟩
  refine wpAny_Call_Name_kw (ld_glob I hg hm ?_ hdb)
  refine PySem.W.callWith_K (h₀ := X.base) I.ok.mod.kin hk ?_ (by rfl) (by rfl)
  show wpAny _ _ (spliced ((false, eval (.Lambda params body scope lpos) X.env) :: backTo pos (starEach [] X.env))) _ _ s
  refine Calls.spliced_cons (lam_make2 I TB hcode hmT hu hT hdef (L.has I.ok) fun f c' pm' ctv H1 s' I1 eN T1 hf hfn hfr hco => Calls.spliced_nil ⟨I1.kIn, ?_⟩)
  have run : codeAny (model X.prog X.w) X.A (.call (.ref g) ⟨[.ref f], []⟩) (CR CX0 X.stack X.prog X.w H1 s' Q E0) s' := by
    refine run_ofS (N := Ng) (ps := [a]) (us := [.ref f]) (vs := [.ref f]) lk hcg Sg hr I1.env0 (hb s' [.ref f] I1.kIn rfl) (.cons rfl .nil) rfl fun hr' => ?_
    have q := hG f c' s' H1 Q (fun E H' Q' => t E σ H' Q') (fun W pn xe E p1 p2 tk hW => pe_actN (i := 0) I1 L hf hfn hfr (hbind _ _ _ _ _) tk hW hr' (fun A outer s H hr2 => hbody A outer s H E f c' hr2) hNg hva hd hcd) hr' hco (h H1 eN T1)
    exact ⟨_, (pssW (X := (cxOf CX0 X.prog X.w X.K X.mg X.base Ng x sg g cdv X.A X.stack s' H1 E0).nox)).nox, q⟩
  refine wpAny_call (codeAny_mono run fun r s2 hq => ?_)
  cases r with
  | error e => exact (show False from hq).elim
  | ok fl =>
    cases fl with
    | ret u => exact I1.after hq
    | next => exact False.elim hq
    | brk => exact False.elim hq
    | cont => exact False.elim hq
end
end K45
set_option maxHeartbeats 4000000
namespace K45
open PySem PySem.Spec PyProof.Rows L2 LamX
/-- what _law_error makes of a call that raises: the name of the error -/
def TTerr (K : PySem.W.Frag) (mg : Str → Option Value) (CE : Addr) : (XK → Hp → VK → Prop) → Hp → VK → Prop := fun tl H Q =>
  tl (fun cls d H' => ∃ (D : Addr) (B : Hp) (b0 b1 b2 b3 b4 : Bool), cls = .ref D ∧ PySem.W.exmOne K cls (.ref CE) = some true ∧ PySem.W.kitOne K (.ref D) (.type "ValueError") = some true ∧ Same B H' ∧ DX d B ∧ NamX K mg D b0 b1 b2 b3 b4 ∧
    ∀ v B2 H2, Nx none B H' B2 H2 → Dq K B2 v (.str (nameOf [b0, b1, b2, b3, b4])) → Q v H2) H (fun _ H' => Q (.str "") H')
section
variable {X : Cx}
def tsErr (K : PySem.W.Frag) (mg : Str → Option Value) (a : Addr) (cls : Value) (d : Option Addr) : TS := fun Dn σ H => (∃ σ0 : L2.St, σ = σ0.set 1 (some (.ref a))) ∧ ∃ (D : Addr) (B : Hp) (b0 b1 b2 b3 b4 : Bool), cls = .ref D ∧ PySem.W.kitOne K (.ref D) (.type "ValueError") = some true ∧ Same B H ∧ DX d B ∧ NamX K mg D b0 b1 b2 b3 b4 ∧
    ∀ v B2 H2, Nx none B H B2 H2 → Dq K B2 v (.str (nameOf [b0, b1, b2, b3, b4])) → Dn.rt v H2
theorem error_gives {g CE f : Addr} {fd : FuncData} {cdg : Value} {q : Str} {k : Nat} (T : Fr X.mg) (hce : X.mg "OrderError" = some (.ref CE)) (F : FnE X.prog X.w X.K X.mg X.base 1 f fd "_law_e" (spN X.K X.mg)) (hm : X.mg "_law_named_error" = some (.ref f)) (hk : PySem.W.keepIn X.K (.ref f) = true) (hb : Binds X.K fd ["_law_e"] []) :
    GivesN X (k + 1) N_l_error "_law_error" (defScope s_l_error) g cdg (defBody s_l_error) "_law_call" q (TTerr X.K X.mg CE) := by
  intro fl c' s H Q tl act hr hc h
  have nd := sc_l_error.nd
  refine WSs.of (pss_cons (L2N.ps_try_as (X := (cxOf CX0 X.prog X.w X.K X.mg X.base N_l_error "_law_error" (defScope s_l_error) g cdg X.A X.stack s H E0).nox) (c := .ref CE) (i := 1) (Wout := fun _ _ _ _ => False) (ts := tsErr X.K X.mg)
      (tb := fun W D σ H => ∃ Ech : XK, (∀ cls d σ' H', Ech cls d H' → W cls d σ' H') ∧ σ[0]? = some (some (.ref fl)) ∧ H c' = some (CodeO c' q) ∧ tl Ech H (fun _ H1 => D.nx σ H1))
      rfl rfl nd rfl rfl ⟨rfl, by decide, .inl hce⟩ (fun _ _ ⟨_, _, _, _, _, _, _, _, _, _, _, _, _, _, _, _, z⟩ => z.elim) (fun W pn xe tk _ => ?_) (fun a oe cls d pn hz hf => ?_)) (pss_one (ps_ret pe_str))) ?_
  · refine ⟨fun pins s' σ H' D I ⟨Ech, hW, h1, h2, h3⟩ => ?_⟩
    exact (pss_one (ps_expr (act W pn xe Ech _ _ tk hW))).run pins s' σ H' D I ⟨h1, h2, h3⟩
  · refine ⟨fun pins s' σ H' Dn I ⟨⟨σ0, eσ⟩, D, B, b0, b1, b2, b3, b4, ec, hkit, sm, dx, NX, q'⟩ => ?_⟩
    subst ec
    have at1 : σ[1]? = some (some (.ref a)) := by
      have hl := I.len
      rw [eσ, List.length_set] at hl
      rw [eσ]
      exact List.getElem?_set_self (by rw [hl]; show 1 < 2; decide)
    obtain ⟨vs, hv⟩ := hf
    have h1 : L2H.Hot1 (X.A.deeper (envOfC "_law_error" (defScope s_l_error) s.heap.objs.size g cdg) |>.mark (some (.ref a))) (a, oe) := ⟨rfl, vs, hv, hz.2.2 vs hv⟩
    have rh : L2H.RoomH 1 (X.A.deeper (envOfC "_law_error" (defScope s_l_error) s.heap.objs.size g cdg)) := L2H.roomH_of (hr.mono (Nat.le_add_left 1 k))
    have pv : ∀ q2 : Pos, PE ((cxOf CX0 X.prog X.w X.K X.mg X.base N_l_error "_law_error" (defScope s_l_error) g cdg X.A X.stack s H E0).nox.suite a ((a, oe) :: pn)) (.Name "_law_e" q2) (tVar 1) := fun q2 => pe_var (i := 1) rfl (.inl rfl) (by decide) (by decide)
    have p1 : ∀ q1 q2 q3 q4 : Pos, PE ((cxOf CX0 X.prog X.w X.K X.mg X.base N_l_error "_law_error" (defScope s_l_error) g cdg X.A X.stack s H E0).nox.suite a ((a, oe) :: pn)) (.Call (.Name "isinstance" q1) [.Name "_law_e" q2, .Name "ValueError" q3] [] q4) _ := fun q1 q2 q3 q4 => pe_callB (X := ((cxOf CX0 X.prog X.w X.K X.mg X.base N_l_error "_law_error" (defScope s_l_error) g cdg X.A X.stack s H E0).nox.suite a ((a, oe) :: pn))) (call_isX List.mem_cons_self NX.c ⟨hz.1, hz.2.1⟩ ⟨vs, hv⟩) rfl T.isinstance (by decide +kernel) (pa_cons (pv q2) (pa_cons (pe_bltn (v := .ty "ValueError") rfl T.ve (by decide +kernel) rfl (by decide)) pa_nil))
    have p2 : ∀ q1 q2 q3 : Pos, PE ((cxOf CX0 X.prog X.w X.K X.mg X.base N_l_error "_law_error" (defScope s_l_error) g cdg X.A X.stack s H E0).nox.suite a ((a, oe) :: pn)) (.Call (.Name "_law_named_error" q1) [.Name "_law_e" q2] [] q3) _ := fun q1 q2 q3 => pe_callE (X := ((cxOf CX0 X.prog X.w X.K X.mg X.base N_l_error "_law_error" (defScope s_l_error) g cdg X.A X.stack s H E0).nox.suite a ((a, oe) :: pn))) F (a, oe) ⟨rh.dp, rh.un⟩ h1 List.mem_cons_self rfl hm hk hb (pv q2)
    refine (pss_one (ps_ret (pe_ifExp (pt_val (p1 _ _ _ _) (by intro _; rfl)) (p2 _ _ _) pe_str))).run pins s' σ H' Dn I ?_
    refine ⟨_, at1, .ty "ValueError", .type "ValueError", true, rfl, fun u r => r, hkit, dx.up sm, ⟨true, rfl, ?_⟩⟩
    refine ⟨_, at1, rfl, B, D, d, b0, b1, b2, b3, b4, sm, ⟨hz.1, hz.2.1⟩, dx, NX, q'⟩
  · refine ⟨_, fun cls d σ' H' hE => ?_, rfl, hc, h⟩
    obtain ⟨D, B, b0, b1, b2, b3, b4, ec, hex, hkit, sm, dx, NX, q'⟩ := hE
    exact ⟨true, hex, fun _ a _ => ⟨⟨σ', rfl⟩, D, B, b0, b1, b2, b3, b4, ec, hkit, sm, dx, NX, q'⟩, fun z => by cases z⟩
end
end K45
set_option maxHeartbeats 4000000
namespace K45
open PySem PySem.Spec PyProof.Rows L2 LamX
/-! ### what stays when tables grow -/
theorem sqT_ext {K : PySem.W.Frag} {H H2 : Hp} {a : Addr} {xs : List V} (e : ExtN H H2) (h : SqT K H a xs) : SqT K H2 a xs := by
  rcases h with (h | ⟨o, h⟩) | h
  · exact .inl (.inl (e _ _ h fun ps z => by cases z))
  · exact .inl (.inr ⟨o, e _ _ h fun ps z => by cases z⟩)
  · exact .inr h
mutual
theorem Dq.ext {K : PySem.W.Frag} {H H2 : Hp} (e : ExtN H H2) : ∀ (d : D) (v : V), Dq K H v d → Dq K H2 v d
  | .none, _, h => by cases h; exact .non
  | .bool b, _, h => by cases h; exact .bl b
  | .int i, _, h => by cases h; exact .int i
  | .str x, _, h => by cases h; exact .str x
  | .list ds, _, h => by cases h with | lst hs ha => exact .lst (e _ _ hs fun ps z => by cases z) (DqAll.ext e ds _ ha)
  | .tuple ds, _, h => by cases h with | tup hs ha => exact .tup (sqT_ext e hs) (DqAll.ext e ds _ ha)
  | .dict _, _, h => by cases h
theorem DqAll.ext {K : PySem.W.Frag} {H H2 : Hp} (e : ExtN H H2) : ∀ (ds : List D) (vs : List V), DqAll K H vs ds → DqAll K H2 vs ds
  | [], _, h => by cases h; exact .nil
  | d :: ds, _, h => by cases h with | cons h1 h2 => exact .cons (Dq.ext e d _ h1) (DqAll.ext e ds _ h2)
end
theorem extN_new {H : Hp} {p : Addr} {o : HO} (h : H p = none) : ExtN H (upd H p o) := fun b u e _ => by rw [upd_ne (ne_of_none e h)]; exact e
theorem tabs_new {T : List (Addr × Str)} {H : Hp} {p : Addr} {o : HO} (t : Tabs T H) (h : H p = none) : Tabs T (upd H p o) := t.ext fun b u e => by rw [upd_ne (ne_of_none e h)]; exact e
/-- a def's code object and its table -/
def TabF (K : PySem.W.Frag) (mg : Str → Option Value) (base : Heap) (x : Str) (P : Addr) : Prop := ∀ f oc od fd osl, mg x = some (.ref f) → K.lookup f = some ⟨oc, od, .func fd, osl⟩ → ∃ c, fd.code = .ref c ∧ TabB base mg c P
/-- a lambda that raises an error of the class D -/
theorem tterr_of {K : PySem.W.Frag} {mg : Str → Option Value} {CE D : Addr} {tl : XK → Hp → VK → Prop} {H : Hp} {Q : VK} {b0 b1 b2 b3 b4 : Bool} (hex : PySem.W.exmOne K (.ref D) (.ref CE) = some true) (hkit : PySem.W.kitOne K (.ref D) (.type "ValueError") = some true) (NX : NamX K mg D b0 b1 b2 b3 b4)
    (h : ∀ (E : XK) (Q : VK), (∀ d B2 H2, DX d B2 → Nx none H H B2 H2 → E (.ref D) d H2) → tl E H Q) (q : ∀ H2, Same H H2 → Q (.str (nameOf [b0, b1, b2, b3, b4])) H2) : TTerr K mg CE tl H Q :=
  h _ _ fun d B2 H2 dx n => ⟨D, B2, b0, b1, b2, b3, b4, rfl, hex, hkit, n.i, dx, NX, fun v B3 H3 n3 d3 => by
    rw [d3.str_inv]
    exact q H3 (n.same.trans n3.same)⟩
theorem lam_takes {X : Cx} {A : Around} {outer : List Env} {s : Shared} {H : Hp} {E : XK} {scope : Scope} {f c' : Addr} : L2N.Takes (lamN X A outer s H E scope f c') (fun cls d _ H => E cls d H) := L2N.takes_of rfl rfl rfl rfl
/-- a def that refuses the bad orders -/
structure HeldR (P : Program) (w : World) (K : PySem.W.Frag) (mg : Str → Option Value) (base : Heap) (k : Nat) (f : Addr) (C : Addr) : Prop where
  ex : ∃ fd p, FnOk P w K mg base (CXR P w) k f fd [p] (PR K (G_nbad C)) ∧ PySem.W.keepIn K (.ref f) = true ∧ Binds K fd [p] []
abbrev qAR : Str := ("_law_all_refused" ++ ".<locals>.") ++ "<lambda>"
abbrev qLaw : Str := ("law" ++ ".<locals>.") ++ "<lambda>"
abbrev tabsT (Pa Pl : Addr) : List (Addr × Str) := [(Pa, qAR), (Pl, qLaw)]
def spAR (P : Program) (w : World) (K : PySem.W.Frag) (mg : Str → Option Value) (base : Heap) (C Pa Pl : Addr) : Sp := fun vs H Q _ => ∃ (g a : Addr) (us : List V), vs = [.ref g, .ref a, .str "order"] ∧ HeldR P w K mg base 4 g C ∧ H a = some (.lst us) ∧ DqAll K H us badL ∧ Tabs (tabsT Pa Pl) H ∧
  ∀ H', ExtN H H' → Tabs (tabsT Pa Pl) H' → Q (.bl true) H'
section
variable {P : Program} {w : World} {K : PySem.W.Frag} {mg : Str → Option Value} {base : Heap} {C CE Pa Pl : Addr}
theorem ok_l_all_refused (T : Fr mg) (hne : Pl ≠ Pa) (TF : TabF K mg base "_law_all_refused" Pa) (hce : mg "OrderError" = some (.ref CE)) (hex : PySem.W.exmOne K (.ref C) (.ref CE) = some true) (hkit : PySem.W.kitOne K (.ref C) (.type "ValueError") = some true) (NX : NamX K mg C true false false false false)
    (FN : ∃ f fd, FnE P w K mg base 1 f fd "_law_e" (spN K mg) ∧ mg "_law_named_error" = some (.ref f) ∧ PySem.W.keepIn K (.ref f) = true ∧ Binds K fd ["_law_e"] []) (Fe : Df K mg "_law_error" s_l_error ["_law_call"]) (F : Df K mg "_law_all_refused" s_l_all_refused ["_law_call", "_law_odds", "_law_name"]) :
    ∃ f fd, FnOk P w K mg base CX0 7 f fd ["_law_call", "_law_odds", "_law_name"] (spAR P w K mg base C Pa Pl) ∧ mg "_law_all_refused" = some (.ref f) ∧ PySem.W.keepIn K (.ref f) = true ∧ Binds K fd ["_law_call", "_law_odds", "_law_name"] [] := by
  obtain ⟨f, fd, F, hm, hbn⟩ := F.ex
  refine ⟨f, fd, ?_, hm, F.kp, hbn⟩
  obtain ⟨oc, od, kV, doc, pm, an, cdv, ct, osl, rfl, lk, hcd⟩ := F.ex
  obtain ⟨c, hc, TB⟩ := TF _ _ _ _ _ hm lk
  have hc : cdv = .ref c := hc
  subst hc
  obtain ⟨fe, fde, Fe, hme, hbe⟩ := Fe.ex
  obtain ⟨oce, ode, kVe, doce, pme, ane, cdve, cte, osle, rfl, lke, hcde⟩ := Fe.ex
  obtain ⟨fn, fdn, FN, hmn, hkn, hbnn⟩ := FN
  refine fn_of lk hcd sc_l_all_refused (fun vs H Q E h => ?_) fun A outer s H vs Q E hr h => ?_
  · obtain ⟨g, a, us, rfl, _⟩ := h
    rfl
  · obtain ⟨g, a, us, rfl, hG, hA, hU, hT, q⟩ := h
    obtain ⟨fdg, pg, FG, hkg, hbg⟩ := hG.ex
    have nd := sc_l_all_refused.nd
    refine ⟨_, (pssW (X := cx P w K mg base N_l_all_refused "_law_all_refused" s_l_all_refused f (.ref c) A outer s H E)).nox, ?_⟩
    refine WSs.of (pss_one (ps_ret (pe_cmpR (op_eqD (hu64 hr)) (pe_lc (own := [("_law_odd", 3)]) (g := gName 3) rfl nd (pi_list (pv 1)) (blkOk_by (N := N_l_all_refused) (sc := defScope s_l_all_refused) (by decide +kernel))
      (fun s' H' C' cl fp => pg_name (i := 3) nd rfl (.inr rfl))
      (fun s' H' C' cl fp => pts_one (pt_cmpR op_ne (pe_lamcallN (T := tabsT Pa Pl) (P := Pa) (c := c) (k := 4) (Ng := N_l_error) (TT := TTerr K mg CE) (t := fun E => tCallL 0 g (PR K (G_nbad C)) [] E (tCons (tVar 3) tNil)) rfl hme Fe.kp lke hcde hbe sc_l_error rfl (.inl rfl)
          (error_gives T hce FN hmn hkn hbnn) TB rfl List.mem_cons_self (fun p hp e => ?_) hr (lamS_by (by kernel_rfl)) rfl (fun _ _ _ _ _ => rfl)
          (fun A2 o2 s2 H2 E2 f2 c2 hr2 => pe_callL FG hr2 rfl (.inr (.inr rfl)) hkg hbg .nil (L2N.passes_call lam_takes fun _ _ _ _ h => h) (pa_cons (pv 3) pa_nil))) (pv 2) (nomark _)))
      (fun s' H' C' cl fp => pv 3)) (pe_lst pa_nil) (nomark _)))) ?_
    · rcases List.mem_cons.mp hp with z | z
      · rw [z] <;> rfl
      · rw [List.mem_singleton.mp z] at e
        exact absurd e hne
    · refine ⟨_, rfl, a, rfl, ⟨us, SqL.of hA⟩, fun D hD => lc_list (fun i H' => ExtN (upd H D (.lst [])) H' ∧ Tabs (tabsT Pa Pl) H') ⟨ExtN.refl _, tabs_new hT hD⟩ (fun i H' _ ⟨e1, _⟩ => SqL.of (e1 _ _ (by rw [upd_ne (ne_of_none hA hD)]; exact hA) fun ps z => by cases z)) (fun i x H' hx ⟨e1, t1⟩ => ?_) fun H' ⟨e1, t1⟩ => ?_⟩
      · obtain ⟨d, hd, dx⟩ := hU.atV hx
        obtain ⟨b1, b2⟩ := bad_all d (List.mem_of_getElem? hd)
        refine ⟨rfl, t1, fun H1 e2 t2 => tterr_of hex hkit NX (fun E2 Q2 hE => ⟨rfl, _, rfl, H1, [d], .ref C, Same.refl H1, .cons (Dq.ext e2 _ _ (Dq.ext e1 _ _ (Dq.ext (extN_new hD) _ _ dx))) .nil, ⟨d, b1, b2, rfl, rfl⟩, fun d' B2 H2 dx n => hE d' B2 H2 dx n⟩) fun H2 s2 => ?_⟩
        have en : nameOf [true, false, false, false, false] = ("order" : Str) := by decide +kernel
        rw [en]
        refine ⟨_, rfl, rfl, _, rfl, ?_⟩
        rw [decide_eq_true rfl]
        exact ⟨e1.trans (e2.trans (ExtN.of s2)), t2.ext s2⟩
      · have hD1 : H' D = some (.lst []) := e1 _ _ upd_same fun ps z => by cases z
        refine ⟨show 0 ≤ sizeLine by decide, fun p hp => ?_⟩
        refine ⟨.list [], .list [], .lst (SqL.of (by rw [upd_ne (ne_of_none hD1 hp)]; exact hD1)) .nil, .lst (SqL.of upd_same) .nil, rfl, rfl, ?_⟩
        exact q _ (((extN_new hD).trans e1).trans (extN_new hp)) (tabs_new t1 hp)
end
end K45
set_option maxHeartbeats 4000000
/-! The script: a list that the head gives, written nowhere. -/
namespace K45
open PySem PySem.Spec PyProof.Rows L2
def ScrE (K : PySem.W.Frag) (bs : List Int) (v : V) (H : Hp) : Prop := ∃ a, v = .ref a ∧ SqL K H a (bs.map V.int)
theorem sqL_up {K : PySem.W.Frag} {H H2 : Hp} {a : Addr} {xs : List V} (e : Same H H2) (h : SqL K H a xs) : SqL K H2 a xs := by
  rcases h with (h | ⟨o, h⟩) | h
  · exact .inl (.inl (e _ _ h))
  · exact .inl (.inr ⟨o, e _ _ h⟩)
  · exact .inr h
theorem ScrE.up (K : PySem.W.Frag) (bs : List Int) : ∀ v H H', Same H H' → ScrE K bs v H → ScrE K bs v H' := fun _ _ _ s ⟨a, e, h⟩ => ⟨a, e, sqL_up s h⟩
abbrev scr (K : PySem.W.Frag) (bs : List Int) : Option Sv := some (.x (ScrE K bs) (ScrE.up K bs))
def PS (K : PySem.W.Frag) (G : List Int → List D → D → Prop) : Sp := fun vs H Q _ => ∃ (B : Hp) (bs : List Int) (u : V) (us : List V) (ds : List D) (d : D), vs = u :: us ∧ Same B H ∧ ScrE K bs u B ∧ DqAll K B us ds ∧ G bs ds d ∧ ∀ v B2 H2, Nx none B H B2 H2 → Dq K B2 v d → Q v H2
def PSF (K : PySem.W.Frag) (G : List Int → List D → Prop) : Sp := fun vs H Q _ => ∃ (B : Hp) (bs : List Int) (u : V) (us : List V) (ds : List D), vs = u :: us ∧ Same B H ∧ ScrE K bs u B ∧ DqAll K B us ds ∧ G bs ds ∧
  ∀ (l : Addr) (xs : List Int) B2 H2, Nx none B H B2 H2 → H l = none → B2 l = none → H2 l = some (.lst (xs.map V.int)) → Q (.ref l) H2
def stS (K : PySem.W.Frag) (N : List Str) (bs : List Int) (ds : List D) : Sto := scr K bs :: ((ds.map fun d => some (Sv.d d)) ++ List.replicate (N.length - (ds.length + 1)) none)
theorem sl_startS {K : PySem.W.Frag} {m : Option Addr} {H0 B H : Hp} {bs : List Int} {u : V} {N : List Str} {vs : List V} {ds : List D} (hu : ScrE K bs u B) (h : DqAll K B vs ds) : Sl K m H0 B H (stS K N bs ds) (L2.start N (u :: vs)) := by
  have e : L2.start N (u :: vs) = some u :: ((vs.map some) ++ List.replicate (N.length - (vs.length + 1)) none) := rfl
  rw [e]
  have hl := h.len
  refine ⟨by simp [stS, hl], fun i s e => ?_⟩
  cases i with
  | zero =>
    cases e
    exact ⟨_, rfl, hu⟩
  | succ i =>
    have e : (((ds.map fun d => some (Sv.d d)) ++ List.replicate (N.length - (ds.length + 1)) none) : Sto)[i]? = some (some s) := e
    show ∃ v, ((vs.map some) ++ List.replicate (N.length - (vs.length + 1)) none)[i]? = _ ∧ _
    by_cases hi : i < ds.length
    · rw [List.getElem?_append_left (by rw [List.length_map]; exact hi), List.getElem?_map] at e
      cases q : ds[i]? with
      | none => rw [q] at e; cases e
      | some d =>
        rw [q] at e
        cases e
        obtain ⟨v, hv, dv⟩ := h.at_ q
        refine ⟨v, ?_, dv⟩
        rw [List.getElem?_append_left (by rw [List.length_map, hl]; exact hi), List.getElem?_map, hv]
        rfl
    · rw [List.getElem?_append_right (by rw [List.length_map]; omega), List.getElem?_replicate] at e
      split at e <;> cases e
section
variable {P : Program} {w : World} {K : PySem.W.Frag} {mg : Str → Option Value} {base : Heap}
structure ClS (P : Program) (w : World) (K : PySem.W.Frag) (mg : Str → Option Value) (base : Heap) (k : Nat) (x : Str) (ps : List Str) (G : List Int → List D → D → Prop) : Prop where
  ex : ∃ f fd, FnOk P w K mg base CX0 k f fd ps (PS K G) ∧ mg x = some (.ref f) ∧ PySem.W.keepIn K (.ref f) = true ∧ Binds K fd ps []
structure ClSF (P : Program) (w : World) (K : PySem.W.Frag) (mg : Str → Option Value) (base : Heap) (k : Nat) (x : Str) (ps : List Str) (G : List Int → List D → Prop) : Prop where
  ex : ∃ f fd, FnOk P w K mg base CX0 k f fd ps (PSF K G) ∧ mg x = some (.ref f) ∧ PySem.W.keepIn K (.ref f) = true ∧ Binds K fd ps []
theorem Df.okS {x : Str} {st : Stmt} {ps N : List Str} {k : Nat} {G : List Int → List D → D → Prop} (F : Df K mg x st ps) (S : FnScope N ps (defScope st)) (hl : ∀ bs ds d, G bs ds d → ds.length + 1 = ps.length)
    (hb : ∀ f cdv A outer s H E bs ds d, Room k (A.deeper (envOfC x (defScope st) s.heap.objs.size f cdv)) → G bs ds d →
      HS (cx P w K mg base N x st f cdv A outer s H E) none (stS K N bs ds) (defBody st) { nx := fun _ => d = .none, rt := fun d' => d' = d }) : ClS P w K mg base (k + 1) x ps G := by
  obtain ⟨f, fd, F, hm, hbn⟩ := F.ex
  refine ⟨f, fd, ?_, hm, F.kp, hbn⟩
  refine F.ok S (fun vs H Q E h => ?_) (fun cdv A outer s H vs Q E hr h => ?_)
  · obtain ⟨B, bs, u, us, ds, d, rfl, _, _, ha, g, _⟩ := h
    rw [List.length_cons, ha.len]
    exact hl bs ds d g
  · obtain ⟨B, bs, u, us, ds, d, rfl, sm, hu, ha, g, q⟩ := h
    refine ⟨fun E' σ' H' => WSs (cx P w K mg base N x st f cdv A outer s H E) (defBody st) E' σ' H', pssW, ?_⟩
    refine WSs.mono (hb f cdv A outer s H E bs ds d hr g B B H _ H ⟨B, Same.refl B, Nx.refl sm, (fun _ z => nomatch z), sl_startS hu ha⟩) (fun σ' H' ⟨st', e, B', _, n, _, _⟩ => ?_) (fun v H' ⟨d', B', e, _, n, _, dv, _⟩ => ?_) (fun σ' H' ⟨st', e, _⟩ => (show False from e)) (fun σ' H' ⟨st', e, _⟩ => (show False from e))
    · have e : d = .none := e
      subst e
      exact q .non B' H' n .non
    · have e : d' = d := e
      subst e
      exact q v B' H' n dv
theorem Df.okSF {x : Str} {st : Stmt} {ps N : List Str} {k : Nat} {G : List Int → List D → Prop} (F : Df K mg x st ps) (S : FnScope N ps (defScope st)) (hl : ∀ bs ds, G bs ds → ds.length + 1 = ps.length)
    (hb : ∀ f cdv A outer s H E bs ds, Room k (A.deeper (envOfC x (defScope st) s.heap.objs.size f cdv)) → G bs ds →
      HS (cx P w K mg base N x st f cdv A outer s H E) none (stS K N bs ds) (defBody st) { nx := fun _ => False, rt := fun d' => ∃ bs : List Int, d' = .list (bs.map .int), fr := true }) : ClSF P w K mg base (k + 1) x ps G := by
  obtain ⟨f, fd, F, hm, hbn⟩ := F.ex
  refine ⟨f, fd, ?_, hm, F.kp, hbn⟩
  refine F.ok S (fun vs H Q E h => ?_) (fun cdv A outer s H vs Q E hr h => ?_)
  · obtain ⟨B, bs, u, us, ds, rfl, _, _, ha, g, _⟩ := h
    rw [List.length_cons, ha.len]
    exact hl bs ds g
  · obtain ⟨B, bs0, u, us0, ds, rfl, sm, hu, ha, g, q⟩ := h
    refine ⟨fun E' σ' H' => WSs (cx P w K mg base N x st f cdv A outer s H E) (defBody st) E' σ' H', pssW, ?_⟩
    refine WSs.mono (hb f cdv A outer s H E bs0 ds hr g B B H _ H ⟨B, Same.refl B, Nx.refl sm, (fun _ z => nomatch z), sl_startS hu ha⟩) (fun σ' H' ⟨st', e, _⟩ => (show False from e).elim) (fun v H' ⟨d', B', e, _, n, _, dv, fr⟩ => ?_) (fun σ' H' ⟨st', e, _⟩ => (show False from e)) (fun σ' H' ⟨st', e, _⟩ => (show False from e))
    obtain ⟨bs, rfl⟩ := e
    obtain ⟨l, rfl, hl0⟩ := fr rfl
    obtain ⟨a, us, e1, e2, e3⟩ := dv.lst_inv
    cases e1
    rw [e3.ints_inv] at e2
    have bl : B l = none := same_sub sm hl0
    refine q l bs (fun a => if a = l then none else B' a) H' ⟨fun a o h => ?_, n.h, fun a o h => ?_, fun a h => ?_, n.k⟩ hl0 (if_pos rfl) (n.i _ _ e2)
    · rw [if_neg (fun z => by rw [z, bl] at h; cases h)]
      exact n.b a o h
    · by_cases z : a = l
      · rw [if_pos z] at h; cases h
      · rw [if_neg z] at h
        exact n.i a o h
    · rw [if_neg (fun z => h (by rw [z]; exact hl0))]
      exact n.n a h
end
section
variable {X : Cx} {st : Sto} {e e1 e2 : Expr} {es : List Expr} {d : D} {ds : List D} {bs : List Int} {pos p : Pos}
theorem ed_lenS (hm : X.mg "len" = none) (h : EX X st e (ScrE X.K bs)) (hg : Gl X "len" := by rfl) (he : starEach [e] X.env = (false, eval e X.env) :: starEach [] X.env := by rfl) : ED X st (.Call (.Name "len" p) [e] [] pos) (.int (bs.length : Int)) := fun m H0 B H σ s l Q q =>
  WE.of (pe_callB call_len_seq hg hm PySem.boot_len (pa_cons peW pa_nil he) (he := he)) (h m H0 B H σ s l _ fun v B1 H1 n1 ⟨a, ea, hS⟩ => by
    subst ea
    refine ⟨a, _, rfl, .inl (sqL_up n1.i hS), ?_⟩
    rw [List.length_map]
    exact q _ B1 H1 n1 (.int _))
theorem ed_ixS {i : Int} {k : Nat} (h1 : EX X st e1 (ScrE X.K bs)) (h2 : ED X st e2 (.int i)) (hi : i = (k : Int)) (hk : k < bs.length) (hs : PlainIx e2 := by exact fun _ _ => rfl) : ED X st (.Subscript e1 e2 pos) (.int (bs.getD k 0)) := fun m H0 B H σ s l Q q =>
  WE.of (pe_ix ix_list peW peW hs) (h1 m H0 B H σ s l _ fun v B1 H1 n1 ⟨a, ea, hS⟩ => h2.any n1.i (l.nx n1.any) fun y B2 H2 n2 d2 => by
    subst ea
    refine ⟨a, _, i, .int (bs.getD k 0), rfl, d2.int_inv, sqL_up (n1.i.trans n2.same) hS, ?_, q _ B2 H2 (n1.trans n2) (.int _)⟩
    rw [hi]
    refine atI_nat ?_
    rw [List.getElem?_map, List.getElem?_eq_getElem hk, List.getD_eq_getElem?_getD, List.getElem?_eq_getElem hk]
    rfl)
theorem ed_clS {j k : Nat} {ps : List Str} {G : List Int → List D → D → Prop} {x y : Str} (i : Nat) {q1 : Pos} (cl : ClS X.prog X.w X.K X.mg X.base j x ps G) (hr : Room k X.A) (ha : EDs X st es ds) (hG : G bs ds d) (hi : st[i]? = some (scr X.K bs) := by rfl) (hN : X.N[i]? = some y := by rfl)
    (hv : Vis X.env.scope y := by first | exact Or.inl rfl | exact Or.inr (Or.inl rfl) | exact Or.inr (Or.inr rfl)) (hd : (y == ("__debug__" : Str)) = false := by decide) (hcd : (y == ("__classdict__" : Str)) = false := by decide) (hj : j ≤ k := by decide) (hg : Gl X x := by rfl)
    (hdb : (x == ("__debug__" : Str)) = false := by decide) (he : starEach (.Name y q1 :: es) X.env = (false, eval (.Name y q1) X.env) :: starEach es X.env := by rfl) (hpl : (backTo pos (starEach es X.env)).any (·.1) = false := by rfl) : ED X st (.Call (.Name x p) (.Name y q1 :: es) [] pos) d := fun m H0 B H σ s l Q q => by
  obtain ⟨f, fd, F, hm, hk, hb⟩ := cl.ex
  obtain ⟨v, hv1, hv2⟩ := l.2 i _ hi
  have hv2 : ScrE X.K bs v B := hv2
  refine WE.of (pe_call F (hr.mono hj) hg hm hk hb .nil pass0 (pa_cons (pe_var hN hv hd hcd) paW he) hdb he hpl) ⟨_, hv1, ha m H0 B H σ s l _ fun xs B1 H1 n1 d1 => ?_⟩
  show PS X.K G (v :: xs ++ []) H1 Q E0
  rw [List.append_nil]
  exact ⟨B1, bs, v, xs, ds, d, rfl, n1.i, ScrE.up _ _ _ _ _ n1.b hv2, d1, hG, fun v B2 H2 n2 d2 => q v B2 H2 (n1.trans n2) d2⟩
theorem ef_clS {j k : Nat} {ps : List Str} {G : List Int → List D → Prop} {x y : Str} (i : Nat) {q1 : Pos} (cl : ClSF X.prog X.w X.K X.mg X.base j x ps G) (hr : Room k X.A) (ha : EDs X st es ds) (hG : G bs ds) (hi : st[i]? = some (scr X.K bs) := by rfl) (hN : X.N[i]? = some y := by rfl)
    (hv : Vis X.env.scope y := by first | exact Or.inl rfl | exact Or.inr (Or.inl rfl) | exact Or.inr (Or.inr rfl)) (hd : (y == ("__debug__" : Str)) = false := by decide) (hcd : (y == ("__classdict__" : Str)) = false := by decide) (hj : j ≤ k := by decide) (hg : Gl X x := by rfl)
    (hdb : (x == ("__debug__" : Str)) = false := by decide) (he : starEach (.Name y q1 :: es) X.env = (false, eval (.Name y q1) X.env) :: starEach es X.env := by rfl) (hpl : (backTo pos (starEach es X.env)).any (·.1) = false := by rfl) : EF X st (.Call (.Name x p) (.Name y q1 :: es) [] pos) := fun m H0 B H σ s l Q q => by
  obtain ⟨f, fd, F, hm, hk, hb⟩ := cl.ex
  obtain ⟨v, hv1, hv2⟩ := l.2 i _ hi
  have hv2 : ScrE X.K bs v B := hv2
  refine WE.of (pe_call F (hr.mono hj) hg hm hk hb .nil pass0 (pa_cons (pe_var hN hv hd hcd) paW he) hdb he hpl) ⟨_, hv1, ha m H0 B H σ s l _ fun xs B1 H1 n1 d1 => ?_⟩
  show PSF X.K G (v :: xs ++ []) H1 Q E0
  rw [List.append_nil]
  refine ⟨B1, bs, v, xs, ds, rfl, n1.i, ScrE.up _ _ _ _ _ n1.b hv2, d1, hG, fun k bs B2 H2 n2 h1 h2 h3 => q k bs B2 H2 (n1.trans n2) ?_ h2 h3⟩
  cases z : H k with
  | none => rfl
  | some o => exact absurd h1 (n1.k k (by rw [z]; exact fun z => nomatch z))
end
section
variable {P : Program} {w : World} {K : PySem.W.Frag} {mg : Str → Option Value} {base : Heap}
abbrev GS_cell (bs : List Int) (ds : List D) (d : D) : Prop := ds = [.int 0] ∧ d = .int (cellO bs)
theorem ok_s_cell (T : Fr mg) (F : Df K mg "_law_cell" s_l_cell ["_law_script", "_law_k"]) : ClS P w K mg base 1 "_law_cell" ["_law_script", "_law_k"] GS_cell := by
  refine F.okS sc_l_cell (fun bs ds d h => ?_) (fun f cdv A outer s H E bs ds d hr h => ?_)
  · obtain ⟨rfl, rfl⟩ := h
    rfl
  · obtain ⟨rfl, rfl⟩ := h
    refine hs_when (et_ltI (ed_var 1) (ed_lenS T.len (ex_var 0))) (fun z => ?_) (fun z => ?_)
    · have z := of_decide_eq_true z
      have z2 : 0 < bs.length := by omega
      refine hs_ret (ed_ixS (k := 0) (ex_var 0) (ed_var 1) rfl z2) ?_
      show _ = _
      unfold cellO
      rw [if_pos z2]
    · have z := of_decide_eq_false z
      have z2 : ¬ 0 < bs.length := by omega
      refine hs_when (et_eqI (ed_lenS T.len (ex_var 0)) ed_int) (fun _ => hs_ret (ed_addI (ed_mulI (.inl (by omega)) ed_int (ed_var 1)) ed_int) ?_) (fun z3 => ?_)
      · show _ = _
        unfold cellO
        rw [if_neg z2]
        rfl
      · have z3 := of_decide_eq_false z3
        omega
abbrev GS_draws (bs : List Int) (ds : List D) : Prop := ds = [.int 0, .int 150, .int 27720]
theorem ok_s_draws (T : Fr mg) (c1 : ClS P w K mg base 1 "_law_cell" ["_law_script", "_law_k"] GS_cell) (F : Df K mg "_law_draws" s_l_draws ["_law_script", "_law_k", "_law_many", "_law_base"]) : ClSF P w K mg base 2 "_law_draws" ["_law_script", "_law_k", "_law_many", "_law_base"] GS_draws := by
  refine F.okSF sc_l_draws (fun bs ds h => ?_) (fun f cdv A outer s H E bs ds hr h => ?_)
  · subst h
    rfl
  · subst h
    have nd := sc_l_draws.nd
    refine hs_set 4 (d := oD P8) nd (ed_tup (eds_cons ed_int (eds_cons ed_int (eds_cons ed_int (eds_cons ed_int (eds_cons ed_int (eds_cons ed_int (eds_cons ed_int (eds_1 ed_int)))))))) (show 8 ≤ 100000 by decide)) ?_
    refine hs_set 5 (d := .int (cellO bs)) nd (ed_clS 0 c1 hr (eds_1 (ed_var 1)) ⟨rfl, rfl⟩) ?_
    generalize cellO bs = c
    refine hs_set 6 (d := .int 0) nd ed_int ?_
    have tail : ∀ r0 : Int, HS (cx P w K mg base N_l_draws "_law_draws" s_l_draws f cdv A outer s H E) none [scr K bs, some (.d (.int 0)), some (.d (.int 150)), some (.d (.int 27720)), some (.d (oD P8)), some (.d (.int c)), some (.d (.int r0)), none, none, none] ((defBody s_l_draws).drop 4) { nx := fun _ => False, rt := fun d' => ∃ bs : List Int, d' = .list (bs.map .int), fr := true } := fun r0 => by
      refine hs_ownNil 7 nd ?_
      refine hs_for (xs := upD 0 (150 : Int).toNat) (fun i st' => ∃ (r : Int) (xs : List Int), xs.length = i ∧ i ≤ 150 ∧ st' = [scr K bs, some (.d (.int 0)), some (.d (.int 150)), some (.d (.int 27720)), some (.d (oD P8)), some (.d (.int c)), some (.d (.int r)), some (.own (xs.map .int)), none, none]) (pg_name (i := 8) nd rfl (.inl rfl)) (ei_range1 T.range (ed_var 2) (by omega)) ⟨r0, [], rfl, Nat.zero_le _, rfl⟩ (fun i d st' hd hst => ?_) (fun st' hst => ?_)
      · obtain ⟨hi, rfl⟩ := upD_at hd
        have hi : i < 150 := hi
        obtain ⟨r, xs, hx, _, rfl⟩ := hst
        rw [Int.zero_add]
        refine ⟨_, gt_name 8, ?_⟩
        have m1 : ((i : Int) % 8) = ((i % 8 : Nat) : Int) := by omega
        have m2 : ((3 * (i : Int) + 0) % 8) = (((3 * i) % 8 : Nat) : Int) := by omega
        have m3 : (((i : Int) + 5) % 8) = (((i + 5) % 8 : Nat) : Int) := by omega
        have l1 : i % 8 < 8 := Nat.mod_lt _ (by decide)
        have l2 : (3 * i) % 8 < 8 := Nat.mod_lt _ (by decide)
        have l3 : (i + 5) % 8 < 8 := Nat.mod_lt _ (by decide)
        have b2 : ∀ x : Int, 0 ≤ x % P8.getD ((3 * i) % 8) 0 ∧ x % P8.getD ((3 * i) % 8) 0 < 4294967296 := fun x => by
          have q := p8_rg l2
          have := Int.emod_nonneg x (b := P8.getD ((3 * i) % 8) 0) (by omega)
          have := Int.emod_lt_of_pos x q.1
          omega
        refine hs_set 9 nd (ed_mulI ?_ (ed_modI (p8_rg l1).1 (ed_var 5) (ed_atO (k := i % 8) (ed_var 4) (ed_modI (by decide) (ed_var 8) ed_int) m1 l1)) (ed_addI ed_int (ed_mulI ?_ (ed_mulI ?_ ed_int (ed_var 8)) (ed_var 8)))) ?_
        · left
          have q := p8_rg l1
          have := Int.emod_nonneg c (b := P8.getD (i % 8) 0) (by omega)
          have := Int.emod_lt_of_pos c q.1
          omega
        · left; omega
        · left; omega
        refine hs_set 9 nd (ed_addI (ed_addI (ed_var 9) (ed_mulI ?_ (ed_mulI ?_ ed_int (ed_addI (ed_var 8) ed_int)) (ed_addI (ed_var 8) ed_int))) (ed_mulI ?_ ed_int (ed_var 1))) ?_
        · left; omega
        · left; omega
        · left; omega
        refine hs_set 9 nd (ed_modI (p8_rg l2).1 (ed_var 9) (ed_atO (k := (3 * i) % 8) (ed_var 4) (ed_modI (by decide) (ed_addI (ed_mulI ?_ ed_int (ed_var 8)) (ed_var 1)) ed_int) m2 l2)) ?_
        · left; omega
        generalize hm : _ % P8.getD ((3 * i) % 8) 0 = mm
        have hm2 : 0 ≤ mm ∧ mm < 4294967296 := by rw [← hm]; exact b2 _
        refine hs_set 9 nd (ed_modI (p8_rg l3).1 (ed_mulI ?_ (ed_mulI ?_ (ed_var 9) (ed_var 9)) (ed_var 9)) (ed_atO (k := (i + 5) % 8) (ed_var 4) (ed_modI (by decide) (ed_addI (ed_var 8) ed_int) ed_int) m3 l3)) ?_
        · right; omega
        · left; omega
        generalize (mm * mm * mm) % P8.getD ((i + 5) % 8) 0 = m5
        refine hs_join (fun s => ∃ m6 : Int, s = [scr K bs, some (.d (.int 0)), some (.d (.int 150)), some (.d (.int 27720)), some (.d (oD P8)), some (.d (.int c)), some (.d (.int r)), some (.own (xs.map .int)), some (.d (.int i)), some (.d (.int m6))]) (et_gtI (ed_var 6) ed_int) (fun _ => hs_set 9 nd (ed_var 6) (hs_nil ⟨r, rfl⟩)) (fun _ => ⟨m5, rfl⟩) (fun s7 hs7 => ?_)
        obtain ⟨m6, rfl⟩ := hs7
        refine hs_append 7 (d := .int (m6 % 27720)) rfl (ed_modI (by decide) (ed_var 9) (ed_var 3)) (by rw [List.length_map]; omega) ?_
        refine hs_set 6 (d := .int (r.fdiv 27720)) nd (ed_fdivI (by unfold CDivN; omega) (ed_var 6) (ed_var 3)) ?_
        refine hs_end (st1 := [scr K bs, some (.d (.int 0)), some (.d (.int 150)), some (.d (.int 27720)), some (.d (oD P8)), some (.d (.int c)), some (.d (.int (r.fdiv 27720))), some (.own ((xs ++ [m6 % 27720]).map .int)), none, none]) ⟨_, _, by rw [List.length_append, hx]; rfl, hi, rfl⟩ ?_
        rw [List.map_append]
        exact .so (.so (.so (.so (.so (.so (.so (.so (.no (.no .nil)))))))))
      · obtain ⟨r, xs, hx, _, rfl⟩ := hst
        exact hs_retOwn 7 rfl ⟨xs, rfl⟩
    refine hs_when (et_geI (ed_var 5) (ed_powI (by unfold CPow; omega) ed_int ed_int)) (fun _ => hs_set 6 nd (ed_var 5) (hs_nil (tail c))) (fun _ => tail 0)
abbrev GS_bag (bs : List Int) (ds : List D) : Prop := ds = [.int 0]
theorem ok_s_bag (c1 : ClSF P w K mg base 2 "_law_draws" ["_law_script", "_law_k", "_law_many", "_law_base"] GS_draws) (F : Df K mg "_law_bag" s_l_bag ["_law_script", "_law_k"]) : ClSF P w K mg base 3 "_law_bag" ["_law_script", "_law_k"] GS_bag := by
  refine F.okSF sc_l_bag (fun bs ds h => ?_) (fun f cdv A outer s H E bs ds hr h => ?_)
  · subst h
    rfl
  · subst h
    exact hs_retF (ef_clS 0 c1 hr (eds_cons (ed_var 1) (eds_cons ed_int (eds_1 ed_int))) rfl) fun xs => ⟨xs, rfl⟩
end
end K45
set_option maxHeartbeats 4000000
/-! law: the part with the lambdas. -/
namespace K45
open PySem PySem.Spec PyProof.Rows L2 LamX
section
variable {P : Program} {w : World} {K : PySem.W.Frag} {mg : Str → Option Value} {base : Heap} {C CM CE Pa Pl : Addr}
/-- what is known for the two lambdas -/
structure HotF (P : Program) (w : World) (K : PySem.W.Frag) (mg : Str → Option Value) (base : Heap) (C CM CE Pa Pl : Addr) : Prop where
  T : Fr mg
  ne : Pl ≠ Pa
  ce : mg "OrderError" = some (.ref CE)
  ar : ∃ f fd, FnOk P w K mg base CX0 7 f fd ["_law_call", "_law_odds", "_law_name"] (spAR P w K mg base C Pa Pl) ∧ mg "_law_all_refused" = some (.ref f) ∧ PySem.W.keepIn K (.ref f) = true ∧ Binds K fd ["_law_call", "_law_odds", "_law_name"] []
  bad : Cl P w K mg base 1 "_law_bad_orders" [] G_bad
  sm : ClR P w K mg base 4 "is_smooth" ["order"] (G_nbad C)
  sz : ClR P w K mg base 4 "sizes_below" ["order"] (G_nbad C)
  many : ClR P w K mg base 4 "sizes_below" ["order"] (G_toomany CM)
  plain : Cl P w K mg base 1 "_law_plain" ["_law_many"] G_plain
  named : ∃ f fd, FnE P w K mg base 1 f fd "_law_e" (spN K mg) ∧ mg "_law_named_error" = some (.ref f) ∧ PySem.W.keepIn K (.ref f) = true ∧ Binds K fd ["_law_e"] []
  err : Df K mg "_law_error" s_l_error ["_law_call"]
  exM : PySem.W.exmOne K (.ref CM) (.ref CE) = some true
  kitM : PySem.W.kitOne K (.ref CM) (.type "ValueError") = some true
  NM : NamX K mg CM false false false false true
theorem HeldR.of {x p : Str} {k : Nat} (c : ClR P w K mg base k x [p] (G_nbad C)) : ∃ f, mg x = some (.ref f) ∧ HeldR P w K mg base k f C := by
  obtain ⟨f, fd, F, hm, hk, hb⟩ := c.ex
  exact ⟨f, hm, fd, p, F, hk, hb⟩
/-- the statements of law from the if on -/
def lawIf : Stmt := (defBody s_law).getD 6 (.Pass ⟨0, 0, 0, 0⟩)
def ifBody : Stmt → List Stmt
  | .If _ u _ _ => u
  | _ => []
abbrev cL (P : Program) (w : World) (K : PySem.W.Frag) (mg : Str → Option Value) (base : Heap) (f : Addr) (cdv : Value) (A : Around) (outer : List Env) (s : Shared) (H : Hp) (E : XK) : Cx := cx P w K mg base N_law "law" s_law f cdv A outer s H E
theorem plain7 : IsOrd (plainO 7) ∧ 6 < (plainO 7).length := ⟨⟨by decide +kernel, by decide +kernel, by decide +kernel, by decide +kernel⟩, by decide +kernel⟩
theorem hot_for (h : HotF P w K mg base C CM CE Pa Pl) {f : Addr} {cdv : Value} {A : Around} {outer : List Env} {s : Shared} {H0 : Hp} {E0 : XK} (hr : Room 7 (A.deeper (envOfC "law" (defScope s_law) s.heap.objs.size f cdv))) {D : Ends} (hD : ∀ σ H, σ.length = 7 → Tabs (tabsT Pa Pl) H → D.nx σ H) {σ : L2.St} {H : Hp} (hl : σ.length = 7) (hT : Tabs (tabsT Pa Pl) H)
    {kt kk kb : Nat} {p1 p2 p3 p4 p5 p6 p7 p8 p9 p10 p11 p12 p13 p14 p15 : Pos} :
    WS (cL P w K mg base f cdv A outer s H0 E0) (.For (.Name "_law_call" p1) (.Tuple [.Name "is_smooth" p2, .Name "sizes_below" p3] kt p4) [.If (.UnaryOp .Not (.Call (.Name "_law_all_refused" p5) [.Name "_law_call" p6, .Call (.Name "_law_bad_orders" p7) [] [] p8, .Constant (.str "order") kk p9] [] p10) p11) [.Return (some (.Constant (.bool false) kb p12)) p13] [] p14] [] p15) D σ H := by
  have nd := sc_law.nd
  obtain ⟨fa, fda, FA, hma, hka, hba⟩ := h.ar
  obtain ⟨fb, fdb, FB, hmb, hkb, hbb⟩ := h.bad.ex
  obtain ⟨fs, hms, HSm⟩ := HeldR.of h.sm
  obtain ⟨fz, hmz, HSz⟩ := HeldR.of h.sz
  refine WS.of (ps_for PassesOwn.never rfl (pi_tup (pe_tup (pa_cons (pe_glob (by rfl) hms (v := .ref fs) rfl) (pa_cons (pe_glob (by rfl) hmz (v := .ref fz) rfl) pa_nil)))) (pg_name (i := 4) nd rfl (.inl rfl))
      (pss_one (ps_if (pt_not (pt_val (pe_call FA hr (by rfl) hma hka hba .nil pass0 (pa_cons (pv 4) (pa_cons (pe_call0 FB (hr.mono (by decide)) (by rfl) hmb hkb hbb .nil pass0) (pa_cons pe_str pa_nil)))) (by intro _; rfl))) (pss_one (ps_ret pe_bl)) pss_nil))) ?_
  refine ⟨show 2 ≤ sizeLine by decide, fun p hp => ⟨p, rfl, ⟨_, .inl (.inl upd_same)⟩, for_tup (xs := [.ref fs, .ref fz]) (fun i σ' H' => σ'.length = 7 ∧ ExtN (upd H p (.tup [.ref fs, .ref fz])) H' ∧ Tabs (tabsT Pa Pl) H') ⟨hl, ExtN.refl _, tabs_new hT hp⟩ (fun i σ' H' _ ⟨_, e1, _⟩ => .inl (.inl (e1 _ _ upd_same fun ps z => by cases z))) (fun i x σ' H' hx ⟨hl, e1, t1⟩ => ?_) (fun σ' H' ⟨hl, e1, t1⟩ => hD σ' H' hl t1)⟩⟩
  have hh : ∃ g, x = .ref g ∧ HeldR P w K mg base 4 g C := by
    match i, hx with
    | 0, hx => cases hx; exact ⟨_, rfl, HSm⟩
    | 1, hx => cases hx; exact ⟨_, rfl, HSz⟩
    | i + 2, hx => simp at hx
  obtain ⟨g, rfl, hg⟩ := hh
  refine ⟨_, List.getElem?_set_self (by rw [hl]; decide), H', [], .list badL, Same.refl _, .nil, ⟨rfl, rfl⟩, fun v B2 H2 n2 d2 => ?_⟩
  obtain ⟨a, us, rfl, t2, a2⟩ := d2.lst_inv
  refine ⟨g, a, us, rfl, hg, n2.i _ _ t2, DqAll.up n2.i a2, t1.ext n2.same, fun H3 e3 t3 => ⟨true, rfl, ?_⟩⟩
  exact ⟨by rw [List.length_set]; exact hl, e1.trans ((ExtN.of n2.same).trans e3), t3⟩
theorem hot_lam (h : HotF P w K mg base C CM CE Pa Pl) {f c : Addr} {A : Around} {outer : List Env} {s : Shared} {H0 : Hp} {E0 : XK} (TB : TabB base mg c Pl) (hr : Room 7 (A.deeper (envOfC "law" (defScope s_law) s.heap.objs.size f (.ref c)))) {D : Ends} (hD : ∀ σ H, σ.length = 7 → D.nx σ H) {σ : L2.St} {H : Hp} (hl : σ.length = 7) (hT : Tabs (tabsT Pa Pl) H)
    {k1 k2 kb : Nat} {p1 p2 p3 p4 p5 p6 p7 p8 p9 p10 p11 p12 p13 : Pos} :
    WS (cL P w K mg base f (.ref c) A outer s H0 E0) (.If (.Compare (.Call (.Name "_law_error" p1) [.Lambda { posonlyargs := [], args := [], vararg := none, kwonlyargs := [], kw_defaults := [], kwarg := none, defaults := [] } (.Call (.Name "sizes_below" p2) [.Call (.Name "_law_plain" p3) [.Constant (.int 7) k1 p4] [] p5] [] p6)
      { kind := .function, names := [(Str.ofString "sizes_below", .globalImplicit), (Str.ofString "_law_plain", .globalImplicit)], isGenerator := false, isCoroutine := false, more := [] } p7] [] p8) [.NotEq] [.Constant (.str "many") k2 p9] p10) [.Return (some (.Constant (.bool false) kb p11)) p12] [] p13) D σ H := by
  obtain ⟨fz2, fdz2, FZ, hmz2, hkz2, hbz2⟩ := h.many.ex
  obtain ⟨fp, fdp, FP, hmp, hkp, hbp⟩ := h.plain.ex
  obtain ⟨fn, fdn, FN, hmn, hkn, hbnn⟩ := h.named
  obtain ⟨fe, fde, Fe, hme, hbe⟩ := h.err.ex
  obtain ⟨oce, ode, kVe, doce, pme, ane, cdve, cte, osle, rfl, lke, hcde⟩ := Fe.ex
  refine WS.of (ps_if (pt_cmpR op_ne (pe_lamcallN (T := tabsT Pa Pl) (P := Pl) (c := c) (k := 4) (Ng := N_l_error) (TT := TTerr K mg CE) (t := fun E => tCall (PR K (G_toomany CM)) [] E (tCons (tCall (PP K G_plain) [] L2.E0 (tCons (tC (.int 7)) tNil)) tNil)) (by rfl) hme Fe.kp lke hcde hbe sc_l_error rfl (.inl rfl)
          (error_gives h.T h.ce FN hmn hkn hbnn) TB rfl (List.mem_cons_of_mem _ List.mem_cons_self) (fun p hp e => ?_) (hr.mono (by decide)) (lamS_by (by kernel_rfl)) rfl (fun _ _ _ _ _ => rfl)
          (fun A2 o2 s2 H2 E2 f2 c2 hr2 => pe_call FZ hr2 (by rfl) hmz2 hkz2 hbz2 .nil (L2N.passes_call lam_takes fun _ _ _ _ h => h) (pa_cons (pe_call FP (hr2.mono (by decide)) (by rfl) hmp hkp hbp .nil pass0 (pa_cons pe_int pa_nil)) pa_nil))) pe_str (nomark _)) (pss_one (ps_ret pe_bl)) pss_nil) ?_
  · rcases List.mem_cons.mp hp with z | z
    · rw [z] at e
      exact absurd e.symm h.ne
    · rw [List.mem_singleton.mp z] <;> rfl
  · refine ⟨hT, fun H1 e1 t1 => tterr_of h.exM h.kitM h.NM (fun E2 Q2 hE => ?_) fun H2 s2 => ?_⟩
    · refine ⟨H1, [.int 7], oD (plainO 7), Same.refl _, .cons (.int 7) .nil, ⟨7, by omega, rfl, rfl⟩, fun v B2 H2 n2 d2 => ?_⟩
      exact ⟨B2, [oD (plainO 7)], .ref CM, n2.i, .cons d2 .nil, ⟨plainO 7, plain7.1, plain7.2, rfl, rfl⟩, fun d B3 H3 dx n3 => hE d B3 H3 dx (n2.trans n3)⟩
    · have en : nameOf [false, false, false, false, true] = ("many" : Str) := by decide +kernel
      rw [en]
      refine ⟨rfl, _, rfl, ?_⟩
      rw [decide_eq_true rfl]
      exact hD σ H2 hl
theorem hot_ok (h : HotF P w K mg base C CM CE Pa Pl) {f c : Addr} {A : Around} {outer : List Env} {s : Shared} {H0 : Hp} {E0 : XK} (TB : TabB base mg c Pl) (hr : Room 7 (A.deeper (envOfC "law" (defScope s_law) s.heap.objs.size f (.ref c)))) {D : Ends} (hD : ∀ σ H, σ.length = 7 → D.nx σ H) {σ : L2.St} {H : Hp} (hl : σ.length = 7) (hT : Tabs (tabsT Pa Pl) H) :
    WSs (cL P w K mg base f (.ref c) A outer s H0 E0) (ifBody lawIf) D σ H := by
  refine WSs.of (pss_cons psW (pss_one psW)) ?_
  refine hot_for h hr (fun σ H hl hT => ?_) hl hT
  exact hot_lam h TB hr hD hl hT
end
end K45
set_option maxHeartbeats 4000000
/-! law. -/
namespace K45
open PySem PySem.Spec PyProof.Rows L2 LamX
/-- from here law gives True -/
def LS (X : Cx) (Pa Pl : Addr) (m : Option Addr) (st : Sto) (sts : List Stmt) : Prop := ∀ (H0 B H : Hp) (σ : L2.St) (Q : VK), (∀ H', Q (.bl true) H') → Same B H → BagOk m B H → (B Pa = some (.tbl #[]) ∧ B Pl = some (.tbl #[])) → Sl X.K m H0 B H st σ →
  WSs X sts { nx := fun _ H' => Q .non H', rt := Q } σ H
section
variable {X : Cx} {Pa Pl : Addr} {m : Option Addr} {b : Addr} {st : Sto} {e : Expr} {φ : D → Prop} {pos : Pos} {rest u : List Stmt}
theorem ls_setBag (i : Nat) {x : Str} {p' : Pos} (nd : X.N.Nodup) (he : EF X st e) (hno : noOwn st = true) (h : ∀ b, LS X Pa Pl (some b) (st.set i (some (.v (.ref b)))) rest) (hi : X.N[i]? = some x := by rfl) (hx : Loc X.env.scope x := by first | exact Or.inl rfl | exact Or.inr rfl)
    (hs : swapsWith e (some (.Name x p')) pos.line X.env = pure false := by rfl) (hf : X.fn x = true ∨ X.env.scope.names.lookup x = some .local := by first | exact .inl rfl | exact .inr rfl) : LS X Pa Pl none st (.Assign [.Name x p'] e pos :: rest) := fun H0 B H σ Q hQ sm g t l => by
  refine WSs.of (pss_cons (ps_set nd hi hx peW hs hf) pssW) (he none H0 B H σ sm l _ fun k bs B1 H1 n1 h1 h2 h3 => ?_)
  have l1 := l.nx n1
  refine h k H0 B1 H1 _ Q hQ n1.i (fun b e => by
    cases e
    exact ⟨h2, bs, h3⟩) ⟨n1.b _ _ t.1, n1.b _ _ t.2⟩ (Sl.set (s := .v (.ref k)) ⟨l1.1, fun j s e => by
      obtain ⟨v, hv, ok⟩ := l1.2 j s e
      refine ⟨v, hv, ?_⟩
      cases s with
      | d y => exact ok
      | v y => exact ok
      | x φ up => exact ok
      | own zs => exact absurd e (noOwn_at hno)⟩ i rfl)
theorem ls_setB (i : Nat) {x : Str} {p' : Pos} (nd : X.N.Nodup) (he : EB X b st e φ) (h : ∀ d, φ d → LS X Pa Pl (some b) (st.set i (some (.d d))) rest) (hi : X.N[i]? = some x := by rfl) (hx : Loc X.env.scope x := by first | exact Or.inl rfl | exact Or.inr rfl)
    (hs : swapsWith e (some (.Name x p')) pos.line X.env = pure false := by rfl) (hf : X.fn x = true ∨ X.env.scope.names.lookup x = some .local := by first | exact .inl rfl | exact .inr rfl) : LS X Pa Pl (some b) st (.Assign [.Name x p'] e pos :: rest) := fun H0 B H σ Q hQ sm g t l =>
  WSs.of (pss_cons (ps_set nd hi hx peW hs hf) pssW) (he H0 B H σ sm g l _ fun d v B1 H1 z n1 g1 d1 => h d z H0 B1 H1 _ Q hQ n1.i g1 ⟨n1.b _ _ t.1, n1.b _ _ t.2⟩ ((l.nx n1).set i (s := .d d) d1))
theorem ls_whenNo (hc : ETB X b st e (· = false)) (h : LS X Pa Pl (some b) st rest) : LS X Pa Pl (some b) st (.If e u [] pos :: rest) := fun H0 B H σ Q hQ sm g t l =>
  WSs.of (pss_cons (ps_if ptW pssW pssW) pssW) (hc H0 B H σ sm g l _ fun k B1 H1 z n1 g1 => by
    subst z
    exact WSs.of pss_nil (h H0 B1 H1 _ Q hQ n1.i g1 ⟨n1.b _ _ t.1, n1.b _ _ t.2⟩ (l.nx n1)))
theorem ls_hot {χ : Bool → Prop} (hc : ETB X b st e χ) (h1 : ∀ (D : Ends) (σ : L2.St) (H : Hp), (∀ σ H, σ.length = st.length → D.nx σ H) → σ.length = st.length → Tabs (tabsT Pa Pl) H → WSs X u D σ H)
    (h2 : HS X none (List.replicate st.length none) rest { nx := fun _ => False, rt := fun d => d = .bool true }) : LS X Pa Pl (some b) st (.If e u [] pos :: rest) := fun H0 B H σ Q hQ sm g t l => by
  have last : ∀ (σ : L2.St) (H : Hp), σ.length = st.length → WSs X rest { nx := fun _ H' => Q .non H', rt := Q } σ H := fun σ H hl =>
    WSs.mono (h2 H H H σ H ⟨H, Same.refl H, Nx.refl (Same.refl H), (fun _ z => nomatch z), by rw [List.length_replicate]; exact hl, fun i s e => by
      rw [List.getElem?_replicate] at e
      split at e <;> cases e⟩) (fun σ' H' ⟨st', e, _⟩ => (show False from e).elim) (fun v H' ⟨d', B', e, _, n, _, dv, _⟩ => by
      have e : d' = .bool true := e
      subst e
      cases dv
      exact hQ H') (fun σ' H' ⟨st', e, _⟩ => (show False from e)) (fun σ' H' ⟨st', e, _⟩ => (show False from e))
  refine WSs.of (pss_cons (ps_if ptW pssW pssW) pssW) (hc H0 B H σ sm g l _ fun k B1 H1 z n1 g1 => ?_)
  cases k with
  | true =>
    refine h1 _ σ H1 (fun σ H hl => last σ H hl) l.1 fun p hp => ?_
    rcases List.mem_cons.mp hp with z | z
    · rw [z]
      exact TabS.nil (n1.i _ _ (n1.b _ _ t.1))
    · rw [List.mem_singleton.mp z]
      exact TabS.nil (n1.i _ _ (n1.b _ _ t.2))
  | false => exact WSs.of pss_nil (last σ H1 l.1)
end
def spLaw (K : PySem.W.Frag) (Pa Pl : Addr) : Sp := fun vs H Q _ => ∃ (a : Addr) (ns : List Int), vs = [.ref a] ∧ SqL K H a (ns.map V.int) ∧ (H Pa = some (.tbl #[]) ∧ H Pl = some (.tbl #[])) ∧ ∀ H', Q (.bl true) H'
section
variable {P : Program} {w : World} {K : PySem.W.Frag} {mg : Str → Option Value} {base : Heap} {C CM CE Pa Pl : Addr}
def lawRest : List Stmt := (defBody s_law).drop 7
end
end K45
set_option maxHeartbeats 400000
/-! law, its end. -/
namespace K45
open PySem PySem.Spec PyProof.Rows L2 LamX
inductive IntsE : List Expr → List Int → Prop
  | nil : IntsE [] []
  | cons {i : Int} {j : Nat} {p : Pos} {es : List Expr} {ns : List Int} (h : IntsE es ns) : IntsE (.Constant (.int i) j p :: es) (i :: ns)
theorem IntsE.eds {X : Cx} {st : Sto} : ∀ {es : List Expr} {ns : List Int}, IntsE es ns → EDs X st es (ns.map .int)
  | _, _, .nil => eds_nil
  | _, _, .cons h => eds_cons ed_int h.eds
theorem ed_tupI {X : Cx} {st : Sto} {es : List Expr} {ns : List Int} {k : Nat} {pos : Pos} (h : IntsE es ns) (hl : ns.length ≤ 100000 := by decide) : ED X st (.Tuple es k pos) (oD ns) := ed_tup h.eds (by rw [List.length_map]; exact hl)
/-- a display of such tuples -/
inductive TupsE : List Expr → List (List Int) → Prop
  | nil : TupsE [] []
  | cons {k : Nat} {p : Pos} {es : List Expr} {xs : List Expr} {ns : List Int} {ms : List (List Int)} (h : IntsE xs ns) (l : ns.length ≤ 100000) (t : TupsE es ms) : TupsE (.Tuple xs k p :: es) (ns :: ms)
theorem TupsE.eds {X : Cx} {st : Sto} : ∀ {es : List Expr} {ns : List (List Int)}, TupsE es ns → EDs X st es (ns.map oD)
  | _, _, .nil => eds_nil
  | _, _, .cons h l t => eds_cons (ed_tupI h l) t.eds
/-- a display of calls with such tuples -/
inductive CallsE (x : Str) : List Expr → List (List Int) → Prop
  | nil : CallsE x [] []
  | cons {k : Nat} {p p1 p2 : Pos} {es : List Expr} {xs : List Expr} {ns : List Int} {ms : List (List Int)} (h : IntsE xs ns) (l : ns.length ≤ 100000) (t : CallsE x es ms) : CallsE x (.Call (.Name x p) [.Tuple xs k p1] [] p2 :: es) (ns :: ms)
theorem CallsE.eds {X : Cx} {st : Sto} {x : Str} {j k : Nat} {G : List D → D → Prop} (c : Cl X.prog X.w X.K X.mg X.base j x ["order"] G) (hr : Room k X.A) (hj : j ≤ k) (hg : Gl X x) (hdb : (x == ("__debug__" : Str)) = false) (f : List Int → D) : ∀ {es : List Expr} {ms : List (List Int)}, CallsE x es ms → (∀ o ∈ ms, G [oD o] (f o)) → EDs X st es (ms.map f)
  | _, _, .nil, _ => eds_nil
  | _, _, .cons h l t, hG => eds_cons (ed_cl c hr (eds_1 (ed_tupI h l)) (hG _ List.mem_cons_self) hj hg hdb) (CallsE.eds c hr hj hg hdb f t fun o ho => hG o (List.mem_cons_of_mem _ ho))
def four1 : List (List Int) := [[2, 0, 1], [2, 3, 0, 1], [3, 1, 2, 0], [3, 2, 1, 0]]
def four2 : List (List Int) := [[1, 2, 1], [1, 3, 5, 4, 1], [1, 3, 5, 6, 4, 1], [1, 3, 5, 6, 5, 3, 1]]
def four3 : List (List Int) := [[3, 2, 1, 0], [3, 0, 4, 1, 2], [3, 1, 2, 0], [0]]
def szO (o : List Int) : List Int := (runB dropsOf 10 [o] []).getD []
theorem four1_ok : ∀ o ∈ four1, IsOrd o ∧ o.length ≤ 6 ∧ runB dropsOf 10 [o] [] = some (szO o) := by
  intro o ho
  have q : four1.all (fun o => decide (runB dropsOf 10 [o] [] = some (szO o))) = true := by decide +kernel
  have q2 := of_decide_eq_true (List.all_eq_true.mp q o ho)
  refine ⟨?_, ?_, q2⟩
  all_goals
    simp only [four1, List.mem_cons, List.not_mem_nil, or_false] at ho
    rcases ho with rfl | rfl | rfl | rfl
  all_goals first | exact ⟨by decide, by decide, by decide, by decide⟩ | decide
theorem four12 : four1.map szO = four2 := by decide +kernel
theorem four3_ok : ∀ o ∈ four3, IsOrd o ∧ o.length ≤ 14 := by
  intro o ho
  simp only [four3, List.mem_cons, List.not_mem_nil, or_false] at ho
  rcases ho with rfl | rfl | rfl | rfl
  all_goals exact ⟨⟨by decide, by decide, by decide, by decide⟩, by decide⟩
theorem four3_sm : four3.map smoothB = [true, false, false, true] := by decide +kernel
theorem eqv_four2 : PyData.eqv (.list (four2.map oD)) (.list (four2.map oD)) = true ∧ SeqAt.shaped (.list (four2.map oD)) = true := ⟨by decide +kernel, by decide +kernel⟩
def four4 : List D := [.bool true, .bool false, .bool false, .bool true]
theorem eqv_four4 : PyData.eqv (.list four4) (.list four4) = true ∧ SeqAt.shaped (.list four4) = true := ⟨by decide +kernel, by decide +kernel⟩
section
variable {P : Program} {w : World} {K : PySem.W.Frag} {mg : Str → Option Value} {base : Heap} {C CM CE Pa Pl : Addr}
abbrev scTold : Scope := { kind := .function, names := [(Str.ofString ".0", .local), (Str.ofString "_law_some", .local), (Str.ofString "is_smooth", .globalImplicit)], isGenerator := false, isCoroutine := false, more := [] }
theorem told_ok (c2 : Cl P w K mg base 4 "is_smooth" ["order"] G_smooth) {f : Addr} {cdv : Value} {A : Around} {outer : List Env} {s : Shared} {H0 : Hp} {E0 : XK} (hr : Room 7 (A.deeper (envOfC "law" (defScope s_law) s.heap.objs.size f cdv)))
    {a : D} {rest : List Stmt} {E : EndD} {es : List Expr} {k : Nat} {p1 p2 p3 p4 p5 p6 p7 p8 : Pos} {ys : List (List Int)} (hy : ∀ o ∈ ys, IsOrd o ∧ o.length ≤ 14) (he : TupsE es ys) (hz : ys.length ≤ 100000) (h1 : (p1.line == p7.line) = true)
    (h : HS (cL P w K mg base f cdv A outer s H0 E0) none [none, none, none, none, none, some (.d (.list (ys.map fun o => .bool (smoothB o)))), none] rest E) :
    HS (cL P w K mg base f cdv A outer s H0 E0) none [none, none, none, none, none, some (.d a), none] (.Assign [.Name "_law_told" p1] (.ListComp (.Call (.Name "is_smooth" p2) [.Name "_law_some" p3] [] p4) [⟨.Name "_law_some" p5, .Tuple es k p6, [], 0⟩] scTold p7) p8 :: rest) E := by
  have nd := sc_law.nd
  refine hs_setLc 5 (own := [("_law_some", 6)]) (g := gName 6) (ys := ys) (ι := oD) (f := fun o => .bool (smoothB o)) nd (ei_tup (ed_tup (TupsE.eds he) (Nat.le_trans (Nat.le_of_eq (List.length_map _)) hz))) (blkOk_by (N := N_law) (sc := defScope s_law) (by decide +kernel)) (fun _ _ _ _ _ => pg_name (i := 6) nd rfl (.inl rfl)) gw_name hz (fun m y hy' => ⟨_, gt_name 6, fun s' H' C cl fp => ?_⟩) h rfl rfl rfl (sw_true rfl rfl h1 (by decide +kernel)) (by intro _; rfl)
  exact ed_cl c2 hr (eds_1 (ed_var 6)) ⟨y, (hy y hy').1, (hy y hy').2, rfl, rfl⟩
theorem four1_szO : four1.map (fun o => oD (szO o)) = four2.map oD := by rw [← four12, List.map_map]; rfl
theorem four3_len : four3.length ≤ 100000 := by decide
theorem four2_len : (four2.map oD).length ≤ 100000 := Nat.le_trans (Nat.le_of_eq (List.length_map _)) (show 4 ≤ 100000 by decide)
theorem set1_ok (c1 : Cl P w K mg base 4 "sizes_below" ["order"] G_sizes) {f : Addr} {cdv : Value} {A : Around} {outer : List Env} {s : Shared} {H0 : Hp} {E0 : XK} (hr : Room 7 (A.deeper (envOfC "law" (defScope s_law) s.heap.objs.size f cdv))) {rest : List Stmt} {E : EndD} {es : List Expr} {p1 p2 p3 : Pos} (he : CallsE "sizes_below" es four1)
    (h : HS (cL P w K mg base f cdv A outer s H0 E0) none [none, none, none, none, none, some (.d (.list (four2.map oD))), none] rest E) :
    HS (cL P w K mg base f cdv A outer s H0 E0) none [none, none, none, none, none, none, none] (.Assign [.Name "_law_told" p1] (.List es p2) p3 :: rest) E := by
  have q : EDs (cL P w K mg base f cdv A outer s H0 E0) [none, none, none, none, none, none, none] es (four2.map oD) := four1_szO ▸ CallsE.eds (X := cL P w K mg base f cdv A outer s H0 E0) c1 hr (by decide) (by rfl) (by decide) (fun o => oD (szO o)) he (fun o ho => ⟨o, szO o, 10, (four1_ok o ho).1, (four1_ok o ho).2.1, by decide, (four1_ok o ho).2.2, rfl, rfl⟩)
  exact hs_set (X := cL P w K mg base f cdv A outer s H0 E0) 5 (d := .list (four2.map oD)) sc_law.nd (ed_lst q four2_len) h
theorem chk_ok {f : Addr} {cdv : Value} {A : Around} {outer : List Env} {s : Shared} {H0 : Hp} {E0 : XK} (hr : Room 7 (A.deeper (envOfC "law" (defScope s_law) s.heap.objs.size f cdv))) {rest : List Stmt} {E : EndD} {es : List Expr} {k : Nat} {p1 p2 p3 p4 p5 p6 : Pos} (he : TupsE es four2)
    (h : HS (cL P w K mg base f cdv A outer s H0 E0) none [none, none, none, none, none, some (.d (.list (four2.map oD))), none] rest E) :
    HS (cL P w K mg base f cdv A outer s H0 E0) none [none, none, none, none, none, some (.d (.list (four2.map oD))), none] (.If (.Compare (.Name "_law_told" p1) [.NotEq] [.List es p2] p3) [.Return (some (.Constant (.bool false) k p4)) p5] [] p6 :: rest) E := by
  have q : ED (cL P w K mg base f cdv A outer s H0 E0) [none, none, none, none, none, some (.d (.list (four2.map oD))), none] (.List es p2) (.list (four2.map oD)) := ed_lst he.eds four2_len
  have q2 := et_neD (X := cL P w K mg base f cdv A outer s H0 E0) (pos := p3) (hu64 hr) eqv_four2.2 eqv_four2.2 (ed_var (X := cL P w K mg base f cdv A outer s H0 E0) (pos := p1) (st := [none, none, none, none, none, some (.d (.list (four2.map oD))), none]) 5 rfl) q
  rw [eqv_four2.1] at q2
  exact hs_when (k := false) q2 (fun z => by cases z) (fun _ => h)
theorem ret_ok {f : Addr} {cdv : Value} {A : Around} {outer : List Env} {s : Shared} {H0 : Hp} {E0 : XK} (hr : Room 7 (A.deeper (envOfC "law" (defScope s_law) s.heap.objs.size f cdv))) {k1 k2 k3 k4 : Nat} {p1 p2 p3 p4 q1 q2 q3 q4 : Pos} :
    HS (cL P w K mg base f cdv A outer s H0 E0) none [none, none, none, none, none, some (.d (.list four4)), none] [.Return (some (.Compare (.Name "_law_told" p1) [.Eq] [.List [.Constant (.bool true) k1 q1, .Constant (.bool false) k2 q2, .Constant (.bool false) k3 q3, .Constant (.bool true) k4 q4] p2] p3)) p4] { nx := fun _ => False, rt := fun d => d = .bool true } := by
  have q : ED (cL P w K mg base f cdv A outer s H0 E0) [none, none, none, none, none, some (.d (.list four4)), none] (.List [.Constant (.bool true) k1 q1, .Constant (.bool false) k2 q2, .Constant (.bool false) k3 q3, .Constant (.bool true) k4 q4] p2) (.list four4) := ed_lst (eds_cons ed_bl (eds_cons ed_bl (eds_cons ed_bl (eds_1 ed_bl)))) (show 4 ≤ 100000 by decide)
  have q2 := ed_eqD (X := cL P w K mg base f cdv A outer s H0 E0) (pos := p3) (hu64 hr) eqv_four4.2 eqv_four4.2 (ed_var (X := cL P w K mg base f cdv A outer s H0 E0) (pos := p1) (st := [none, none, none, none, none, some (.d (.list four4)), none]) 5 rfl) q
  rw [eqv_four4.1] at q2
  exact hs_ret q2 rfl
theorem rest_ok (T : Fr mg) (c1 : Cl P w K mg base 4 "sizes_below" ["order"] G_sizes) (c2 : Cl P w K mg base 4 "is_smooth" ["order"] G_smooth) {f : Addr} {cdv : Value} {A : Around} {outer : List Env} {s : Shared} {H0 : Hp} {E0 : XK} (hr : Room 7 (A.deeper (envOfC "law" (defScope s_law) s.heap.objs.size f cdv))) :
    HS (cL P w K mg base f cdv A outer s H0 E0) none [none, none, none, none, none, none, none] lawRest { nx := fun _ => False, rt := fun d => d = .bool true } := by
  refine set1_ok c1 hr ?_ ?_
  · unfold four1
    refine .cons ?_ ?_ (.cons ?_ ?_ (.cons ?_ ?_ (.cons ?_ ?_ .nil)))
    all_goals first | decide | skip
    · exact .cons (.cons (.cons .nil))
    · exact .cons (.cons (.cons (.cons .nil)))
    · exact .cons (.cons (.cons (.cons .nil)))
    · exact .cons (.cons (.cons (.cons .nil)))
  refine chk_ok hr ?_ ?_
  · unfold four2
    refine .cons ?_ ?_ (.cons ?_ ?_ (.cons ?_ ?_ (.cons ?_ ?_ .nil)))
    all_goals first | decide | skip
    · exact .cons (.cons (.cons .nil))
    · exact .cons (.cons (.cons (.cons (.cons .nil))))
    · exact .cons (.cons (.cons (.cons (.cons (.cons .nil)))))
    · exact .cons (.cons (.cons (.cons (.cons (.cons (.cons .nil))))))
  refine @told_ok P w K mg base c2 f cdv A outer s H0 E0 hr _ _ _ _ _ _ _ _ _ _ _ _ _ four3 four3_ok ?_ four3_len ?_ ?_
  · unfold four3
    refine .cons ?_ ?_ (.cons ?_ ?_ (.cons ?_ ?_ (.cons ?_ ?_ .nil)))
    all_goals first | decide | skip
    · exact .cons (.cons (.cons (.cons .nil)))
    · exact .cons (.cons (.cons (.cons (.cons .nil))))
    · exact .cons (.cons (.cons (.cons .nil)))
    · exact .cons .nil
  · rfl
  · have e4 : four3.map (fun o => PyData.bool (smoothB o)) = four4 := by
      have q2 := congrArg (List.map PyData.bool) four3_sm
      rw [List.map_map] at q2
      exact q2
    rw [e4]
    exact ret_ok hr
end
end K45
set_option maxHeartbeats 2000000
/-! law. -/
namespace K45
open PySem PySem.Spec PyProof.Rows L2 LamX
section
variable {P : Program} {w : World} {K : PySem.W.Frag} {mg : Str → Option Value} {base : Heap} {C CM CE Pa Pl : Addr}
theorem choice8 : ([1, 2, 3, 4, 4, 5, 5, 5] : List Int).length ≤ 100000 := by decide
theorem choice8' : ([1, 2, 3, 4, 4, 5, 5, 5] : List Int).length ≤ 100 := by decide
theorem choice8_rg : ∀ x ∈ ([1, 2, 3, 4, 4, 5, 5, 5] : List Int), 1 ≤ x ∧ x ≤ 5 := by decide
/-- what law calls -/
structure LawF (P : Program) (w : World) (K : PySem.W.Frag) (mg : Str → Option Value) (base : Heap) : Prop where
  bag : ClSF P w K mg base 3 "_law_bag" ["_law_script", "_law_k"] GS_bag
  take : ClB P w K mg base 1 "_law_take" ["_law_bag_here", "_law_many"] G_take
  choice : ClB P w K mg base 2 "_law_choice" ["_law_bag_here", "_law_some"] G_choice
  order : ClB P w K mg base 2 "_law_order" ["_law_bag_here", "_law_many"] G_order
  near : ClB P w K mg base 2 "_law_near" ["_law_bag_here", "_law_order_here", "_law_steps"] G_near
  small : Cl P w K mg base 5 "_law_small_right" ["_law_order_here"] G_sr
  great : ClB P w K mg base 5 "_law_great_right" ["_law_bag_here", "_law_order_here"] G_great
  plain : Cl P w K mg base 1 "_law_plain" ["_law_many"] G_plain
  last : Cl P w K mg base 3 "last_order" ["many"] G_last
  smooth : Cl P w K mg base 4 "is_smooth" ["order"] G_smooth
  sizes : Cl P w K mg base 4 "sizes_below" ["order"] G_sizes
abbrev AnSm (d : D) : Prop := ∃ o : List Int, IsOrd o ∧ o.length ≤ 5 ∧ d = oD o
abbrev AnGr (d : D) : Prop := ∃ o : List Int, IsOrd o ∧ o.length ≤ 10 ∧ d = oD o
theorem isOrd_plain {n : Nat} (h1 : 1 ≤ n) (h2 : n ≤ 30) : IsOrd (plainO n) ∧ (plainO n).length = n := by
  have hl : (plainO n).length = n := by unfold plainO; rw [List.length_map, List.length_range]
  refine ⟨⟨by omega, by omega, fun x hx => ?_, ?_⟩, hl⟩
  · rw [hl]
    obtain ⟨t, ht, rfl⟩ := List.mem_map.mp hx
    have := List.mem_range.mp ht
    omega
  · unfold plainO
    exact List.Pairwise.map _ (fun a b h z => h (by omega)) List.nodup_range
theorem law_ls (L : LawF P w K mg base) (h : HotF P w K mg base C CM CE Pa Pl) {f c : Addr} {A : Around} {outer : List Env} {s : Shared} {H0 : Hp} {E0 : XK} (TB : TabB base mg c Pl) (hr : Room 7 (A.deeper (envOfC "law" (defScope s_law) s.heap.objs.size f (.ref c)))) (ns : List Int) :
    LS (cL P w K mg base f (.ref c) A outer s H0 E0) Pa Pl none [scr K ns, none, none, none, none, none, none] (defBody s_law) := by
  have nd := sc_law.nd
  refine ls_setBag 1 nd (ef_clS 0 L.bag hr (eds_1 ed_int) rfl) rfl fun b => ?_
  have tk : ∀ (st : Sto) (n : Int) (j : Nat) (p1 p2 p3 p4 : Pos), 0 < n → st[1]? = some (some (.v (.ref b))) → EB (cL P w K mg base f (.ref c) A outer s H0 E0) b st (.Call (.Name "_law_take" p1) [.Name "_law_bag_here" p2, .Constant (.int n) j p3] [] p4) (IntIn fun r => 0 ≤ r ∧ r < n) := fun st n j p1 p2 p3 p4 hn hi =>
    eb_clB 1 L.take hr (ebs_1 (eb_of ed_int)) (fun ds ⟨d, e1, e2⟩ => ⟨_, ⟨n, hn, by rw [e2, e1], rfl⟩, fun d h => h⟩) hi
  refine ls_setB 2 (φ := AnSm) nd ?_ fun d hd => ?_
  · refine eb_clB 1 L.order hr (ebs_1 (eb_clB (ψ := IntIn fun r => r ∈ ([1, 2, 3, 4, 4, 5, 5, 5] : List Int)) 1 L.choice hr (ebs_1 (eb_of (ed_lst (ds := ([1, 2, 3, 4, 4, 5, 5, 5] : List Int).map .int) (IntsE.eds ?_) ?_))) ?_)) ?_
    · exact .cons (.cons (.cons (.cons (.cons (.cons (.cons (.cons .nil)))))))
    · exact Nat.le_trans (Nat.le_of_eq (List.length_map _)) choice8
    · rintro ds ⟨d, rfl, rfl⟩
      exact ⟨_, ⟨_, by decide, choice8', rfl, rfl⟩, fun d h => h⟩
    · rintro ds ⟨d, ⟨j, hj, rfl⟩, rfl⟩
      have hj2 := choice8_rg j hj
      refine ⟨_, ⟨j.toNat, by omega, by omega, by rw [Int.toNat_of_nonneg (by omega)], rfl⟩, ?_⟩
      rintro d ⟨u, h1, h2, h3⟩
      exact ⟨u, h1, by omega, h3⟩
  obtain ⟨o, ho, hol, rfl⟩ := hd
  refine ls_whenNo ?_ ?_
  · obtain ⟨r, S⟩ := small_ok ho hol
    refine (etb_not (χ := (· = true)) (etb_of (eb_of (ed_cl L.small hr (eds_1 (ed_var 2)) ⟨o, r, S, rfl, rfl⟩)) ?_)).imp fun k z => ?_
    · rintro d rfl
      exact ⟨true, rfl, rfl⟩
    · cases k
      · rfl
      · cases z
  refine ls_setB 3 (φ := AnGr) nd ?_ fun d hd => ?_
  · refine eb_clB 1 L.near hr (ebs_cons (eb_cl (ψ := fun d => ∃ n : Nat, 6 ≤ n ∧ n ≤ 10 ∧ d = oD (plainO n)) L.plain hr (ebs_1 (eb_addC ed_int (tk _ 5 _ _ _ _ _ (by decide) rfl))) ?_) (ebs_1 (tk _ 12 _ _ _ _ _ (by decide) rfl))) ?_
    · rintro ds ⟨d, ⟨j, ⟨i, ⟨i1, i2⟩, rfl⟩, rfl⟩, rfl⟩
      exact ⟨_, ⟨(6 + i).toNat, by omega, by rw [Int.toNat_of_nonneg (by omega)], rfl⟩, _, by omega, by omega, rfl⟩
    · rintro ds ⟨d, r, ⟨n, n1, n2, rfl⟩, ⟨d2, ⟨i, ⟨i1, i2⟩, rfl⟩, rfl⟩, rfl⟩
      obtain ⟨q1, q2⟩ := isOrd_plain (n := n) (by omega) (by omega)
      refine ⟨_, ⟨plainO n, i, q1, by omega, by omega, rfl, rfl⟩, ?_⟩
      rintro d ⟨u, h1, h2, h3⟩
      exact ⟨u, h1, by omega, h3⟩
  obtain ⟨o2, ho2, hol2, rfl⟩ := hd
  have no : ∀ k : Bool, (!k) = true → k = false := fun k z => by
    cases k
    · rfl
    · cases z
  refine ls_whenNo (etb_w (ewb_or_no ((etb_not (χ := (· = true)) (etb_of (φ := (· = .bool true)) ?_ ?_)).imp no) (ewb_or1 ((etb_not (χ := (· = true)) (etb_of (φ := (· = .bool true)) ?_ ?_)).imp no)))) ?_
  · refine eb_clB 1 L.great hr (ebs_1 (eb_of (ed_var 3))) ?_
    rintro ds ⟨d, rfl, rfl⟩
    exact ⟨_, ⟨o2, great_ok ho2 hol2, rfl, rfl⟩, fun d h => h⟩
  · rintro d rfl
    exact ⟨true, rfl, rfl⟩
  · refine eb_clB 1 L.great hr (ebs_1 (eb_clB (ψ := fun d => ∃ o : List Int, IsOrd o ∧ o.length ≤ 10 ∧ d = oD o) 1 L.order hr (ebs_1 (eb_addC ed_int (tk _ 3 _ _ _ _ _ (by decide) rfl))) ?_)) ?_
    · rintro ds ⟨d, ⟨j, ⟨i, ⟨i1, i2⟩, rfl⟩, rfl⟩, rfl⟩
      refine ⟨_, ⟨(5 + i).toNat, by omega, by omega, by rw [Int.toNat_of_nonneg (by omega)], rfl⟩, ?_⟩
      rintro d ⟨u, h1, h2, h3⟩
      exact ⟨u, h1, by omega, h3⟩
    · rintro ds ⟨d, ⟨o3, q1, q2, rfl⟩, rfl⟩
      exact ⟨_, ⟨o3, great_ok q1 q2, rfl, rfl⟩, fun d h => h⟩
  · rintro d rfl
    exact ⟨true, rfl, rfl⟩
  refine ls_whenNo (etb_cmp (φ := (· = .bool true)) (ψ := (· = .bool true)) op_isnot_bl (nomark _) (eb_cl L.smooth hr (ebs_1 (eb_cl (ψ := fun d => ∃ n : Nat, 7 ≤ n ∧ n ≤ 9 ∧ d = oD (lastO n)) L.last hr (ebs_1 (eb_addC ed_int (tk _ 3 _ _ _ _ _ (by decide) rfl))) ?_)) ?_) (eb_of ed_bl) ?_) ?_
  · rintro ds ⟨d, ⟨j, ⟨i, ⟨i1, i2⟩, rfl⟩, rfl⟩, rfl⟩
    exact ⟨_, ⟨(7 + i).toNat, by omega, by omega, by rw [Int.toNat_of_nonneg (by omega)], rfl⟩, _, by omega, by omega, rfl⟩
  · rintro ds ⟨d, ⟨n, n1, n2, rfl⟩, rfl⟩
    exact ⟨_, ⟨lastO n, last_ord (by omega) (by omega), by rw [lastO_len]; omega, rfl, rfl⟩, by rw [last_smooth]⟩
  · rintro a c rfl rfl
    exact ⟨false, rfl, fun B H x y s hx hy Q q => ⟨true, true, hx.bl_inv, hy.bl_inv, q _ B H (Nx.refl s) (.bl _)⟩⟩
  refine ls_hot (χ := fun _ => True) (etb_cmp op_eq (nomark _) (tk _ 4 _ _ _ _ _ (by decide) rfl) (eb_of ed_int) ?_) (fun D σ H hD hl hT => ?_) ?_
  · rintro a c ⟨i, _, rfl⟩ rfl
    exact ⟨_, True.intro, rd_eqS (fun _ _ h => h.int_inv) (fun _ _ h => h.int_inv) rfl⟩
  · exact hot_ok h TB hr hD hl hT
  · exact rest_ok h.T L.sizes L.smooth hr
/-- law gives True -/
theorem ok_law (L : LawF P w K mg base) (h : HotF P w K mg base C CM CE Pa Pl) (TF : TabF K mg base "law" Pl) {f : Addr} {fd : FuncData} (F : L2.Fun K "law" "law" s_law f fd) (hm : mg "law" = some (.ref f)) : FnOk P w K mg base CX0 8 f fd ["_law_script"] (spLaw K Pa Pl) := by
  obtain ⟨oc, od, kV, doc, pm, an, cdv, ct, osl, rfl, lk, hcd⟩ := F.ex
  obtain ⟨c, hc, TB⟩ := TF _ _ _ _ _ hm lk
  have hc : cdv = .ref c := hc
  subst hc
  refine fn_of lk hcd sc_law (fun vs H Q E h => ?_) fun A outer s H vs Q E hr hv => ?_
  · obtain ⟨a, ns, rfl, _⟩ := h
    rfl
  · obtain ⟨a, ns, rfl, hS, hT, q⟩ := hv
    refine ⟨_, (pssW (X := cL P w K mg base f (.ref c) A outer s H E)).nox, ?_⟩
    refine law_ls L h TB hr ns H H H _ Q q (Same.refl H) (fun _ z => nomatch z) hT ⟨rfl, fun i sv e => ?_⟩
    match i, e with
    | 0, e =>
      cases e
      exact ⟨_, rfl, a, rfl, hS⟩
    | 1, e => cases e
    | 2, e => cases e
    | 3, e => cases e
    | 4, e => cases e
    | 5, e => cases e
    | 6, e => cases e
    | i + 7, e => simp at e
end
end K45
set_option maxHeartbeats 4000000
/-! The head's look: the module's objects and the statics; what is asked of them. -/
namespace K45
open PySem PySem.Spec PyProof.Rows L2 PySem.HandSPX
/-! ### the objects looked at -/
def goA (g : Addr → Option Obj) (p : Obj → List Addr) (as : List Addr) : List Addr := as.flatMap fun a => (g a).elim [] p
def inDict (o : Obj) : List Addr := match o.data with
  | .dict es _ => es.toList.flatMap fun e => He.refV e.val
  | _ => []
def inDef (o : Obj) : List Addr := match o.data with
  | .func fd => He.refV fd.code ++ fd.closure.map (·.2)
  | .cls cd => [cd.ns]
  | _ => []
def atA (g : Addr → Option Obj) : List Addr :=
  [mainGlobals, cStatics] ++ (goA g inDict [mainGlobals] ++ (goA g inDef (goA g inDict [mainGlobals]) ++ (goA g inDict (goA g inDef (goA g inDict [mainGlobals])) ++ goA g inDef (goA g inDict (goA g inDef (goA g inDict [mainGlobals]))))))
section
variable {K : PySem.W.Frag} {h : Heap} {mg : Str → Option Value}
/-! ### exceptions -/
def excCB (K : PySem.W.Frag) (D : Addr) : Bool :=
  He.eqO (PySem.W.findIn K (.ref D) "__getattribute__") (some (some (.builtin "BaseException.__getattribute__"))) &&
  (He.eqO (PySem.W.findIn K (.ref D) "__getattr__") (some none) &&
  (decide (PySem.W.subIn K (.ref D) (.type "BaseException") = some true) &&
  (PySem.W.hasDictIn K D &&
  (He.eqO (PySem.W.findIn K (.ref D) "__class__") (some (some (.builtin "object.__class__"))) &&
  (He.eqO (PySem.W.specialIn K (.builtin "object.__class__") "__get__") (some (some (.builtin "getset_descriptor.__get__"))) &&
  (decide (PySem.W.takesIn K (.builtin "object.__class__") = some true) &&
  decide (PySem.W.mroIn K D (.type "object") = some true)))))))
theorem excCB_ok {D : Addr} (e : excCB K D = true) : ExcC K D := by
  obtain ⟨h1, e⟩ := He.ba e
  obtain ⟨h2, e⟩ := He.ba e
  obtain ⟨h3, e⟩ := He.ba e
  obtain ⟨h4, e⟩ := He.ba e
  obtain ⟨h5, e⟩ := He.ba e
  obtain ⟨h6, e⟩ := He.ba e
  obtain ⟨h7, h8⟩ := He.ba e
  exact ⟨He.eqO_ok h1, He.eqO_ok h2, of_decide_eq_true h3, h4, He.eqO_ok h5, He.eqO_ok h6, of_decide_eq_true h7, of_decide_eq_true h8⟩
def kitB1 (K : PySem.W.Frag) (D : Addr) (x : Str) (b : Bool) : Bool := decide (PySem.W.kitOne K (.ref D) (.ref (He.ga K x)) = some b)
def namB (K : PySem.W.Frag) (D : Addr) (b0 b1 b2 b3 b4 : Bool) : Bool := excCB K D && (kitB1 K D "InvalidOrder" b0 && (kitB1 K D "InvalidExchange" b1 && (kitB1 K D "InvalidRow" b2 && (kitB1 K D "Unlike" b3 && kitB1 K D "TooMany" b4))))
theorem namB_ok {D : Addr} {b0 b1 b2 b3 b4 : Bool} (gl : ∀ x ∈ (["InvalidOrder", "InvalidExchange", "InvalidRow", "Unlike", "TooMany"] : List Str), mg x = some (.ref (He.ga K x))) (e : namB K D b0 b1 b2 b3 b4 = true) : NamX K mg D b0 b1 b2 b3 b4 := by
  obtain ⟨h0, e⟩ := He.ba e
  obtain ⟨h1, e⟩ := He.ba e
  obtain ⟨h2, e⟩ := He.ba e
  obtain ⟨h3, e⟩ := He.ba e
  obtain ⟨h4, h5⟩ := He.ba e
  exact ⟨excCB_ok h0, ⟨_, gl _ (by simp), of_decide_eq_true h1⟩, ⟨_, gl _ (by simp), of_decide_eq_true h2⟩, ⟨_, gl _ (by simp), of_decide_eq_true h3⟩, ⟨_, gl _ (by simp), of_decide_eq_true h4⟩, ⟨_, gl _ (by simp), of_decide_eq_true h5⟩⟩
/-! ### TooMany -/
def clsB (K : PySem.W.Frag) (C : Addr) : Bool := match K.lookup C with
  | some ⟨.type t, _, .cls cd, sl⟩ => (match cd.mro, sl.toList with
    | .ref C' :: bm, [_, _, _, _, some (.builtin n), _] => decide (t = "type") && (decide (C' = C) && (decide (n = "ValueError.__new__") && (!cd.hasDel && (cd.hasDict && refsVE bm))))
    | _, _ => false)
  | _ => false
theorem clsB_ok {C : Addr} (e : clsB K C = true) : ∃ nm q N bs bm sn sub ab col dd k0 k1 k2 k3 k5, K.lookup C = some (excClassObj nm q C N bs bm true sn sub ab col dd k0 k1 k2 k3 k5 "ValueError.__new__") ∧ refsVE bm = true := by
  unfold clsB at e
  split at e
  · rename_i t dd cd sl ho
    split at e
    · rename_i C' bm k0 k1 k2 k3 n k5 hm hs
      obtain ⟨e1, e⟩ := He.ba e
      obtain ⟨e2, e⟩ := He.ba e
      obtain ⟨e3, e⟩ := He.ba e
      obtain ⟨e4, e⟩ := He.ba e
      obtain ⟨e5, e6⟩ := He.ba e
      have e1 := of_decide_eq_true e1
      have e2 := of_decide_eq_true e2
      have e3 := of_decide_eq_true e3
      rw [Bool.not_eq_true'] at e4
      subst e1 e2 e3
      obtain ⟨nm, bs, mro, ns, qn, hd, sn, sub, ab, col, del⟩ := cd
      dsimp only at hm e4 e5
      subst hm e4 e5
      have z : sl = #[k0, k1, k2, k3, some (.builtin "ValueError.__new__"), k5] := by
        obtain ⟨l⟩ := sl
        simp only at hs
        rw [hs]
      subst z
      exact ⟨nm, qn, ns, bs, bm, sn, sub, ab, col, dd, k0, k1, k2, k3, k5, ho, e6⟩
    · cases e
  · cases e
abbrev tmAt : Str × Option Str := ("TooMany", some "__init__")
def tmFd (K : PySem.W.Frag) : Option FuncData := match K.lookup (He.fAd K tmAt) with
  | some ⟨_, _, .func fd, _⟩ => some fd
  | _ => none
def tmCell (K : PySem.W.Frag) : Addr := match tmFd K with
  | some fd => (match fd.closure with
    | [(_, c)] => c
    | _ => 0)
  | none => 0
def tmCode (K : PySem.W.Frag) : Addr := match tmFd K with
  | some fd => (match fd.code with
    | .ref c => c
    | _ => 0)
  | none => 0
/-- what is written in its __init__ -/
abbrev TmV : Type := Option (Str × Str × Arguments × FuncBody × Scope × Addr × Addr)
def tmW (K : PySem.W.Frag) : TmV := (tmFd K).map fun fd => (fd.name, fd.qualname, fd.params, fd.body, fd.scope, fd.globals, fd.builtins)
def tmVal : TmV := some ("__init__", "TooMany.__init__", L2.defArgs s_tm, .stmts (defBody s_tm), defScope s_tm, mainGlobals, builtinsNs)
def fdB (K : PySem.W.Frag) : Bool := match tmFd K with
  | some fd => decide (fd.closure = ([("__class__", tmCell K)] : List (Str × Addr))) && ((match fd.defaults with
    | .none => true
    | _ => false) && (decide (fd.code = .ref (tmCode K)) && PySem.W.codeIn K fd.code "TooMany.__init__"))
  | none => false
theorem fdB_ok (e : fdB K = true) (w : tmW K = tmVal) : ∃ (oc : Value) (od : Option Addr) (kV doc pm : Value) (an : Option Addr) (ct : Value) (osl : Array (Option Value)),
    K.lookup (He.fAd K tmAt) = some ⟨oc, od, .func (PySem.W.ksFn "__init__" "TooMany.__init__" (L2.defArgs s_tm) (defBody s_tm) (defScope s_tm) .none kV doc pm an (.ref (tmCode K)) ct (tmCell K)), osl⟩ ∧ PySem.W.codeIn K (.ref (tmCode K)) "TooMany.__init__" = true := by
  have key : ∀ fd, tmFd K = some fd → ∃ oc od osl, K.lookup (He.fAd K tmAt) = some ⟨oc, od, .func fd, osl⟩ := fun fd hf => by
    unfold tmFd at hf
    split at hf
    · rename_i oc od fd' osl ho
      cases hf
      exact ⟨oc, od, osl, ho⟩
    · cases hf
  unfold fdB at e
  unfold tmW at w
  cases hf : tmFd K with
  | none =>
    rw [hf] at e
    cases e
  | some fd =>
    rw [hf] at e w
    obtain ⟨oc, od, osl, ho⟩ := key fd hf
    obtain ⟨n1, n2, n3, n4, n5, n6, n7, n8, n9, n10, n11, n12, n13, n14, n15⟩ := fd
    have w2 : (some (n1, n2, n3, n4, n5, n6, n15) : TmV) = (some ("__init__", "TooMany.__init__", L2.defArgs s_tm, .stmts (defBody s_tm), defScope s_tm, mainGlobals, builtinsNs) : TmV) := w
    simp only [Option.some.injEq, Prod.mk.injEq] at w2
    obtain ⟨h1, h2, h3, h4, h5, h6, h7⟩ := w2
    subst h1 h2 h3 h4 h5 h6 h7
    obtain ⟨e1, e⟩ := He.ba e
    obtain ⟨e2, e⟩ := He.ba e
    obtain ⟨e3, e4⟩ := He.ba e
    have z1 : n7 = ([("__class__", tmCell K)] : List (Str × Addr)) := of_decide_eq_true e1
    have z3 : n13 = .ref (tmCode K) := of_decide_eq_true e3
    have e5 : n8 = .none := by
      cases n8 with
      | none => rfl
      | _ => cases e2
    subst z1 z3 e5
    exact ⟨oc, od, n9, n10, n11, n12, n14, osl, ho, e4⟩
def cellB (K : PySem.W.Frag) (cc C : Addr) : Bool := match K.lookup cc with
  | some ⟨_, _, .cell (some (.ref a)), _⟩ => decide (a = C)
  | _ => false
theorem cellB_ok {cc C : Addr} (e : cellB K cc C = true) : ∃ (oc : Value) (od : Option Addr) (osl : Array (Option Value)), K.lookup cc = some ⟨oc, od, .cell (some (.ref C)), osl⟩ := by
  unfold cellB at e
  split at e
  · rename_i oc od a osl ho
    have q := of_decide_eq_true e
    subst q
    exact ⟨oc, od, osl, ho⟩
  · cases e
def fileB (K : PySem.W.Frag) (c : Addr) (x : Str) : Bool := match K.lookup c with
  | some ⟨_, _, .fields vs, _⟩ => (match (vs[2]? : Option Value) with
    | some (.str fl _) => decide (fl = x)
    | _ => false)
  | _ => false
theorem fileB_ok {c : Addr} {x : Str} (e : fileB K c x = true) : ∃ (oc : Value) (od : Option Addr) (vs : Array Value) (osl : Array (Option Value)) (tf : Tok), K.lookup c = some ⟨oc, od, .fields vs, osl⟩ ∧ vs[2]? = some (.str x tf) := by
  unfold fileB at e
  split at e
  · rename_i oc od vs osl ho
    split at e
    · rename_i fl tf hv
      have q := of_decide_eq_true e
      subst q
      exact ⟨oc, od, vs, osl, tf, ho, hv⟩
    · cases e
  · cases e
def tmB (K : PySem.W.Frag) (C fI : Addr) : Bool :=
  PySem.W.keepIn K (.ref C) && (clsB K C && (He.eqO (PySem.W.findIn K (.ref C) "__setattr__") (some (some (.builtin "object.__setattr__"))) && (He.eqO (PySem.W.findIn K (.ref C) "limit") (some none) &&
  (He.eqO (PySem.W.findIn K (.ref C) "__init__") (some (some (.ref fI))) && (decide (PySem.W.typeIn K (.ref fI) = some (.type "function")) && (decide (PySem.W.subIn K (.ref C) (.type "BaseException") = some true) && (decide (PySem.W.typeIn K (.ref C) = some (.type "type")) &&
  (He.eqO (PySem.W.ks_superIn K C C "__init__") (some (some (.builtin "ValueError.__init__"))) && (decide (PySem.W.subIn K (.ref C) (.type "ValueError") = some true) && (decide (PySem.W.mroIn K C (.ref C) = some true) && (He.eqO (PySem.W.nsIn K cStatics "thirdparty.any") (some none) &&
  (fdB K && (cellB K (tmCell K) C && fileB K (tmCode K) "/claim/cut.py")))))))))))))
theorem tmB_ok {P : Program} (g : mg "TooMany" = some (.ref (He.ga K "TooMany"))) (e : tmB K (He.ga K "TooMany") (He.fAd K tmAt) = true) (w : tmW K = tmVal) (hf : ((P.main.file : Str) == "/claim/cut.py") = true) (ht : (P.main.scope.names.lookup ("super" : Str)).isSome = false) :
    TmX P K mg (He.ga K "TooMany") (He.fAd K tmAt) (tmCell K) (tmCode K) := by
  obtain ⟨h1, e⟩ := He.ba e
  obtain ⟨h2, e⟩ := He.ba e
  obtain ⟨h3, e⟩ := He.ba e
  obtain ⟨h4, e⟩ := He.ba e
  obtain ⟨h5, e⟩ := He.ba e
  obtain ⟨h6, e⟩ := He.ba e
  obtain ⟨h7, e⟩ := He.ba e
  obtain ⟨h8, e⟩ := He.ba e
  obtain ⟨h9, e⟩ := He.ba e
  obtain ⟨h10, e⟩ := He.ba e
  obtain ⟨h11, e⟩ := He.ba e
  obtain ⟨h12, e⟩ := He.ba e
  obtain ⟨h13, e⟩ := He.ba e
  obtain ⟨h14, h15⟩ := He.ba e
  obtain ⟨oc, od, vs, osl, tf, f1, f2⟩ := fileB_ok h15
  exact ⟨g, h1, clsB_ok h2, He.eqO_ok h3, He.eqO_ok h4, He.eqO_ok h5, of_decide_eq_true h6, of_decide_eq_true h7, of_decide_eq_true h8, He.eqO_ok h9, of_decide_eq_true h10, of_decide_eq_true h11, He.eqO_ok h12, fdB_ok h13 w, cellB_ok h14, ⟨oc, od, vs, osl, _, tf, f1, f2, hf⟩, ht⟩
/-! ### all of it -/
abbrev atAR : Str × Option Str := ("_law_all_refused", none)
abbrev atLaw : Str × Option Str := ("law", none)
def moreB (K : PySem.W.Frag) : Bool :=
  namB K (He.ga K "InvalidOrder") true false false false false && (namB K (He.ga K "TooMany") false false false false true && (decide (PySem.W.kitOne K (.ref (He.ga K "InvalidOrder")) (.type "ValueError") = some true) && (decide (PySem.W.kitOne K (.ref (He.ga K "TooMany")) (.type "ValueError") = some true) &&
  (tmB K (He.ga K "TooMany") (He.fAd K tmAt) && (decide ((He.cT K atLaw).2 ≠ (He.cT K atAR).2) && (PySem.W.codeHdIn K (He.cT K atLaw).1 (He.cT K atLaw).2 && (PySem.W.codeHdIn K (He.cT K atAR).1 (He.cT K atAR).2 && ((K.lookup (He.cT K atLaw).2).isNone && (K.lookup (He.cT K atAR).2).isNone))))))))
def freshB (g : Addr → Option Obj) (a : Addr) : Bool := match g a with
  | some o => He.emptyTab o
  | none => false
theorem freshB_ok {g : Addr → Option Obj} {a : Addr} (e : freshB g a = true) : g a = some { cls := .none, data := .fields #[] } := by
  unfold freshB at e
  split at e
  · rename_i o ho
    rw [ho, He.emptyTab_eq e]
  · cases e
structure SaysK (fa : List He.Fa) (fn : List He.DefD) (h : Heap) (K : PySem.W.Frag) : Prop where
  d : He.SaysD fa fn K
  tm : tmW K = tmVal
  more : moreB K = true
  e1 : h.get? (He.cT K atLaw).2 = some { cls := .none, data := .fields #[] }
  e2 : h.get? (He.cT K atAR).2 = some { cls := .none, data := .fields #[] }
abbrev AlK : Type := He.AlD × TmV × Bool
def obsK (fa : List He.Fa) (fn : List He.DefD) (g : Addr → Option Obj) (K : PySem.W.Frag) : AlK := (He.obsD fa fn K, tmW K, moreB K && (freshB g (He.cT K atLaw).2 && freshB g (He.cT K atAR).2))
def hookK (fa : List He.Fa) (fn : List He.DefD) : PySem.W.Hook where
  α := AlK
  obs := fun s => obsK fa fn s.heap.get? (He.frG s.heap.get? (atA s.heap.get?))
  val := fun _ => (He.valD fn, tmVal, true)
  says := fun _ h => ∃ K : PySem.W.Frag, K.In h ∧ SaysK fa fn h K
  of := fun w s e => by
    have q1 := congrArg (fun z : AlK => z.1) e
    have q2 := congrArg (fun z : AlK => z.2.1) e
    have q3 := congrArg (fun z : AlK => z.2.2) e
    obtain ⟨m1, m⟩ := He.ba q3
    obtain ⟨m2, m3⟩ := He.ba m
    exact ⟨_, He.frG_in, q1, q2, m1, freshB_ok m2, freshB_ok m3⟩
  keeps := fun _ _ _ ⟨K, hK, c⟩ k => ⟨K, PySem.W.Frag.In.keeps hK k, c.d, c.tm, c.more, k _ _ c.e1, k _ _ c.e2⟩
theorem obsK_eq {fa : List He.Fa} {fn : List He.DefD} {g : Addr → Option Obj} {s : Shared} (e : ∀ a, g a = s.heap.get? a) : obsK fa fn g (He.frG g (atA g)) = (hookK fa fn).obs s := by
  have z : g = s.heap.get? := funext e
  rw [z]
  rfl
end
end K45
set_option maxHeartbeats 0
/-! The head's run. -/
namespace K45
open PySem PySem.Spec PyProof.Rows L2
def namesA : List Str := ["__name__", "OrderError", "InvalidOrder", "InvalidMany", "InvalidExchange", "InvalidRow", "Unlike", "TooMany", "THINGS", "is_whole", "fits_order", "opposite_of", "need_order", "need_many", "need_few", "last_order", "opposite", "turned_about", "turned_over", "pairs_of", "size_by", "size_of", "changed_places", "bare_pairs", "steps_from", "strong_drops", "FEW_THINGS", "is_rough", "fours_of", "below_by_size"]
def namesB : List Str := ["is_smooth", "sizes_below", "beside", "side_by_side", "_law_cell", "_law_draws", "_law_bag", "_law_take", "_law_choice", "_law_order", "_law_near", "_law_swap", "_law_pairs", "_law_changed", "_law_ups", "_law_plain", "_law_named_error", "_law_error", "_law_truly", "_law_all_refused", "_law_bad_orders", "_law_is_rough", "_law_sizes", "_law_small_right", "_law_great_right"]
abbrev looseL : List Str := namesA ++ namesB
abbrev rowR : PySem.W.OpenRow := PySem.W.OpenLaw.row PySem.Challenge.rw_wiredorders_k45_whole_smooth_orders_and
abbrev viewQ : Program := PySem.W.view rowR.prog [61]
def faA : List He.Fa := [.glo "is_whole", .glo "fits_order", .glo "opposite_of", .glo "need_order", .glo "need_many", .glo "need_few", .glo "last_order", .glo "opposite", .glo "turned_about", .glo "turned_over", .glo "pairs_of", .glo "size_by", .glo "size_of", .glo "changed_places", .glo "bare_pairs", .glo "steps_from", .glo "strong_drops", .glo "is_rough", .glo "fours_of", .glo "below_by_size", .glo "is_smooth", .glo "sizes_below", .glo "beside", .glo "side_by_side", .glo "_law_cell", .glo "_law_draws", .glo "_law_bag", .glo "_law_take", .glo "_law_choice", .glo "_law_order", .glo "_law_near", .glo "_law_swap", .glo "_law_pairs", .glo "_law_changed", .glo "_law_ups"]
def faB : List He.Fa := [.glo "_law_plain", .glo "_law_named_error", .glo "_law_error", .glo "_law_truly", .glo "_law_all_refused", .glo "_law_bad_orders", .glo "_law_is_rough", .glo "_law_sizes", .glo "_law_small_right", .glo "_law_great_right", .glo "law", .glo "OrderError", .glo "InvalidOrder", .glo "InvalidExchange", .glo "InvalidRow", .glo "Unlike", .glo "TooMany", .free "len", .free "range", .free "tuple", .free "list", .free "set", .free "dict", .free "sorted", .free "min", .free "max", .free "any", .free "all", .free "isinstance", .free "int", .free "bool", .free "enumerate", .free "zip", .free "ValueError", .free "super"]
def faC : List He.Fa := [.int "THINGS" 30, .int "FEW_THINGS" 6, .exc "InvalidOrder", .exm "InvalidOrder" "OrderError" true, .exm "TooMany" "OrderError" true]
abbrev faL : List He.Fa := faA ++ (faB ++ faC)
def dfn (x : Str) (st : Stmt) : He.DefD := ⟨(x, none), x, x, L2.defArgs st, defBody st, defScope st, [], []⟩
def fnA : List He.DefD := [dfn "is_whole" s_is_whole, dfn "fits_order" s_fits_order, dfn "opposite_of" s_opposite_of, dfn "need_order" s_need_order, dfn "need_many" s_need_many, dfn "need_few" s_need_few, dfn "last_order" s_last_order, dfn "opposite" s_opposite, dfn "turned_about" s_turned_about, dfn "turned_over" s_turned_over, dfn "pairs_of" s_pairs_of, dfn "size_by" s_size_by, dfn "size_of" s_size_of, dfn "changed_places" s_changed_places, dfn "bare_pairs" s_bare_pairs, dfn "steps_from" s_steps_from, dfn "strong_drops" s_strong_drops, dfn "is_rough" s_is_rough, dfn "fours_of" s_fours_of, dfn "below_by_size" s_below_by_size, dfn "is_smooth" s_is_smooth, dfn "sizes_below" s_sizes_below, dfn "beside" s_beside]
def fnB : List He.DefD := [dfn "side_by_side" s_side_by_side, dfn "_law_cell" s_l_cell, dfn "_law_draws" s_l_draws, dfn "_law_bag" s_l_bag, dfn "_law_take" s_l_take, dfn "_law_choice" s_l_choice, dfn "_law_order" s_l_order, dfn "_law_near" s_l_near, dfn "_law_swap" s_l_swap, dfn "_law_pairs" s_l_pairs, dfn "_law_changed" s_l_changed, dfn "_law_ups" s_l_ups, dfn "_law_plain" s_l_plain, dfn "_law_named_error" s_l_named_error, dfn "_law_error" s_l_error, dfn "_law_truly" s_l_truly, dfn "_law_all_refused" s_l_all_refused, dfn "_law_bad_orders" s_l_bad_orders, dfn "_law_is_rough" s_l_is_rough, dfn "_law_sizes" s_l_sizes, dfn "_law_small_right" s_l_small_right, dfn "_law_great_right" s_l_great_right, dfn "law" s_law]
abbrev fnL : List He.DefD := fnA ++ fnB
def obL (s : PySem.W.SharedT) : AlK := obsK faL fnL (HandSHeadRun.getT s) (He.frG (HandSHeadRun.getT s) (atA (HandSHeadRun.getT s)))
theorem obL_eq (s : PySem.W.SharedT) : obL s = (hookK faL fnL).obs s.abs := obsK_eq (HandSHeadRun.getT_eq s)
theorem run_ok (w : World) : HandSHeadRun.RunEq rowR viewQ (hookK faL fnL) obL 3000 looseL w := by
  intro os
  kernel_rfl
end K45
set_option maxHeartbeats 4000000
/-! The defs behind the top. -/
namespace K45
open PySem PySem.Spec PyProof.Rows L2
section
variable {K : PySem.W.Frag} {h : Heap} {mg : Str → Option Value}
theorem df_of {x : Str} {st : Stmt} {ps : List Str} (c : He.SaysD faL fnL K) (i j : Nat) (hd : fnL[i]? = some (dfn x st)) (hg : faL[j]? = some (.glo x)) (X : K.In h) (G : h.Ns mainGlobals mg)
    (hb : ∀ (kV doc pm : Value) (an : Option Addr) (cdv ct : Value) (us : List Value), us.length = ps.length → bindArgs (PySem.W.fnOf x x (L2.defArgs st) (defBody st) (defScope st) .none kV doc pm an cdv ct) ⟨us, []⟩ = pure (ps.zip us)) : Df K mg x st ps := by
  obtain ⟨fd, F⟩ := c.def_ i hd
  obtain ⟨⟨oc, od, dV, kV, doc, pm, an, cdv, ct, osl, e, lk, hc, hD, _⟩, kp⟩ := F
  have z : dV = .none := by
    rcases hD with z | z
    · exact z.2
    · exact absurd rfl z.1
  subst z
  have F2 : L2.Fun K x x st (He.fAd K (x, none)) fd := ⟨⟨oc, od, kV, doc, pm, an, cdv, ct, osl, e, lk, hc⟩, kp⟩
  exact ⟨_, fd, F2, He.glo_ok X G (c.fact j hg), F2.binds hb⟩
theorem df_is_whole (c : He.SaysD faL fnL K) (X : K.In h) (G : h.Ns mainGlobals mg) : Df K mg "is_whole" s_is_whole ["value", "low", "high"] := df_of c 0 0 rfl rfl X G fun _ _ _ _ _ _ us hl => match us, hl with | [_, _, _], _ => rfl
theorem df_fits_order (c : He.SaysD faL fnL K) (X : K.In h) (G : h.Ns mainGlobals mg) : Df K mg "fits_order" s_fits_order ["value"] := df_of c 1 1 rfl rfl X G fun _ _ _ _ _ _ us hl => match us, hl with | [_], _ => rfl
theorem df_opposite_of (c : He.SaysD faL fnL K) (X : K.In h) (G : h.Ns mainGlobals mg) : Df K mg "opposite_of" s_opposite_of ["order"] := df_of c 2 2 rfl rfl X G fun _ _ _ _ _ _ us hl => match us, hl with | [_], _ => rfl
theorem df_need_order (c : He.SaysD faL fnL K) (X : K.In h) (G : h.Ns mainGlobals mg) : Df K mg "need_order" s_need_order ["value"] := df_of c 3 3 rfl rfl X G fun _ _ _ _ _ _ us hl => match us, hl with | [_], _ => rfl
theorem df_need_many (c : He.SaysD faL fnL K) (X : K.In h) (G : h.Ns mainGlobals mg) : Df K mg "need_many" s_need_many ["value"] := df_of c 4 4 rfl rfl X G fun _ _ _ _ _ _ us hl => match us, hl with | [_], _ => rfl
theorem df_need_few (c : He.SaysD faL fnL K) (X : K.In h) (G : h.Ns mainGlobals mg) : Df K mg "need_few" s_need_few ["many", "limit"] := df_of c 5 5 rfl rfl X G fun _ _ _ _ _ _ us hl => match us, hl with | [_, _], _ => rfl
theorem df_last_order (c : He.SaysD faL fnL K) (X : K.In h) (G : h.Ns mainGlobals mg) : Df K mg "last_order" s_last_order ["many"] := df_of c 6 6 rfl rfl X G fun _ _ _ _ _ _ us hl => match us, hl with | [_], _ => rfl
theorem df_opposite (c : He.SaysD faL fnL K) (X : K.In h) (G : h.Ns mainGlobals mg) : Df K mg "opposite" s_opposite ["order"] := df_of c 7 7 rfl rfl X G fun _ _ _ _ _ _ us hl => match us, hl with | [_], _ => rfl
theorem df_turned_about (c : He.SaysD faL fnL K) (X : K.In h) (G : h.Ns mainGlobals mg) : Df K mg "turned_about" s_turned_about ["order"] := df_of c 8 8 rfl rfl X G fun _ _ _ _ _ _ us hl => match us, hl with | [_], _ => rfl
theorem df_turned_over (c : He.SaysD faL fnL K) (X : K.In h) (G : h.Ns mainGlobals mg) : Df K mg "turned_over" s_turned_over ["order"] := df_of c 9 9 rfl rfl X G fun _ _ _ _ _ _ us hl => match us, hl with | [_], _ => rfl
theorem df_pairs_of (c : He.SaysD faL fnL K) (X : K.In h) (G : h.Ns mainGlobals mg) : Df K mg "pairs_of" s_pairs_of ["order"] := df_of c 10 10 rfl rfl X G fun _ _ _ _ _ _ us hl => match us, hl with | [_], _ => rfl
theorem df_size_by (c : He.SaysD faL fnL K) (X : K.In h) (G : h.Ns mainGlobals mg) : Df K mg "size_by" s_size_by ["order"] := df_of c 11 11 rfl rfl X G fun _ _ _ _ _ _ us hl => match us, hl with | [_], _ => rfl
theorem df_size_of (c : He.SaysD faL fnL K) (X : K.In h) (G : h.Ns mainGlobals mg) : Df K mg "size_of" s_size_of ["order"] := df_of c 12 12 rfl rfl X G fun _ _ _ _ _ _ us hl => match us, hl with | [_], _ => rfl
theorem df_changed_places (c : He.SaysD faL fnL K) (X : K.In h) (G : h.Ns mainGlobals mg) : Df K mg "changed_places" s_changed_places ["order", "first", "second"] := df_of c 13 13 rfl rfl X G fun _ _ _ _ _ _ us hl => match us, hl with | [_, _, _], _ => rfl
theorem df_bare_pairs (c : He.SaysD faL fnL K) (X : K.In h) (G : h.Ns mainGlobals mg) : Df K mg "bare_pairs" s_bare_pairs ["order", "up"] := df_of c 14 14 rfl rfl X G fun _ _ _ _ _ _ us hl => match us, hl with | [_, _], _ => rfl
theorem df_steps_from (c : He.SaysD faL fnL K) (X : K.In h) (G : h.Ns mainGlobals mg) : Df K mg "steps_from" s_steps_from ["order", "up"] := df_of c 15 15 rfl rfl X G fun _ _ _ _ _ _ us hl => match us, hl with | [_, _], _ => rfl
theorem df_strong_drops (c : He.SaysD faL fnL K) (X : K.In h) (G : h.Ns mainGlobals mg) : Df K mg "strong_drops" s_strong_drops ["order"] := df_of c 16 16 rfl rfl X G fun _ _ _ _ _ _ us hl => match us, hl with | [_], _ => rfl
theorem df_is_rough (c : He.SaysD faL fnL K) (X : K.In h) (G : h.Ns mainGlobals mg) : Df K mg "is_rough" s_is_rough ["four"] := df_of c 17 17 rfl rfl X G fun _ _ _ _ _ _ us hl => match us, hl with | [_], _ => rfl
theorem df_fours_of (c : He.SaysD faL fnL K) (X : K.In h) (G : h.Ns mainGlobals mg) : Df K mg "fours_of" s_fours_of ["order"] := df_of c 18 18 rfl rfl X G fun _ _ _ _ _ _ us hl => match us, hl with | [_], _ => rfl
theorem df_below_by_size (c : He.SaysD faL fnL K) (X : K.In h) (G : h.Ns mainGlobals mg) : Df K mg "below_by_size" s_below_by_size ["order"] := df_of c 19 19 rfl rfl X G fun _ _ _ _ _ _ us hl => match us, hl with | [_], _ => rfl
theorem df_is_smooth (c : He.SaysD faL fnL K) (X : K.In h) (G : h.Ns mainGlobals mg) : Df K mg "is_smooth" s_is_smooth ["order"] := df_of c 20 20 rfl rfl X G fun _ _ _ _ _ _ us hl => match us, hl with | [_], _ => rfl
theorem df_sizes_below (c : He.SaysD faL fnL K) (X : K.In h) (G : h.Ns mainGlobals mg) : Df K mg "sizes_below" s_sizes_below ["order"] := df_of c 21 21 rfl rfl X G fun _ _ _ _ _ _ us hl => match us, hl with | [_], _ => rfl
theorem df_beside (c : He.SaysD faL fnL K) (X : K.In h) (G : h.Ns mainGlobals mg) : Df K mg "beside" s_beside ["one", "other"] := df_of c 22 22 rfl rfl X G fun _ _ _ _ _ _ us hl => match us, hl with | [_, _], _ => rfl
theorem df_side_by_side (c : He.SaysD faL fnL K) (X : K.In h) (G : h.Ns mainGlobals mg) : Df K mg "side_by_side" s_side_by_side ["one", "other"] := df_of c 23 23 rfl rfl X G fun _ _ _ _ _ _ us hl => match us, hl with | [_, _], _ => rfl
theorem df_l_cell (c : He.SaysD faL fnL K) (X : K.In h) (G : h.Ns mainGlobals mg) : Df K mg "_law_cell" s_l_cell ["_law_script", "_law_k"] := df_of c 24 24 rfl rfl X G fun _ _ _ _ _ _ us hl => match us, hl with | [_, _], _ => rfl
theorem df_l_draws (c : He.SaysD faL fnL K) (X : K.In h) (G : h.Ns mainGlobals mg) : Df K mg "_law_draws" s_l_draws ["_law_script", "_law_k", "_law_many", "_law_base"] := df_of c 25 25 rfl rfl X G fun _ _ _ _ _ _ us hl => match us, hl with | [_, _, _, _], _ => rfl
theorem df_l_bag (c : He.SaysD faL fnL K) (X : K.In h) (G : h.Ns mainGlobals mg) : Df K mg "_law_bag" s_l_bag ["_law_script", "_law_k"] := df_of c 26 26 rfl rfl X G fun _ _ _ _ _ _ us hl => match us, hl with | [_, _], _ => rfl
theorem df_l_take (c : He.SaysD faL fnL K) (X : K.In h) (G : h.Ns mainGlobals mg) : Df K mg "_law_take" s_l_take ["_law_bag_here", "_law_many"] := df_of c 27 27 rfl rfl X G fun _ _ _ _ _ _ us hl => match us, hl with | [_, _], _ => rfl
theorem df_l_choice (c : He.SaysD faL fnL K) (X : K.In h) (G : h.Ns mainGlobals mg) : Df K mg "_law_choice" s_l_choice ["_law_bag_here", "_law_some"] := df_of c 28 28 rfl rfl X G fun _ _ _ _ _ _ us hl => match us, hl with | [_, _], _ => rfl
theorem df_l_order (c : He.SaysD faL fnL K) (X : K.In h) (G : h.Ns mainGlobals mg) : Df K mg "_law_order" s_l_order ["_law_bag_here", "_law_many"] := df_of c 29 29 rfl rfl X G fun _ _ _ _ _ _ us hl => match us, hl with | [_, _], _ => rfl
theorem df_l_near (c : He.SaysD faL fnL K) (X : K.In h) (G : h.Ns mainGlobals mg) : Df K mg "_law_near" s_l_near ["_law_bag_here", "_law_order_here", "_law_steps"] := df_of c 30 30 rfl rfl X G fun _ _ _ _ _ _ us hl => match us, hl with | [_, _, _], _ => rfl
theorem df_l_swap (c : He.SaysD faL fnL K) (X : K.In h) (G : h.Ns mainGlobals mg) : Df K mg "_law_swap" s_l_swap ["_law_order_here", "_law_place"] := df_of c 31 31 rfl rfl X G fun _ _ _ _ _ _ us hl => match us, hl with | [_, _], _ => rfl
theorem df_l_pairs (c : He.SaysD faL fnL K) (X : K.In h) (G : h.Ns mainGlobals mg) : Df K mg "_law_pairs" s_l_pairs ["_law_order_here"] := df_of c 32 32 rfl rfl X G fun _ _ _ _ _ _ us hl => match us, hl with | [_], _ => rfl
theorem df_l_changed (c : He.SaysD faL fnL K) (X : K.In h) (G : h.Ns mainGlobals mg) : Df K mg "_law_changed" s_l_changed ["_law_order_here", "_law_first", "_law_second"] := df_of c 33 33 rfl rfl X G fun _ _ _ _ _ _ us hl => match us, hl with | [_, _, _], _ => rfl
theorem df_l_ups (c : He.SaysD faL fnL K) (X : K.In h) (G : h.Ns mainGlobals mg) : Df K mg "_law_ups" s_l_ups ["_law_order_here"] := df_of c 34 34 rfl rfl X G fun _ _ _ _ _ _ us hl => match us, hl with | [_], _ => rfl
theorem df_l_plain (c : He.SaysD faL fnL K) (X : K.In h) (G : h.Ns mainGlobals mg) : Df K mg "_law_plain" s_l_plain ["_law_many"] := df_of c 35 35 rfl rfl X G fun _ _ _ _ _ _ us hl => match us, hl with | [_], _ => rfl
theorem df_l_named_error (c : He.SaysD faL fnL K) (X : K.In h) (G : h.Ns mainGlobals mg) : Df K mg "_law_named_error" s_l_named_error ["_law_e"] := df_of c 36 36 rfl rfl X G fun _ _ _ _ _ _ us hl => match us, hl with | [_], _ => rfl
theorem df_l_error (c : He.SaysD faL fnL K) (X : K.In h) (G : h.Ns mainGlobals mg) : Df K mg "_law_error" s_l_error ["_law_call"] := df_of c 37 37 rfl rfl X G fun _ _ _ _ _ _ us hl => match us, hl with | [_], _ => rfl
theorem df_l_truly (c : He.SaysD faL fnL K) (X : K.In h) (G : h.Ns mainGlobals mg) : Df K mg "_law_truly" s_l_truly ["_law_found", "_law_due"] := df_of c 38 38 rfl rfl X G fun _ _ _ _ _ _ us hl => match us, hl with | [_, _], _ => rfl
theorem df_l_all_refused (c : He.SaysD faL fnL K) (X : K.In h) (G : h.Ns mainGlobals mg) : Df K mg "_law_all_refused" s_l_all_refused ["_law_call", "_law_odds", "_law_name"] := df_of c 39 39 rfl rfl X G fun _ _ _ _ _ _ us hl => match us, hl with | [_, _, _], _ => rfl
theorem df_l_bad_orders (c : He.SaysD faL fnL K) (X : K.In h) (G : h.Ns mainGlobals mg) : Df K mg "_law_bad_orders" s_l_bad_orders [] := df_of c 40 40 rfl rfl X G fun _ _ _ _ _ _ us hl => match us, hl with | [], _ => rfl
theorem df_l_is_rough (c : He.SaysD faL fnL K) (X : K.In h) (G : h.Ns mainGlobals mg) : Df K mg "_law_is_rough" s_l_is_rough ["_law_order_here"] := df_of c 41 41 rfl rfl X G fun _ _ _ _ _ _ us hl => match us, hl with | [_], _ => rfl
theorem df_l_sizes (c : He.SaysD faL fnL K) (X : K.In h) (G : h.Ns mainGlobals mg) : Df K mg "_law_sizes" s_l_sizes ["_law_order_here"] := df_of c 42 42 rfl rfl X G fun _ _ _ _ _ _ us hl => match us, hl with | [_], _ => rfl
theorem df_l_small_right (c : He.SaysD faL fnL K) (X : K.In h) (G : h.Ns mainGlobals mg) : Df K mg "_law_small_right" s_l_small_right ["_law_order_here"] := df_of c 43 43 rfl rfl X G fun _ _ _ _ _ _ us hl => match us, hl with | [_], _ => rfl
theorem df_l_great_right (c : He.SaysD faL fnL K) (X : K.In h) (G : h.Ns mainGlobals mg) : Df K mg "_law_great_right" s_l_great_right ["_law_bag_here", "_law_order_here"] := df_of c 44 44 rfl rfl X G fun _ _ _ _ _ _ us hl => match us, hl with | [_, _], _ => rfl
theorem df_law (c : He.SaysD faL fnL K) (X : K.In h) (G : h.Ns mainGlobals mg) : Df K mg "law" s_law ["_law_script"] := df_of c 45 45 rfl rfl X G fun _ _ _ _ _ _ us hl => match us, hl with | [_], _ => rfl
theorem fr_ok (c : He.SaysD faL fnL K) (X : K.In h) (G : h.Ns mainGlobals mg) : Fr mg :=
  ⟨He.free_ok X G (c.fact 52 (f := .free "len") rfl),
   He.free_ok X G (c.fact 53 (f := .free "range") rfl),
   He.free_ok X G (c.fact 54 (f := .free "tuple") rfl),
   He.free_ok X G (c.fact 55 (f := .free "list") rfl),
   He.free_ok X G (c.fact 56 (f := .free "set") rfl),
   He.free_ok X G (c.fact 57 (f := .free "dict") rfl),
   He.free_ok X G (c.fact 58 (f := .free "sorted") rfl),
   He.free_ok X G (c.fact 59 (f := .free "min") rfl),
   He.free_ok X G (c.fact 60 (f := .free "max") rfl),
   He.free_ok X G (c.fact 61 (f := .free "any") rfl),
   He.free_ok X G (c.fact 62 (f := .free "all") rfl),
   He.free_ok X G (c.fact 63 (f := .free "isinstance") rfl),
   He.free_ok X G (c.fact 64 (f := .free "int") rfl),
   He.free_ok X G (c.fact 65 (f := .free "bool") rfl),
   He.free_ok X G (c.fact 66 (f := .free "enumerate") rfl),
   He.free_ok X G (c.fact 67 (f := .free "zip") rfl),
   He.free_ok X G (c.fact 68 (f := .free "ValueError") rfl),
   He.free_ok X G (c.fact 69 (f := .free "super") rfl),
   He.int_ok X G (c.fact 70 (f := .int "THINGS" 30) rfl), He.int_ok X G (c.fact 71 (f := .int "FEW_THINGS" 6) rfl)⟩
theorem gl_OrderError (c : He.SaysD faL fnL K) (X : K.In h) (G : h.Ns mainGlobals mg) : mg "OrderError" = some (.ref (He.ga K "OrderError")) := He.glo_ok X G (c.fact 46 (f := .glo "OrderError") rfl)
theorem gl_InvalidOrder (c : He.SaysD faL fnL K) (X : K.In h) (G : h.Ns mainGlobals mg) : mg "InvalidOrder" = some (.ref (He.ga K "InvalidOrder")) := He.glo_ok X G (c.fact 47 (f := .glo "InvalidOrder") rfl)
theorem gl_InvalidExchange (c : He.SaysD faL fnL K) (X : K.In h) (G : h.Ns mainGlobals mg) : mg "InvalidExchange" = some (.ref (He.ga K "InvalidExchange")) := He.glo_ok X G (c.fact 48 (f := .glo "InvalidExchange") rfl)
theorem gl_InvalidRow (c : He.SaysD faL fnL K) (X : K.In h) (G : h.Ns mainGlobals mg) : mg "InvalidRow" = some (.ref (He.ga K "InvalidRow")) := He.glo_ok X G (c.fact 49 (f := .glo "InvalidRow") rfl)
theorem gl_Unlike (c : He.SaysD faL fnL K) (X : K.In h) (G : h.Ns mainGlobals mg) : mg "Unlike" = some (.ref (He.ga K "Unlike")) := He.glo_ok X G (c.fact 50 (f := .glo "Unlike") rfl)
theorem gl_TooMany (c : He.SaysD faL fnL K) (X : K.In h) (G : h.Ns mainGlobals mg) : mg "TooMany" = some (.ref (He.ga K "TooMany")) := He.glo_ok X G (c.fact 51 (f := .glo "TooMany") rfl)
theorem own_order (c : He.SaysD faL fnL K) (X : K.In h) (G : h.Ns mainGlobals mg) : OwnX K mg "InvalidOrder" (He.ga K "InvalidOrder") := by
  obtain ⟨e1, e2, e3, e4⟩ := He.exc_ok (c.fact 72 (f := .exc "InvalidOrder") rfl)
  exact ⟨gl_InvalidOrder c X G, e2, e1, e3, e4⟩
theorem exm_order (c : He.SaysD faL fnL K) : PySem.W.exmOne K (.ref (He.ga K "InvalidOrder")) (.ref (He.ga K "OrderError")) = some true := He.exm_ok (c.fact 73 (f := .exm "InvalidOrder" "OrderError" true) rfl)
theorem exm_many (c : He.SaysD faL fnL K) : PySem.W.exmOne K (.ref (He.ga K "TooMany")) (.ref (He.ga K "OrderError")) = some true := He.exm_ok (c.fact 74 (f := .exm "TooMany" "OrderError" true) rfl)
end
end K45
set_option maxHeartbeats 4000000
/-! All of it. -/
namespace K45
open PySem PySem.Spec PyProof.Rows L2 LamX
section
variable {P : Program} {w : World} {K : PySem.W.Frag} {h : Heap} {mg : Str → Option Value} {base : Heap}
theorem tabF_of {x : Str} {st : Stmt} (c : He.SaysD faL fnL K) (i j : Nat) (hd : fnL[i]? = some (dfn x st)) (hg : faL[j]? = some (.glo x)) (X : K.In h) (G : h.Ns mainGlobals mg) (TB : TabB base mg (He.cT K (x, none)).1 (He.cT K (x, none)).2) : TabF K mg base x (He.cT K (x, none)).2 := by
  intro f oc od fd osl hm lk
  have e := hm.symm.trans (He.glo_ok X G (c.fact j hg))
  cases e
  obtain ⟨fd2, F⟩ := c.def_ i hd
  obtain ⟨⟨oc2, od2, dV, kV, doc, pm, an, cdv, ct, osl2, e2, lk2, hc, _, _⟩, kp⟩ := F
  have lk3 : K.lookup (He.ga K x) = some ⟨oc2, od2, .func fd2, osl2⟩ := lk2
  rw [lk] at lk3
  obtain ⟨co, eco⟩ := He.codeIn_ref hc
  injection lk3 with lk3
  injection lk3 with _ _ e3 _
  injection e3 with e3
  subst e3 e2 eco
  have q : He.codeOf K (x, none) = co := He.codeOf_eq (p := (x, none)) lk rfl
  refine ⟨co, rfl, ?_⟩
  have z : TabB base mg (He.codeOf K (x, none)) (He.cT K (x, none)).2 := TB
  rw [q] at z
  exact z
theorem law_all (S : SaysK faL fnL h K) (X : K.In h) (G : h.Ns mainGlobals mg) (hf : ((P.main.file : Str) == "/claim/cut.py") = true) (ht : (P.main.scope.names.lookup ("super" : Str)).isSome = false)
    (TBa : TabB base mg (He.cT K atAR).1 (He.cT K atAR).2) (TBl : TabB base mg (He.cT K atLaw).1 (He.cT K atLaw).2) {f : Addr} {fd : FuncData} (F : L2.Fun K "law" "law" s_law f fd) (hm : mg "law" = some (.ref f)) :
    FnOk P w K mg base CX0 8 f fd ["_law_script"] (spLaw K (He.cT K atAR).2 (He.cT K atLaw).2) := by
  have c := S.d
  obtain ⟨m1, m⟩ := He.ba S.more
  obtain ⟨m2, m⟩ := He.ba m
  obtain ⟨m3, m⟩ := He.ba m
  obtain ⟨m4, m⟩ := He.ba m
  obtain ⟨m5, m⟩ := He.ba m
  obtain ⟨m6, _⟩ := He.ba m
  have gl : ∀ x ∈ (["InvalidOrder", "InvalidExchange", "InvalidRow", "Unlike", "TooMany"] : List Str), mg x = some (.ref (He.ga K x)) := by
    intro x hx
    simp only [List.mem_cons, List.not_mem_nil, or_false] at hx
    rcases hx with rfl | rfl | rfl | rfl | rfl
    · exact gl_InvalidOrder c X G
    · exact gl_InvalidExchange c X G
    · exact gl_InvalidRow c X G
    · exact gl_Unlike c X G
    · exact gl_TooMany c X G
  have NI := namB_ok gl m1
  have NM := namB_ok gl m2
  have TM : TmX P K mg _ _ _ _ := tmB_ok (gl_TooMany c X G) m5 S.tm hf ht
  have T := fr_ok c X G
  have whole := ok_is_whole (P := P) (w := w) (base := base) T (df_is_whole c X G)
  have fits := ok_fits_order T whole (df_fits_order c X G)
  have needO := ok_need_order fits (df_need_order c X G)
  have needM := ok_need_many T whole (df_need_many c X G)
  have needF := ok_need_few (P := P) (w := w) (base := base) (df_need_few c X G)
  have about := ok_turned_about needO (df_turned_about c X G)
  have over := ok_turned_over T needO (df_turned_over c X G)
  have pairs := ok_pairs_of (P := P) (w := w) (base := base) T (df_pairs_of c X G)
  have lpairs := ok_l_pairs (P := P) (w := w) (base := base) T (df_l_pairs c X G)
  have sizeBy := ok_size_by T pairs (df_size_by c X G)
  have sizeOf := ok_size_of needO sizeBy (df_size_of c X G)
  have rough := ok_is_rough (P := P) (w := w) (base := base) (df_is_rough c X G)
  have chg := ok_changed_places (P := P) (w := w) (base := base) (df_changed_places c X G)
  have besd := ok_beside (P := P) (w := w) (base := base) T (df_beside c X G)
  have bare := ok_bare_pairs (P := P) (w := w) (base := base) T (df_bare_pairs c X G)
  have steps := ok_steps_from T chg bare (df_steps_from c X G)
  have drops := ok_strong_drops needO steps (df_strong_drops c X G)
  have fours := ok_fours_of (P := P) (w := w) (base := base) T (df_fours_of c X G)
  have smooth := ok_is_smooth T needO rough fours (df_is_smooth c X G)
  have side := ok_side_by_side T needO needF besd (df_side_by_side c X G)
  have oppOf := ok_opposite_of (P := P) (w := w) (base := base) T (df_opposite_of c X G)
  have opp := ok_opposite needO oppOf (df_opposite c X G)
  have last := ok_last_order T needM (df_last_order c X G)
  have plain := ok_l_plain (P := P) (w := w) (base := base) T (df_l_plain c X G)
  have swap := ok_l_swap (P := P) (w := w) (base := base) (df_l_swap c X G)
  have lchg := ok_l_changed (P := P) (w := w) (base := base) T (df_l_changed c X G)
  have truly := ok_l_truly (P := P) (w := w) (base := base) T (df_l_truly c X G)
  have ups := ok_l_ups T lpairs lchg (df_l_ups c X G)
  have below := ok_below_by_size T steps (df_below_by_size c X G)
  have lsizes := ok_l_sizes T ups (df_l_sizes c X G)
  have sizes := ok_sizes_below T needO needF below (df_sizes_below c X G)
  have lrough := ok_l_is_rough (P := P) (w := w) (base := base) T (df_l_is_rough c X G)
  have small := ok_l_small_right T sizes lsizes sizeOf drops smooth truly lrough opp over about (df_l_small_right c X G)
  have cell := ok_s_cell (P := P) (w := w) (base := base) T (df_l_cell c X G)
  have draws := ok_s_draws T cell (df_l_draws c X G)
  have bag := ok_s_bag draws (df_l_bag c X G)
  have take := ok_l_take (P := P) (w := w) (base := base) T (df_l_take c X G)
  have choice := ok_l_choice T take (df_l_choice c X G)
  have order := ok_l_order T take (df_l_order c X G)
  have near := ok_l_near T take swap (df_l_near c X G)
  have great := ok_l_great_right T take order smooth truly lrough opp side (df_l_great_right c X G)
  have bad := ok_l_bad_orders (P := P) (w := w) (base := base) T (df_l_bad_orders c X G)
  have rneed := okr_need_order fits (own_order c X G) (df_need_order c X G)
  have rsm := okr_is_smooth rneed (df_is_smooth c X G)
  have rsz := okr_sizes_below rneed (df_sizes_below c X G)
  have rfew := okr_need_few (w := w) (base := base) T TM (df_need_few c X G)
  have rmany := okr_sizes_many T needO rfew (df_sizes_below c X G)
  have named := ok_named (P := P) (w := w) (base := base) T (df_l_named_error c X G)
  have ne : (He.cT K atLaw).2 ≠ (He.cT K atAR).2 := of_decide_eq_true m6
  have TFa : TabF K mg base "_law_all_refused" (He.cT K atAR).2 := tabF_of c 39 39 rfl rfl X G TBa
  have TFl : TabF K mg base "law" (He.cT K atLaw).2 := tabF_of c 45 45 rfl rfl X G TBl
  have ar := ok_l_all_refused (P := P) (w := w) T ne TFa (gl_OrderError c X G) (exm_order c) (of_decide_eq_true m3) NI named (df_l_error c X G) (df_l_all_refused c X G)
  exact ok_law ⟨bag, take, choice, order, near, small, great, plain, last, smooth, sizes⟩ ⟨T, ne, gl_OrderError c X G, ar, bad, rsm, rsz, rmany, plain, named, df_l_error c X G, exm_many c, of_decide_eq_true m4, NM⟩ TFl F hm
end
end K45
set_option maxHeartbeats 0
/-! The end. -/
namespace K45
open PySem PySem.Spec PyProof.Rows L2 LamX
theorem fin_ok {w : World} {mg : Str → Option Value} {fa : Addr} {h : Heap} {K : PySem.W.Frag} (X : K.In h) (S : SaysK faL fnL h K) (G : h.Ns mainGlobals mg) (hm : mg "law" = some (.ref fa)) :
    LawAtS PySem.Challenge.rw_wiredorders_k45_whole_smooth_orders_and w K L2.CX0 8 63 "_law_script" mg fa h := by
  have c := S.d
  obtain ⟨_, m⟩ := He.ba S.more
  obtain ⟨_, m⟩ := He.ba m
  obtain ⟨_, m⟩ := He.ba m
  obtain ⟨_, m⟩ := He.ba m
  obtain ⟨_, m⟩ := He.ba m
  obtain ⟨_, m⟩ := He.ba m
  obtain ⟨a1, m⟩ := He.ba m
  obtain ⟨a2, m⟩ := He.ba m
  obtain ⟨a3, a4⟩ := He.ba m
  obtain ⟨fd, F⟩ := c.def_ 45 (d := dfn "law" s_law) rfl
  have e := hm.symm.trans (He.glo_ok X G (c.fact 45 (f := .glo "law") rfl))
  cases e
  have b := FunD.bindsA (ps := ["_law_script"]) F fun _ _ _ _ _ _ us hl => match us, hl with | [_], _ => rfl
  have F2 : L2.Fun K "law" "law" s_law (He.ga K "law") fd := by
    obtain ⟨⟨oc, od, dV, kV, doc, pm, an, cdv, ct, osl, e, lk, hc, hD, _⟩, kp⟩ := F
    have z : dV = .none := by
      rcases hD with z | z
      · exact z.2
      · exact absurd rfl z.1
    subst z
    exact ⟨⟨oc, od, kV, doc, pm, an, cdv, ct, osl, e, lk, hc⟩, kp⟩
  refine ⟨fd, [He.cT K atAR, He.cT K atLaw], spLaw K (He.cT K atAR).2 (He.cT K atLaw).2, ?_, ?_, ?_, fun s u => b s [u] rfl, ?_, ?_⟩
  · intro p hp
    simp only [List.mem_cons, List.not_mem_nil, or_false] at hp
    rcases hp with rfl | rfl
    · exact S.e2
    · exact S.e1
  · intro p hp
    simp only [List.mem_cons, List.not_mem_nil, or_false] at hp
    rcases hp with rfl | rfl
    · exact Option.isNone_iff_eq_none.mp a4
    · exact Option.isNone_iff_eq_none.mp a3
  · intro p hp
    simp only [List.mem_cons, List.not_mem_nil, or_false] at hp
    rcases hp with rfl | rfl
    · exact PySem.W.codeHd_of_K X a2
    · exact PySem.W.codeHd_of_K X a1
  · intro H a ns _ _ hT hS
    exact ⟨a, ns, rfl, hS, ⟨hT _ List.mem_cons_self, hT _ (List.mem_cons_of_mem _ List.mem_cons_self)⟩, fun _ => rfl⟩
  · intro base _ _ TB
    exact law_all S X G (by kernel_rfl) (by kernel_rfl) (TB _ List.mem_cons_self) (TB _ (List.mem_cons_of_mem _ List.mem_cons_self)) F2 hm
end K45
open PySem PySem.W PySem.Calls PyProof.Rows
theorem PySem.Challenge.cw_wiredorders_k45_whole_smooth_orders_and_holds : PySem.Challenge.rw_wiredorders_k45_whole_smooth_orders_and.Holds := by
  w_on; o_law
  refine HandSHeadRun.head_any (r := OpenLaw.row PySem.Challenge.rw_wiredorders_k45_whole_smooth_orders_and) (q := K45.viewQ) (H := K45.hookK K45.faL K45.fnL) (ob := K45.obL) (M := 3000) (loose := K45.looseL) (d := HandSHeadRun.topDef (OpenLaw.row PySem.Challenge.rw_wiredorders_k45_whole_smooth_orders_and).prog 61) (kwd := []) K45.obL_eq
    (by kernel_rfl) (fun s => by kernel_rfl) K45.run_ok (by kernel_rfl) (by kernel_rfl) (by kernel_rfl) (by rfl) (by first | assumption | decide +kernel) (by decide +kernel) ⟨rfl, rfl, rfl, rfl, rfl, by decide +kernel⟩ ?hw ?hc
  case hw => w_witness2
  case hc =>
    refine LamX.walk_ofTsE (l := PySem.Challenge.rw_wiredorders_k45_whole_smooth_orders_and) (n := 63) (k := 8) (x := "_law_script") (CX := fun _ => L2.CX0) rfl (by decide) (by kernel_rfl) ⟨rfl, by decide, by decide⟩ ?F (fun _ _ _ _ _ z => z)
    intro w mg fa h Y G hmg0
    obtain ⟨K, KX, S⟩ := Y
    have hmg : mg ("law" : PySem.Str) = some (.ref fa) := by
      have e : (HandSHeadRun.topDef (OpenLaw.row PySem.Challenge.rw_wiredorders_k45_whole_smooth_orders_and).prog 61).name = ("law" : PySem.Str) := by kernel_rfl
      rw [← e]
      exact hmg0
    exact ⟨K, KX, K45.fin_ok KX S G hmg⟩
