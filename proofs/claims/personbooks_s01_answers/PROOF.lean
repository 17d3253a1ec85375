import PyProof.Rows.All
import Wide.All
import OpenK.AllK
import Wide.FinOn
import PyProof.EqAt
import PyProof.EqKinds
import PyProof.TupleCall
import Open.SpecLaws
import KE.OsGo
import PySem.Challenge.RW_personbooks_s01_answers
import HandS.ForSpec
import HandS.Comp
import HandS.Dict
import HandS.Iter
import HandS.WordsDict
import HandS.Conv
import HandS.TupMul
import HandS.More
import HandS.Zip
import HandS.Flow
import HandS.Walk
import KE.GoesMore
import HandS.Exc
import HandS.ExcOwn
import HandS.WordsExc
set_option Elab.async false
set_option linter.all false
set_option maxRecDepth 100000
set_option maxHeartbeats 4000000
namespace PB
open PySem PySem.Spec PyProof.Rows L2

/-! ### what is said of a value and a heap, and stays true where the heap grows -/
structure VP where
  p : V → Hp → Prop
  mono : ∀ {v : V} {H H' : Hp}, Same H H' → p v H → p v H'
/-- it is this very value -/
def is (v : V) : VP := ⟨fun x _ => x = v, fun _ h => h⟩
abbrev I (n : Int) : VP := is (.int n)
abbrev N_ : VP := is .non
abbrev B (b : Bool) : VP := is (.bl b)
theorem paired_mono {α : Type} {F G : V → α → Prop} {xs : List V} {ys : List α} (h : Paired F xs ys) (k : ∀ v y, F v y → G v y) : Paired G xs ys := Paired.mapP h k
/-- a list; a tuple: of such things -/
def isL {α : Type} (R : α → VP) (l : List α) : VP := ⟨fun x H => ∃ a xs, x = .ref a ∧ H a = some (.lst xs) ∧ Paired (fun v y => (R y).p v H) xs l,
  fun s ⟨a, xs, e, h, q⟩ => ⟨a, xs, e, s _ _ h, paired_mono q fun v y z => (R y).mono s z⟩⟩
def isT (l : List VP) : VP := ⟨fun x H => ∃ a xs, x = .ref a ∧ H a = some (.tup xs) ∧ Paired (fun v (y : VP) => y.p v H) xs l,
  fun s ⟨a, xs, e, h, q⟩ => ⟨a, xs, e, s _ _ h, paired_mono q fun v y z => y.mono s z⟩⟩
/-- an instance: its class, its fields -/
def isIns (C : Addr) (fs : List (Str × VP)) : VP := ⟨fun x H => ∃ a dx vs, x = .ref a ∧ H a = some (.ins C dx vs) ∧ Paired (fun (v : Str × V) (y : Str × VP) => v.1 = y.1 ∧ y.2.p v.2 H) vs fs,
  fun s ⟨a, dx, vs, e, h, q⟩ => ⟨a, dx, vs, e, s _ _ h, Paired.mapP q fun v y z => ⟨z.1, y.2.mono s z.2⟩⟩⟩
def isO {α : Type} (R : α → VP) : Option α → VP
  | none => N_
  | some a => R a

/-! ### how a heap grows: H is what stands, N the part that is known and stays -/
structure Grow (N H N' H' : Hp) : Prop where
  hh : Same H H'
  nn : Same N N'
  nh : Same N' H'
  nw : ∀ b, N b = none → H b ≠ none → N' b = none
theorem Grow.refl {N H : Hp} (s : Same N H) : Grow N H N H := ⟨Same.refl _, Same.refl _, s, fun _ h _ => h⟩
theorem Grow.keep {N H H' : Hp} (s : Same N H) (t : Same H H') : Grow N H N H' := ⟨t, Same.refl _, s.trans t, fun _ h _ => h⟩
theorem Grow.trans {N H N1 H1 N2 H2 : Hp} (a : Grow N H N1 H1) (b : Grow N1 H1 N2 H2) : Grow N H N2 H2 :=
  ⟨a.hh.trans b.hh, a.nn.trans b.nn, b.nh, fun c h k => b.nw c (a.nw c h k) fun z => by
    cases e : H c with
    | none => exact k e
    | some o => rw [a.hh c o e] at z; cases z⟩
theorem same_new {H : Hp} {p : Addr} {o : HO} (h : H p = none) : Same H (upd H p o) := fun b u e => by
  rw [upd_ne (ne_of_none e h)]; exact e
theorem same_upd {N H : Hp} {p : Addr} {o : HO} (s : Same N H) : Same (upd N p o) (upd H p o) := fun b u e => by
  by_cases hb : b = p
  · subst hb; rw [upd_same] at e ⊢; exact e
  · rw [upd_ne hb] at e ⊢; exact s _ _ e
theorem Grow.new {N H : Hp} {p : Addr} {o : HO} (s : Same N H) (h : H p = none) : Grow N H (upd N p o) (upd H p o) :=
  ⟨same_new h, same_new (s.free h), same_upd s, fun b hb hk => by
    have : b ≠ p := fun z => hk (by rw [z]; exact h)
    rw [upd_ne this]; exact hb⟩
/-- N and M beside each other -/
def joinH (N M : Hp) : Hp := fun b => match N b with
  | some o => some o
  | none => M b
theorem joinH_l {N M : Hp} : Same N (joinH N M) := fun b o e => by unfold joinH; rw [e]
theorem joinH_r {N M H : Hp} (a : Same N H) (b : Same M H) : Same M (joinH N M) := fun c o e => by
  unfold joinH
  cases q : N c with
  | none => exact e
  | some w1 =>
    have h1 := a c w1 q
    have h2 := b c o e
    rw [h1] at h2
    exact h2
theorem joinH_h {N M H : Hp} (a : Same N H) (b : Same M H) : Same (joinH N M) H := fun c o e => by
  unfold joinH at e
  cases q : N c with
  | none => rw [q] at e; exact b c o e
  | some u => rw [q] at e; cases e; exact a c _ q
/-- the frame: what grows from N grows from a larger N' -/
theorem Grow.frame {N H N1 H1 N' : Hp} (g : Grow N H N1 H1) (s : Same N N') (t : Same N' H) : Grow N' H (joinH N' N1) H1 ∧ Same N1 (joinH N' N1) :=
  ⟨⟨g.hh, joinH_l, joinH_h (t.trans g.hh) g.nh, fun b hb hk => by
    unfold joinH
    rw [hb]
    exact g.nw b (s.free hb) hk⟩, joinH_r (t.trans g.hh) g.nh⟩

/-! ### the best readings -/
section
variable {X : Cx} {e a b : Expr} {es : List Expr} {pos : Pos} {σ : L2.St} {N : Hp}
@[irreducible] def bE (X : Cx) (e : Expr) : TE := fun σ H Q => ∀ (pins : List (Addr × Obj)) (s : Shared), Inv X pins σ H s → wpAny (model X.prog X.w) X.A (eval e X.env) (EP X pins σ Q) X.xe s
@[irreducible] def bT (X : Cx) (e : Expr) : TT := fun σ H Q => ∀ (pins : List (Addr × Obj)) (s : Shared), Inv X pins σ H s → wpAny (model X.prog X.w) X.A (isTrue e X.env (eval e X.env)) (TP X pins σ Q) X.xe s
@[irreducible] def bW (X : Cx) (e : Expr) : TT := fun σ H Q => ∀ (whole : Sem Value) (pins : List (Addr × Obj)) (s : Shared), Inv X pins σ H s → wpAny (model X.prog X.w) X.A (isTrue e X.env whole) (TP X pins σ Q) X.xe s
@[irreducible] def bA (X : Cx) (es : List Expr) : TA := fun σ H Q => ∀ (pos : Pos) (pins : List (Addr × Obj)) (s : Shared), Inv X pins σ H s → wpAny (model X.prog X.w) X.A (spliced (backTo pos (starEach es X.env))) (AP X pins σ Q) X.xe s
@[irreducible] def bB (X : Cx) (sts : List Stmt) : TS := fun D σ H => ∀ (pins : List (Addr × Obj)) (s : Shared), Inv X pins σ H s → wpAny (model X.prog X.w) X.A (execs sts X.env) (SP X pins D) X.xe s
theorem bE_in {H : Hp} {Q : VK} : bE X e σ H Q ↔ ∀ (pins : List (Addr × Obj)) (s : Shared), Inv X pins σ H s → wpAny (model X.prog X.w) X.A (eval e X.env) (EP X pins σ Q) X.xe s := by unfold bE; exact Iff.rfl
theorem bT_in {H : Hp} {Q : Bool → Hp → Prop} : bT X e σ H Q ↔ ∀ (pins : List (Addr × Obj)) (s : Shared), Inv X pins σ H s → wpAny (model X.prog X.w) X.A (isTrue e X.env (eval e X.env)) (TP X pins σ Q) X.xe s := by unfold bT; exact Iff.rfl
theorem bW_in {H : Hp} {Q : Bool → Hp → Prop} : bW X e σ H Q ↔ ∀ (whole : Sem Value) (pins : List (Addr × Obj)) (s : Shared), Inv X pins σ H s → wpAny (model X.prog X.w) X.A (isTrue e X.env whole) (TP X pins σ Q) X.xe s := by unfold bW; exact Iff.rfl
theorem bA_in {H : Hp} {Q : List V → Hp → Prop} : bA X es σ H Q ↔ ∀ (pos : Pos) (pins : List (Addr × Obj)) (s : Shared), Inv X pins σ H s → wpAny (model X.prog X.w) X.A (spliced (backTo pos (starEach es X.env))) (AP X pins σ Q) X.xe s := by unfold bA; exact Iff.rfl
theorem bB_in {sts : List Stmt} {D : Ends} {H : Hp} : bB X sts D σ H ↔ ∀ (pins : List (Addr × Obj)) (s : Shared), Inv X pins σ H s → wpAny (model X.prog X.w) X.A (execs sts X.env) (SP X pins D) X.xe s := by unfold bB; exact Iff.rfl
theorem pe_b : PE X e (bE X e) := ⟨fun pins s _ _ _ I h => bE_in.mp h pins s I⟩
theorem pt_b : PT X e (bT X e) := ⟨fun pins s _ _ _ I h => bT_in.mp h pins s I⟩
theorem pw_b : PW X e (bW X e) := ⟨fun wh pins s _ _ _ I h => bW_in.mp h wh pins s I⟩
theorem pa_b : PA X es (bA X es) := ⟨fun pos pins s _ _ _ I h => bA_in.mp h pos pins s I⟩
theorem pss_b {sts : List Stmt} : PSs X sts (bB X sts) := ⟨fun pins s _ _ _ I h => bB_in.mp h pins s I⟩
theorem bE_of {t : TE} {H : Hp} {Q : VK} (h : PE X e t) (q : t σ H Q) : bE X e σ H Q := bE_in.mpr fun pins s I => h.run pins s σ H Q I q
theorem bT_of {t : TT} {H : Hp} {Q : Bool → Hp → Prop} (h : PT X e t) (q : t σ H Q) : bT X e σ H Q := bT_in.mpr fun pins s I => h.run pins s σ H Q I q
theorem bW_of {t : TT} {H : Hp} {Q : Bool → Hp → Prop} (h : PW X e t) (q : t σ H Q) : bW X e σ H Q := bW_in.mpr fun wh pins s I => h.run wh pins s σ H Q I q
theorem bA_of {t : TA} {H : Hp} {Q : List V → Hp → Prop} (h : PA X es t) (q : t σ H Q) : bA X es σ H Q := bA_in.mpr fun pos pins s I => h.run pos pins s σ H Q I q
theorem bB_of {sts : List Stmt} {t : TS} {D : Ends} {H : Hp} (h : PSs X sts t) (q : t D σ H) : bB X sts D σ H := bB_in.mpr fun pins s I => h.run pins s σ H D I q

/-! ### an expression that only makes new things: from the known N a value of which P holds -/
def Ev (X : Cx) (e : Expr) (σ : L2.St) (N : Hp) (P : VP) : Prop := ∀ H, Same N H → ∀ Q : VK, (∀ v N' H', Grow N H N' H' → P.p v N' → Q v H') → bE X e σ H Q
def EvT (X : Cx) (e : Expr) (σ : L2.St) (N : Hp) (c : Bool) : Prop := ∀ H, Same N H → ∀ Q : Bool → Hp → Prop, (∀ H', Same H H' → Q c H') → bT X e σ H Q
def EvW (X : Cx) (e : Expr) (σ : L2.St) (N : Hp) (c : Bool) : Prop := ∀ H, Same N H → ∀ Q : Bool → Hp → Prop, (∀ H', Same H H' → Q c H') → bW X e σ H Q
def EvA (X : Cx) (es : List Expr) (σ : L2.St) (N : Hp) (Ps : List VP) : Prop := ∀ H, Same N H → ∀ Q : List V → Hp → Prop, (∀ vs N' H', Grow N H N' H' → Paired (fun v (P : VP) => P.p v N') vs Ps → Q vs H') → bA X es σ H Q
theorem Ev.mono {N' : Hp} {P : VP} (h : Ev X e σ N P) (s : Same N N') : Ev X e σ N' P := fun H t Q q => h H (s.trans t) Q fun v N1 H1 g p => by
  obtain ⟨g', s'⟩ := g.frame s t
  exact q v _ H1 g' (P.mono s' p)
theorem EvA.mono {N' : Hp} {Ps : List VP} (h : EvA X es σ N Ps) (s : Same N N') : EvA X es σ N' Ps := fun H t Q q => h H (s.trans t) Q fun v N1 H1 g p => by
  obtain ⟨g', s'⟩ := g.frame s t
  exact q v _ H1 g' (paired_mono p fun v P z => P.mono s' z)
theorem EvT.mono {N' : Hp} {c : Bool} (h : EvT X e σ N c) (s : Same N N') : EvT X e σ N' c := fun H t Q q => h H (s.trans t) Q q
theorem Ev.to {P P' : VP} (h : Ev X e σ N P) (k : ∀ v N', Same N N' → P.p v N' → P'.p v N') : Ev X e σ N P' := fun H s Q q => h H s Q fun v N' H' g p => q v N' H' g (k v N' g.nn p)
theorem ev_eq {P P' : VP} (h : Ev X e σ N P) (k : P = P') : Ev X e σ N P' := k ▸ h
theorem ev_pe {P : VP} {t : TE} (h : PE X e t) (k : ∀ H, Same N H → ∀ Q : VK, (∀ v N' H', Grow N H N' H' → P.p v N' → Q v H') → t σ H Q) : Ev X e σ N P := fun H s Q q => bE_of h (k H s Q q)
theorem evt_pt {c : Bool} {t : TT} (h : PT X e t) (k : ∀ H, Same N H → ∀ Q : Bool → Hp → Prop, (∀ H', Same H H' → Q c H') → t σ H Q) : EvT X e σ N c := fun H s Q q => bT_of h (k H s Q q)
/-- two in a row -/
theorem Ev.two {P1 P2 : VP} {H : Hp} {R : V → V → Hp → Prop} (ha : Ev X a σ N P1) (hb : Ev X b σ N P2) (s : Same N H) (k : ∀ x y N' H', Grow N H N' H' → P1.p x N' → P2.p y N' → R x y H') : bE X a σ H fun x H1 => bE X b σ H1 fun y H2 => R x y H2 :=
  ha H s _ fun x N1 H1 g1 p1 => (hb.mono g1.nn) H1 g1.nh _ fun y N2 H2 g2 p2 => k x y N2 H2 (g1.trans g2) (P1.mono g2.nn p1) p2
/-! names, constants -/
theorem ev_name {P : VP} {i : Nat} {x : Str} {v : V} (h : σ[i]? = some (some v)) (p : P.p v N) (hN : X.N[i]? = some x := by rfl) (hv : Vis X.env.scope x := by first | exact Or.inl rfl | exact Or.inr (Or.inl rfl) | exact Or.inr (Or.inr rfl))
    (hd : (x == ("__debug__" : Str)) = false := by decide) (hcd : (x == ("__classdict__" : Str)) = false := by decide) : Ev X (.Name x pos) σ N P :=
  ev_pe (pe_var hN hv hd hcd) fun H s Q q => ⟨v, h, q v N H (.refl s) p⟩
/-- the name's place is found by itself -/
theorem ev_nameI {P : VP} {i : Nat} {x : Str} {v : V} (hN : List.findIdx? (fun y => y == x) X.N = some i) (h : σ[i]? = some (some v)) (p : P.p v N) (hv : Vis X.env.scope x := by first | exact Or.inl rfl | exact Or.inr (Or.inl rfl) | exact Or.inr (Or.inr rfl))
    (hd : (x == ("__debug__" : Str)) = false := by decide) (hcd : (x == ("__classdict__" : Str)) = false := by decide) : Ev X (.Name x pos) σ N P := ev_name h p (by
      obtain ⟨y, h1, h2⟩ := List.findIdx?_eq_some_iff_getElem.mp hN
      have e : X.N[i] = x := eq_of_beq h1
      rw [List.getElem?_eq_getElem y, e]) hv hd hcd
theorem ev_int {i : Int} {j} : Ev X (.Constant (.int i) j pos) σ N (I i) := ev_pe pe_int fun H s Q q => q _ N H (.refl s) rfl
theorem ev_non {j} : Ev X (.Constant .none j pos) σ N N_ := ev_pe pe_non fun H s Q q => q _ N H (.refl s) rfl
theorem ev_bool {c : Bool} {j} : Ev X (.Constant (.bool c) j pos) σ N (B c) := ev_pe pe_bl fun H s Q q => q _ N H (.refl s) rfl
theorem ev_str {z : Str} {j} : Ev X (.Constant (.str z) j pos) σ N (is (.str z)) := ev_pe pe_str fun H s Q q => q _ N H (.refl s) rfl
theorem ev_glob {x : Str} {v : V} {u : Value} (hm : X.mg x = some u) (r : RelV v u) (hg : Gl X x := by rfl) (hd : (x == ("__debug__" : Str)) = false := by decide) : Ev X (.Name x pos) σ N (is v) :=
  ev_pe (pe_glob hg hm r hd) fun H s Q q => q _ N H (.refl s) rfl
/-! arguments, displays -/
theorem ea_nil : EvA X [] σ N [] := fun H s Q q => bA_of pa_nil (q [] N H (.refl s) .nil)
theorem ea_cons {P : VP} {Ps : List VP} (h : Ev X e σ N P) (t : EvA X es σ N Ps) (hs : starEach (e :: es) X.env = (false, eval e X.env) :: starEach es X.env := by rfl) : EvA X (e :: es) σ N (P :: Ps) := fun H s Q q =>
  bA_of (pa_cons pe_b pa_b hs) (h H s _ fun x N1 H1 g1 p1 => (t.mono g1.nn) H1 g1.nh _ fun xs N2 H2 g2 p2 => q _ N2 H2 (g1.trans g2) (.cons (P.mono g2.nn p1) p2))
theorem paired_len {α β : Type} {F : α → β → Prop} : ∀ {xs : List α} {ys : List β}, Paired F xs ys → xs.length = ys.length
  | _, _, .nil => rfl
  | _, _, .cons _ t => by rw [List.length_cons, List.length_cons, paired_len t]
theorem sz_le {n : Nat} (h : n ≤ 1000000) : n ≤ sizeLine := Nat.le_trans h (by decide)
theorem sz_lt {n : Nat} (h : n < 1000000) : n < sizeLine := Nat.lt_of_lt_of_le h (by decide)
theorem ev_tup {Ps : List VP} {k} (h : EvA X es σ N Ps) (hl : Ps.length ≤ 1000000 := by exact Nat.le_of_ble_eq_true rfl) : Ev X (.Tuple es k pos) σ N (isT Ps) :=
  ev_pe (pe_tup pa_b) fun H s Q q => h H s _ fun xs N1 H1 g1 p1 => ⟨sz_le (by rw [paired_len p1]; exact hl), fun p hp =>
    q _ _ _ (g1.trans (.new g1.nh hp)) ⟨p, xs, rfl, upd_same, paired_mono p1 fun v y z => y.mono (same_new (g1.nh.free hp)) z⟩⟩
/-- what the items of a written list are, one by one -/
def Each {α : Type} (R : α → VP) : List VP → List α → Prop := Paired fun P a => ∀ v H, P.p v H → (R a).p v H
theorem paired_each {α : Type} {R : α → VP} {H : Hp} : ∀ {xs : List V} {Ps : List VP} {l : List α}, Paired (fun v (P : VP) => P.p v H) xs Ps → Each R Ps l → Paired (fun v y => (R y).p v H) xs l
  | _, _, _, .nil, .nil => .nil
  | _, _, _, .cons r t, .cons k q => .cons (k _ _ r) (paired_each t q)
theorem ev_lst {α : Type} {R : α → VP} {l : List α} {Ps : List VP} (h : EvA X es σ N Ps) (k : Each R Ps l) (hl : Ps.length ≤ 1000000 := by exact Nat.le_of_ble_eq_true rfl) : Ev X (.List es pos) σ N (isL R l) :=
  ev_pe (pe_lst pa_b) fun H s Q q => h H s _ fun xs N1 H1 g1 p1 => ⟨sz_le (by rw [paired_len p1]; exact hl), fun p hp =>
    q _ _ _ (g1.trans (.new g1.nh hp)) ⟨p, xs, rfl, upd_same, paired_mono (paired_each p1 k) fun v y z => (R y).mono (same_new (g1.nh.free hp)) z⟩⟩
/-! operators -/
theorem ev_op {op : Operator} {r : R2} {P1 P2 P : VP} (ho : OpR X (binaryOp op) r) (ha : Ev X a σ N P1) (hb : Ev X b σ N P2)
    (k : ∀ x y N' H', Same N' H' → P1.p x N' → P2.p y N' → ∀ Q : VK, (∀ v N2 H2, Grow N' H' N2 H2 → P.p v N2 → Q v H2) → r x y H' Q) : Ev X (.BinOp a op b pos) σ N P :=
  ev_pe (pe_op ho pe_b pe_b) fun H s Q q => ha.two hb s fun x y N' H' g p1 p2 => k x y N' H' g.nh p1 p2 Q fun v N2 H2 g2 p => q v N2 H2 (g.trans g2) p
theorem ev_cmp {op : CmpOp} {r : R2} {P1 P2 P : VP} (ho : OpR X (compareOp op) r) (hm : behindInMarks op b = false) (ha : Ev X a σ N P1) (hb : Ev X b σ N P2)
    (k : ∀ x y N' H', Same N' H' → P1.p x N' → P2.p y N' → ∀ Q : VK, (∀ v N2 H2, Grow N' H' N2 H2 → P.p v N2 → Q v H2) → r x y H' Q) : Ev X (.Compare a [op] [b] pos) σ N P :=
  ev_pe (pe_cmpR ho pe_b pe_b hm) fun H s Q q => ha.two hb s fun x y N' H' g p1 p2 => k x y N' H' g.nh p1 p2 Q fun v N2 H2 g2 p => q v N2 H2 (g.trans g2) p
theorem evt_cmp {op : CmpOp} {r : R2} {P1 P2 : VP} {c : Bool} (ho : OpR X (compareOp op) r) (hm : behindInMarks op b = false) (ha : Ev X a σ N P1) (hb : Ev X b σ N P2)
    (k : ∀ x y N' H', Same N' H' → P1.p x N' → P2.p y N' → ∀ Q : VK, (∀ v N2 H2, Grow N' H' N2 H2 → (B c).p v N2 → Q v H2) → r x y H' Q) : EvT X (.Compare a [op] [b] pos) σ N c :=
  evt_pt (pt_cmpR ho pe_b pe_b hm) fun H s Q q => ha.two hb s fun x y N' H' g p1 p2 => k x y N' H' g.nh p1 p2 _ fun v N2 H2 g2 p => ⟨c, p, q H2 (g.trans g2).hh⟩
/-- a value as a test -/
theorem evt_val {c : Bool} (h : Ev X e σ N (B c)) (he : ∀ whole, isTrue e X.env whole = (do let v ← whole; standAt e.pos; holding [v] (truthy v)) := by intro _; rfl) : EvT X e σ N c :=
  evt_pt (pt_val pe_b he) fun H s Q q => h H s _ fun v N' H' g p => ⟨c, p, q H' g.hh⟩
section sI
variable {i j : Int}
theorem ev_add (ha : Ev X a σ N (I i)) (hb : Ev X b σ N (I j)) : Ev X (.BinOp a .Add b pos) σ N (I (i + j)) := ev_op op_add ha hb fun x y N' H' s p1 p2 Q q => ⟨i, j, p1, p2, q _ N' H' (.refl s) rfl⟩
theorem ev_sub (ha : Ev X a σ N (I i)) (hb : Ev X b σ N (I j)) : Ev X (.BinOp a .Sub b pos) σ N (I (i - j)) := ev_op op_sub ha hb fun x y N' H' s p1 p2 Q q => ⟨i, j, p1, p2, q _ N' H' (.refl s) rfl⟩
theorem ev_mul (hi : -(2 ^ 64) < i ∧ i < 2 ^ 64) (ha : Ev X a σ N (I i)) (hb : Ev X b σ N (I j)) : Ev X (.BinOp a .Mult b pos) σ N (I (i * j)) := ev_op op_mul ha hb fun x y N' H' s p1 p2 Q q => ⟨i, j, p1, p2, .inl hi, q _ N' H' (.refl s) rfl⟩
theorem ev_fdiv (hj : 0 < j ∧ j < 1073741824) (ha : Ev X a σ N (I i)) (hb : Ev X b σ N (I j)) : Ev X (.BinOp a .FloorDiv b pos) σ N (I (i / j)) := ev_op op_fdiv ha hb fun x y N' H' s p1 p2 Q q => ⟨i, j, p1, p2, hj, q _ N' H' (.refl s) rfl⟩
theorem ev_mod (hj : 0 < j) (ha : Ev X a σ N (I i)) (hb : Ev X b σ N (I j)) : Ev X (.BinOp a .Mod b pos) σ N (I (i % j)) := ev_op op_mod ha hb fun x y N' H' s p1 p2 Q q => ⟨i, j, p1, p2, hj, q _ N' H' (.refl s) rfl⟩
theorem ev_eqV {x y : V} {c : Bool} (ha : Ev X a σ N (is x)) (hb : Ev X b σ N (is y)) (hs : scal x y = true) (hc : decide (x = y) = c) : Ev X (.Compare a [.Eq] [b] pos) σ N (B c) :=
  ev_cmp op_eq (nomark _) ha hb fun x' y' N' H' s p1 p2 Q q => by cases p1; cases p2; exact ⟨hs, q _ N' H' (.refl s) (by rw [hc]; rfl)⟩
theorem ev_neV {x y : V} {c : Bool} (ha : Ev X a σ N (is x)) (hb : Ev X b σ N (is y)) (hs : scal x y = true) (hc : (!decide (x = y)) = c) : Ev X (.Compare a [.NotEq] [b] pos) σ N (B c) :=
  ev_cmp op_ne (nomark _) ha hb fun x' y' N' H' s p1 p2 Q q => by cases p1; cases p2; exact ⟨hs, q _ N' H' (.refl s) (by rw [hc]; rfl)⟩
theorem dec_int : decide (V.int i = V.int j) = decide (i = j) := by
  by_cases h : i = j
  · subst h; simp
  · rw [decide_eq_false h, decide_eq_false fun z => h (V.int.inj z)]
theorem ev_eqI (ha : Ev X a σ N (I i)) (hb : Ev X b σ N (I j)) : Ev X (.Compare a [.Eq] [b] pos) σ N (B (decide (i = j))) := ev_eqV ha hb rfl dec_int
theorem ev_neI (ha : Ev X a σ N (I i)) (hb : Ev X b σ N (I j)) : Ev X (.Compare a [.NotEq] [b] pos) σ N (B (!decide (i = j))) := ev_neV ha hb rfl (by rw [dec_int])
theorem ev_ltI (ha : Ev X a σ N (I i)) (hb : Ev X b σ N (I j)) : Ev X (.Compare a [.Lt] [b] pos) σ N (B (decide (i < j))) := ev_cmp op_lt (nomark _) ha hb fun x y N' H' s p1 p2 Q q => ⟨i, j, p1, p2, q _ N' H' (.refl s) rfl⟩
theorem ev_leI (ha : Ev X a σ N (I i)) (hb : Ev X b σ N (I j)) : Ev X (.Compare a [.LtE] [b] pos) σ N (B (decide (i ≤ j))) := ev_cmp op_le (nomark _) ha hb fun x y N' H' s p1 p2 Q q => ⟨i, j, p1, p2, q _ N' H' (.refl s) rfl⟩
theorem ev_gtI (ha : Ev X a σ N (I i)) (hb : Ev X b σ N (I j)) : Ev X (.Compare a [.Gt] [b] pos) σ N (B (decide (j < i))) := ev_cmp op_gt (nomark _) ha hb fun x y N' H' s p1 p2 Q q => ⟨i, j, p1, p2, q _ N' H' (.refl s) rfl⟩
theorem ev_geI (ha : Ev X a σ N (I i)) (hb : Ev X b σ N (I j)) : Ev X (.Compare a [.GtE] [b] pos) σ N (B (decide (j ≤ i))) := ev_cmp op_ge (nomark _) ha hb fun x y N' H' s p1 p2 Q q => ⟨i, j, p1, p2, q _ N' H' (.refl s) rfl⟩
theorem evt_eqI (ha : Ev X a σ N (I i)) (hb : Ev X b σ N (I j)) : EvT X (.Compare a [.Eq] [b] pos) σ N (decide (i = j)) := evt_cmp op_eq (nomark _) ha hb fun x' y' N' H' s p1 p2 Q q => by cases p1; cases p2; exact ⟨rfl, q _ N' H' (.refl s) (by rw [dec_int]; rfl)⟩
theorem evt_neI (ha : Ev X a σ N (I i)) (hb : Ev X b σ N (I j)) : EvT X (.Compare a [.NotEq] [b] pos) σ N (!decide (i = j)) := evt_cmp op_ne (nomark _) ha hb fun x' y' N' H' s p1 p2 Q q => by cases p1; cases p2; exact ⟨rfl, q _ N' H' (.refl s) (by rw [dec_int]; rfl)⟩
theorem evt_ltI (ha : Ev X a σ N (I i)) (hb : Ev X b σ N (I j)) : EvT X (.Compare a [.Lt] [b] pos) σ N (decide (i < j)) := evt_cmp op_lt (nomark _) ha hb fun x y N' H' s p1 p2 Q q => ⟨i, j, p1, p2, q _ N' H' (.refl s) rfl⟩
theorem evt_leI (ha : Ev X a σ N (I i)) (hb : Ev X b σ N (I j)) : EvT X (.Compare a [.LtE] [b] pos) σ N (decide (i ≤ j)) := evt_cmp op_le (nomark _) ha hb fun x y N' H' s p1 p2 Q q => ⟨i, j, p1, p2, q _ N' H' (.refl s) rfl⟩
theorem evt_gtI (ha : Ev X a σ N (I i)) (hb : Ev X b σ N (I j)) : EvT X (.Compare a [.Gt] [b] pos) σ N (decide (j < i)) := evt_cmp op_gt (nomark _) ha hb fun x y N' H' s p1 p2 Q q => ⟨i, j, p1, p2, q _ N' H' (.refl s) rfl⟩
theorem evt_geI (ha : Ev X a σ N (I i)) (hb : Ev X b σ N (I j)) : EvT X (.Compare a [.GtE] [b] pos) σ N (decide (j ≤ i)) := evt_cmp op_ge (nomark _) ha hb fun x y N' H' s p1 p2 Q q => ⟨i, j, p1, p2, q _ N' H' (.refl s) rfl⟩
theorem ev_neg (ha : Ev X a σ N (I i)) : Ev X (.UnaryOp .USub a pos) σ N (I (-i)) := ev_pe (pe_un un_neg pe_b) fun H s Q q => ha H s _ fun x N' H' g p => ⟨i, p, q _ N' H' g rfl⟩
end sI
end
end PB
namespace PB
open PySem PySem.Spec PyProof.Rows L2
section
variable {X : Cx} {e a b o : Expr} {es : List Expr} {pos apos : Pos} {σ : L2.St} {N : Hp}
/-! subscripts -/
theorem paired_get {α β : Type} {F : α → β → Prop} : ∀ {xs : List α} {ys : List β} {i : Nat} {y : β}, Paired F xs ys → ys[i]? = some y → ∃ x, xs[i]? = some x ∧ F x y
  | _, _, _, _, .nil, h => by simp at h
  | _, _, 0, _, .cons r _, h => by simp at h; subst h; exact ⟨_, rfl, r⟩
  | _, _, i + 1, y, .cons _ t, h => by
    obtain ⟨x, h1, h2⟩ := paired_get (i := i) (y := y) t (by simpa using h)
    exact ⟨x, by simpa using h1, h2⟩
theorem paired_at {α β : Type} {F : α → β → Prop} {xs : List α} {ys : List β} {i : Int} {y : β} (h : Paired F xs ys) (e : atI ys i = some y) : ∃ x, atI xs i = some x ∧ F x y := by
  unfold atI at e ⊢
  rw [paired_len h]
  cases q : ixN ys.length i with
  | none => rw [q] at e; cases e
  | some j =>
    rw [q] at e
    exact paired_get h e
theorem ev_ixT {Ps : List VP} {P : VP} {i : Int} (ha : Ev X a σ N (isT Ps)) (hb : Ev X b σ N (I i)) (h : atI Ps i = some P) (hs : PlainIx b := by intro _ _; rfl) : Ev X (.Subscript a b pos) σ N P :=
  ev_pe (pe_ix ix_tup pe_b pe_b hs) fun H s Q q => ha.two hb s fun x y N' H' g p1 p2 => by
    obtain ⟨p, xs, rfl, hp, pr⟩ := p1
    obtain ⟨v, hv, pv⟩ := paired_at pr h
    exact ⟨p, xs, i, v, rfl, p2, SqT.of (g.nh _ _ hp), hv, q v N' H' g pv⟩
theorem ev_ixL {α : Type} {R : α → VP} {l : List α} {x : α} {i : Int} (ha : Ev X a σ N (isL R l)) (hb : Ev X b σ N (I i)) (h : atI l i = some x) (hs : PlainIx b := by intro _ _; rfl) : Ev X (.Subscript a b pos) σ N (R x) :=
  ev_pe (pe_ix ix_list pe_b pe_b hs) fun H s Q q => ha.two hb s fun x y N' H' g p1 p2 => by
    obtain ⟨p, xs, rfl, hp, pr⟩ := p1
    obtain ⟨v, hv, pv⟩ := paired_at pr h
    exact ⟨p, xs, i, v, rfl, p2, SqL.of (g.nh _ _ hp), hv, q v N' H' g pv⟩
/-! fields -/
theorem lookup_pair {F : V → VP → Prop} : ∀ {vs : List (Str × V)} {fs : List (Str × VP)} {f : Str} {P : VP}, Paired (fun (v : Str × V) (y : Str × VP) => v.1 = y.1 ∧ F v.2 y.2) vs fs → fs.lookup f = some P → ∃ v, vs.lookup f = some v ∧ F v P
  | _, _, _, _, .nil, h => by simp at h
  | (g, v) :: _, (g', y) :: _, f, P, .cons r t, h => by
    obtain ⟨e, r⟩ := r
    have e : g = g' := e
    subst e
    rw [List.lookup_cons] at h ⊢
    cases q : f == g with
    | true => rw [q] at h; cases h; exact ⟨v, rfl, r⟩
    | false => rw [q] at h; exact lookup_pair t h
theorem lookup_none {F : V → VP → Prop} : ∀ {vs : List (Str × V)} {fs : List (Str × VP)} {f : Str}, Paired (fun (v : Str × V) (y : Str × VP) => v.1 = y.1 ∧ F v.2 y.2) vs fs → fs.lookup f = none → vs.lookup f = none
  | _, _, _, .nil, h => rfl
  | (g, v) :: _, (g', y) :: _, f, .cons r t, h => by
    obtain ⟨e, r⟩ := r
    have e : g = g' := e
    subst e
    rw [List.lookup_cons] at h ⊢
    cases q : f == g with
    | true => rw [q] at h; cases h
    | false => rw [q] at h; exact lookup_none t h
theorem ev_fld {C : Addr} {fs : List (Str × VP)} {f : Str} {P : VP} (c : Cls X.K C) (n : NoAttr X.K C f) (h : Ev X o σ N (isIns C fs)) (hl : fs.lookup f = some P) (hb : attributeBase o f X.env (eval o X.env) = eval o X.env := by rfl) : Ev X (.Attribute o f pos) σ N P :=
  ev_pe (pe_fld pe_b hb) fun H s Q q => h H s _ fun x N' H' g p1 => by
    obtain ⟨p, dx, vs, rfl, hp, pr⟩ := p1
    obtain ⟨v, hv, pv⟩ := lookup_pair (F := fun v P => P.p v N') pr hl
    exact ⟨p, C, dx, vs, v, rfl, g.nh _ _ hp, c, n, hv, q v N' H' g pv⟩
/-! is None -/
theorem evt_isN {P : VP} {c : Bool} {j pos'} (h : Ev X a σ N P) (k : ∀ v N, P.p v N → decide (v = .non) = c) : EvT X (.Compare a [.Is] [.Constant .none j pos'] pos) σ N c :=
  evt_pt (pt_cmp (pc_isN pe_b)) fun H s Q q => h H s _ fun x N' H' g p => ⟨_, rfl, by rw [k x N' p]; exact q H' g.hh⟩
theorem evt_notN {P : VP} {c : Bool} {j pos'} (h : Ev X a σ N P) (k : ∀ v N, P.p v N → decide (v = .non) = c) : EvT X (.Compare a [.IsNot] [.Constant .none j pos'] pos) σ N (!c) :=
  evt_pt (pt_cmp (pc_notN pe_b)) fun H s Q q => h H s _ fun x N' H' g p => ⟨_, rfl, by rw [k x N' p]; exact q H' g.hh⟩
theorem ev_isN {P : VP} {c : Bool} {j pos'} (h : Ev X a σ N P) (k : ∀ v N, P.p v N → decide (v = .non) = c) : Ev X (.Compare a [.Is] [.Constant .none j pos'] pos) σ N (B c) :=
  ev_pe (pe_cmp (pc_isN pe_b)) fun H s Q q => h H s _ fun x N' H' g p => by
    have := k x N' p
    exact q _ N' H' g (by rw [this]; rfl)
theorem ev_notN {P : VP} {c : Bool} {j pos'} (h : Ev X a σ N P) (k : ∀ v N, P.p v N → decide (v = .non) = c) : Ev X (.Compare a [.IsNot] [.Constant .none j pos'] pos) σ N (B (!c)) :=
  ev_pe (pe_cmp (pc_notN pe_b)) fun H s Q q => h H s _ fun x N' H' g p => by
    have := k x N' p
    exact q _ N' H' g (by rw [this]; rfl)
theorem isL_non {α : Type} {R : α → VP} {l : List α} : ∀ v N, (isL R l).p v N → decide (v = .non) = false := fun v N ⟨p, xs, e, _⟩ => by subst e; rfl
theorem isT_non {l : List VP} : ∀ v N, (isT l).p v N → decide (v = .non) = false := fun v N ⟨p, xs, e, _⟩ => by subst e; rfl
theorem isIns_non {C : Addr} {fs : List (Str × VP)} : ∀ v N, (isIns C fs).p v N → decide (v = .non) = false := fun v N ⟨p, _, xs, e, _⟩ => by subst e; rfl
theorem is_non {v : V} : ∀ u N, (is v).p u N → decide (u = .non) = decide (v = .non) := fun u N e => by cases e; rfl
theorem isO_non {α : Type} {R : α → VP} (k : ∀ x v N, (R x).p v N → decide (v = .non) = false) : ∀ {x : Option α} v N, (isO R x).p v N → decide (v = .non) = x.isNone
  | none, v, N, h => by have h : v = .non := h; subst h; rfl
  | some x, v, N, h => k x v N h
/-! and, or, not -/
section
variable {rest : List Expr} {c d : Bool}
theorem ev_one {op} {P : VP} (h : Ev X a σ N P) : Ev X (.BoolOp op [a] pos) σ N P := ev_pe (pe_one pe_b) fun H s Q q => h H s Q q
theorem ev_and (ha : Ev X a σ N (B c)) (hb : c = true → Ev X (.BoolOp .And (b :: rest) pos) σ N (B d)) : Ev X (.BoolOp .And (a :: b :: rest) pos) σ N (B (c && d)) :=
  ev_pe (pe_and pe_b pe_b) fun H s Q q => ha H s _ fun x N1 H1 g1 p1 => ⟨c, p1, by
    cases c with
    | true => exact ((hb rfl).mono g1.nn) H1 g1.nh _ fun y N2 H2 g2 p2 => q y N2 H2 (g1.trans g2) p2
    | false => exact q _ N1 H1 g1 rfl⟩
theorem ev_or (ha : Ev X a σ N (B c)) (hb : c = false → Ev X (.BoolOp .Or (b :: rest) pos) σ N (B d)) : Ev X (.BoolOp .Or (a :: b :: rest) pos) σ N (B (c || d)) :=
  ev_pe (pe_or pe_b pe_b) fun H s Q q => ha H s _ fun x N1 H1 g1 p1 => ⟨c, p1, by
    cases c with
    | false => exact ((hb rfl).mono g1.nn) H1 g1.nh _ fun y N2 H2 g2 p2 => q y N2 H2 (g1.trans g2) p2
    | true => exact q _ N1 H1 g1 rfl⟩
theorem ev_not (ha : Ev X a σ N (B c)) : Ev X (.UnaryOp .Not a pos) σ N (B (!c)) := ev_pe (pe_not pe_b) fun H s Q q => ha H s _ fun x N1 H1 g1 p1 => ⟨c, p1, q _ N1 H1 g1 rfl⟩
theorem evw_and1 (ha : EvT X a σ N c) : EvW X (.BoolOp .And [a] pos) σ N c := fun H s Q q => bW_of (pw_and1 pt_b) (ha H s Q q)
theorem evw_or1 (ha : EvT X a σ N c) : EvW X (.BoolOp .Or [a] pos) σ N c := fun H s Q q => bW_of (pw_or1 pt_b) (ha H s Q q)
theorem evw_and (ha : EvT X a σ N c) (hb : c = true → EvW X (.BoolOp .And (b :: rest) pos) σ N d) : EvW X (.BoolOp .And (a :: b :: rest) pos) σ N (c && d) := fun H s Q q => bW_of (pw_and pt_b pw_b) (ha H s _ fun H1 s1 => by
    cases c with
    | true => exact hb rfl H1 (s.trans s1) _ fun H2 s2 => q H2 (s1.trans s2)
    | false => exact q H1 s1)
theorem evw_or (ha : EvT X a σ N c) (hb : c = false → EvW X (.BoolOp .Or (b :: rest) pos) σ N d) : EvW X (.BoolOp .Or (a :: b :: rest) pos) σ N (c || d) := fun H s Q q => bW_of (pw_or pt_b pw_b) (ha H s _ fun H1 s1 => by
    cases c with
    | false => exact hb rfl H1 (s.trans s1) _ fun H2 s2 => q H2 (s1.trans s2)
    | true => exact q H1 s1)
theorem evt_w (h : EvW X e σ N c) : EvT X e σ N c := fun H s Q q => bT_of pw_b.pt (h H s Q q)
theorem evt_not (h : EvT X a σ N c) : EvT X (.UnaryOp .Not a pos) σ N (!c) := evt_pt (pt_not pt_b) fun H s Q q => h H s _ fun H1 s1 => q H1 s1
theorem EvT.to (h : EvT X e σ N c) (k : c = d) : EvT X e σ N d := k ▸ h
end
/-! builtins by values -/
theorem paired1 {F : V → VP → Prop} {vs : List V} {P : VP} (h : Paired F vs [P]) : ∃ v, vs = [v] ∧ F v P := by
  cases h with
  | cons r t => cases t; exact ⟨_, rfl, r⟩
theorem paired2 {F : V → VP → Prop} {vs : List V} {P P2 : VP} (h : Paired F vs [P, P2]) : ∃ v w, vs = [v, w] ∧ F v P ∧ F w P2 := by
  cases h with
  | cons r t =>
    obtain ⟨w, rfl, z⟩ := paired1 t
    exact ⟨_, _, rfl, r, z⟩
theorem paired3 {F : V → VP → Prop} {vs : List V} {P P2 P3 : VP} (h : Paired F vs [P, P2, P3]) : ∃ v w u, vs = [v, w, u] ∧ F v P ∧ F w P2 ∧ F u P3 := by
  cases h with
  | cons r t =>
    obtain ⟨w, u, rfl, z⟩ := paired2 t
    exact ⟨_, _, _, rfl, r, z⟩
theorem paired4 {F : V → VP → Prop} {vs : List V} {P P2 P3 P4 : VP} (h : Paired F vs [P, P2, P3, P4]) : ∃ v w u z, vs = [v, w, u, z] ∧ F v P ∧ F w P2 ∧ F u P3 ∧ F z P4 := by
  cases h with
  | cons r t =>
    obtain ⟨w, u, y, rfl, z⟩ := paired3 t
    exact ⟨_, _, _, _, rfl, r, z⟩
theorem paired5 {F : V → VP → Prop} {vs : List V} {P P2 P3 P4 P5 : VP} (h : Paired F vs [P, P2, P3, P4, P5]) : ∃ v w u z y, vs = [v, w, u, z, y] ∧ F v P ∧ F w P2 ∧ F u P3 ∧ F z P4 ∧ F y P5 := by
  cases h with
  | cons r t =>
    obtain ⟨w, u, y, z', rfl, z⟩ := paired4 t
    exact ⟨_, _, _, _, _, rfl, r, z⟩
theorem ev_callB {x : Str} {id : String} {r : List V → Hp → VK → Prop} {Ps : List VP} {P : VP} {p : Pos} (hc : CallR X (.builtin id) r) (hm : X.mg x = none) (hv : bootBuiltins x = some (.builtin id)) (ha : EvA X (e :: es) σ N Ps)
    (k : ∀ vs N' H', Same N' H' → Paired (fun v (P : VP) => P.p v N') vs Ps → ∀ Q : VK, (∀ v N2 H2, Grow N' H' N2 H2 → P.p v N2 → Q v H2) → r vs H' Q)
    (hg : Gl X x := by rfl) (hn : x ≠ "__name__" := by decide) (hdb : (x == ("__debug__" : Str)) = false := by decide)
    (he : starEach (e :: es) X.env = (false, eval e X.env) :: starEach es X.env := by rfl) (hpl : (backTo pos (starEach es X.env)).any (·.1) = false := by rfl) : Ev X (.Call (.Name x p) (e :: es) [] pos) σ N P :=
  ev_pe (pe_callB hc hg hm hv pa_b hn hdb he hpl) fun H s Q q => ha H s _ fun vs N' H' g p1 => k vs N' H' g.nh p1 Q fun v N2 H2 g2 p2 => q v N2 H2 (g.trans g2) p2
theorem ev_callTy {x : Str} {T : String} {r : List V → Hp → VK → Prop} {Ps : List VP} {P : VP} {p : Pos} (hc : CallR X (.type T) r) (hm : X.mg x = none) (hv : bootBuiltins x = some (.type T)) (ha : EvA X (e :: es) σ N Ps)
    (k : ∀ vs N' H', Same N' H' → Paired (fun v (P : VP) => P.p v N') vs Ps → ∀ Q : VK, (∀ v N2 H2, Grow N' H' N2 H2 → P.p v N2 → Q v H2) → r vs H' Q)
    (hg : Gl X x := by rfl) (hn : x ≠ "__name__" := by decide) (hdb : (x == ("__debug__" : Str)) = false := by decide)
    (he : starEach (e :: es) X.env = (false, eval e X.env) :: starEach es X.env := by rfl) (hpl : (backTo pos (starEach es X.env)).any (·.1) = false := by rfl) : Ev X (.Call (.Name x p) (e :: es) [] pos) σ N P :=
  ev_pe (pe_callTy hc hg hm hv pa_b hn hdb he hpl) fun H s Q q => ha H s _ fun vs N' H' g p1 => k vs N' H' g.nh p1 Q fun v N2 H2 g2 p2 => q v N2 H2 (g.trans g2) p2
theorem ev_lenL {α : Type} {R : α → VP} {l : List α} {p : Pos} (hm : X.mg "len" = none) (ha : Ev X a σ N (isL R l)) (hg : Gl X "len" := by rfl) (he : starEach [a] X.env = (false, eval a X.env) :: starEach [] X.env := by rfl) (hpl : (backTo pos (starEach [] X.env)).any (·.1) = false := by rfl) : Ev X (.Call (.Name "len" p) [a] [] pos) σ N (I (l.length : Int)) :=
  ev_callB call_len hm PySem.boot_len (ea_cons ha ea_nil he) (fun vs N' H' s p1 Q q => by
    obtain ⟨v, rfl, a, xs, rfl, ha, pr⟩ := paired1 p1
    exact ⟨_, xs.length, rfl, .inl ⟨xs, SqL.of (s _ _ ha), rfl⟩, q _ N' H' (.refl s) (by rw [paired_len pr]; rfl)⟩) hg (by decide) (by decide) he hpl
theorem ev_intB {c : Bool} {p : Pos} (hm : X.mg "int" = none) (ha : Ev X a σ N (B c)) (hg : Gl X "int" := by rfl) (he : starEach [a] X.env = (false, eval a X.env) :: starEach [] X.env := by rfl) (hpl : (backTo pos (starEach [] X.env)).any (·.1) = false := by rfl) : Ev X (.Call (.Name "int" p) [a] [] pos) σ N (I (if c then 1 else 0)) :=
  ev_callTy call_int1 hm boot_int (ea_cons ha ea_nil he) (fun vs N' H' s p1 Q q => by
    obtain ⟨v, rfl, rfl⟩ := paired1 p1
    exact .inr ⟨c, rfl, q _ N' H' (.refl s) rfl⟩) hg (by decide) (by decide) he hpl
theorem ev_min {i j : Int} {p : Pos} (hc : X.calm = true) (hm : X.mg "min" = none) (ha : Ev X a σ N (I i)) (hb : Ev X b σ N (I j)) (hg : Gl X "min" := by rfl) (he : starEach [a, b] X.env = (false, eval a X.env) :: starEach [b] X.env := by rfl)
    (he2 : starEach [b] X.env = (false, eval b X.env) :: starEach [] X.env := by rfl) (hpl : (backTo pos (starEach [b] X.env)).any (·.1) = false := by rfl) : Ev X (.Call (.Name "min" p) [a, b] [] pos) σ N (I (if j < i then j else i)) :=
  ev_callB (call_min2 hc) hm (by decide +kernel) (ea_cons ha (ea_cons hb ea_nil he2) he) (fun vs N' H' s p1 Q q => by
    obtain ⟨v, w, rfl, rfl, rfl⟩ := paired2 p1
    exact ⟨i, j, rfl, q _ N' H' (.refl s) rfl⟩) hg (by decide) (by decide) he hpl
theorem ev_listT {α : Type} {R : α → VP} {l : List α} {Ps : List VP} {p : Pos} (hm : X.mg "list" = none) (ha : Ev X a σ N (isT Ps)) (k : Each R Ps l) (hg : Gl X "list" := by rfl) (he : starEach [a] X.env = (false, eval a X.env) :: starEach [] X.env := by rfl) (hpl : (backTo pos (starEach [] X.env)).any (·.1) = false := by rfl) :
    Ev X (.Call (.Name "list" p) [a] [] pos) σ N (isL R l) :=
  ev_callTy call_list_of hm (by decide +kernel) (ea_cons ha ea_nil he) (fun vs N' H' s p1 Q q => by
    obtain ⟨v, rfl, a, xs, rfl, ha, pr⟩ := paired1 p1
    refine ⟨_, xs, rfl, .inr (SqT.of (s _ _ ha)), fun l' hl' => q _ _ _ (.new s hl') ⟨l', xs, rfl, upd_same, paired_mono (paired_each pr k) fun v y z => (R y).mono (same_new (s.free hl')) z⟩⟩) hg (by decide) (by decide) he hpl
theorem paired_map_is {xs : List V} {H : Hp} : ∀ {l : List Int}, Paired (fun v y => (I y).p v H) xs l → xs = l.map V.int := by
  induction xs with
  | nil => intro l h; cases h; rfl
  | cons x r ih =>
    intro l h
    cases h with
    | cons e t =>
      rw [List.map_cons, ← ih t]
      exact congrArg (· :: r) e
theorem paired_of_map {H : Hp} : ∀ (l : List Int), Paired (fun v y => (I y).p v H) (l.map V.int) l
  | [] => .nil
  | _ :: r => .cons rfl (paired_of_map r)
theorem paired_of_mapT {H : Hp} : ∀ (l : List Int), Paired (fun v (P : VP) => P.p v H) (l.map V.int) (l.map I)
  | [] => .nil
  | _ :: r => .cons rfl (paired_of_mapT r)
/-- a list of numbers -/
abbrev isI (l : List Int) : VP := isL I l
theorem ev_tupleL {l : List Int} {p : Pos} (hm : X.mg "tuple" = none) (ha : Ev X a σ N (isI l)) (hg : Gl X "tuple" := by rfl) (he : starEach [a] X.env = (false, eval a X.env) :: starEach [] X.env := by rfl) (hpl : (backTo pos (starEach [] X.env)).any (·.1) = false := by rfl) :
    Ev X (.Call (.Name "tuple" p) [a] [] pos) σ N (isT (l.map I)) :=
  ev_callTy call_tuple_of hm (by decide +kernel) (ea_cons ha ea_nil he) (fun vs N' H' s p1 Q q => by
    obtain ⟨v, rfl, a, xs, rfl, ha, pr⟩ := paired1 p1
    have e := paired_map_is pr
    subst e
    refine ⟨_, _, rfl, .inl ⟨SqL.of (s _ _ ha), fun l' hl' => q _ _ _ (.new s hl') ⟨l', _, rfl, upd_same, paired_of_mapT l⟩⟩⟩) hg (by decide) (by decide) he hpl
/-! lists and tuples: +, slices, in -/
theorem paired_app {α β : Type} {F : α → β → Prop} : ∀ {xs : List α} {ys : List β} {xs' : List α} {ys' : List β}, Paired F xs ys → Paired F xs' ys' → Paired F (xs ++ xs') (ys ++ ys')
  | _, _, _, _, .nil, s => s
  | _, _, _, _, .cons r t, s => .cons r (paired_app t s)
theorem paired_take {α β : Type} {F : α → β → Prop} : ∀ {xs : List α} {ys : List β} (n : Nat), Paired F xs ys → Paired F (xs.take n) (ys.take n)
  | _, _, 0, _ => .nil
  | _, _, _ + 1, .nil => .nil
  | _, _, n + 1, .cons r t => .cons r (paired_take n t)
theorem paired_drop {α β : Type} {F : α → β → Prop} : ∀ {xs : List α} {ys : List β} (n : Nat), Paired F xs ys → Paired F (xs.drop n) (ys.drop n)
  | _, _, 0, r => r
  | _, _, _ + 1, .nil => .nil
  | _, _, n + 1, .cons _ t => paired_drop n t
theorem ev_catL {α : Type} {R : α → VP} {l m : List α} (ha : Ev X a σ N (isL R l)) (hb : Ev X b σ N (isL R m)) (hl : l.length + m.length ≤ 1000000) : Ev X (.BinOp a .Add b pos) σ N (isL R (l ++ m)) :=
  ev_op op_cat ha hb fun x y N' H' s p1 p2 Q q => by
    obtain ⟨p, xs, rfl, hp, pr⟩ := p1
    obtain ⟨p', xs', rfl, hp', pr'⟩ := p2
    exact ⟨p, p', xs, xs', rfl, rfl, s _ _ hp, s _ _ hp', sz_le (by rw [paired_len pr, paired_len pr']; exact hl), fun l' hl' => q _ _ _ (.new s hl') ⟨l', _, rfl, upd_same, paired_mono (paired_app pr pr') fun v y z => (R y).mono (same_new (s.free hl')) z⟩⟩
theorem ev_catT {l m : List VP} (ha : Ev X a σ N (isT l)) (hb : Ev X b σ N (isT m)) (h1 : l ≠ []) (h2 : m ≠ []) (hl : l.length + m.length ≤ 1000000) : Ev X (.BinOp a .Add b pos) σ N (isT (l ++ m)) :=
  ev_op op_catT ha hb fun x y N' H' s p1 p2 Q q => by
    obtain ⟨p, xs, rfl, hp, pr⟩ := p1
    obtain ⟨p', xs', rfl, hp', pr'⟩ := p2
    refine ⟨p, p', xs, xs', rfl, rfl, SqT.of (s _ _ hp), SqT.of (s _ _ hp'), fun z => h1 ?_, sz_le (by rw [paired_len pr, paired_len pr']; exact hl), fun z => absurd ?_ h2, fun _ l' hl' => q _ _ _ (.new s hl') ⟨l', _, rfl, upd_same, paired_mono (paired_app pr pr') fun v y z => y.mono (same_new (s.free hl')) z⟩⟩
    · subst z; cases pr; rfl
    · subst z; cases pr'; rfl
/-- a part of a slice -/
def EvO (X : Cx) (e : Option Expr) (σ : L2.St) (N : Hp) (i : Option Int) : Prop := (e = none ∧ i = none) ∨ ∃ e' j, e = some e' ∧ i = some j ∧ Ev X e' σ N (I j)
theorem eo_none : EvO X none σ N none := .inl ⟨rfl, rfl⟩
theorem eo_some {i : Int} (h : Ev X e σ N (I i)) : EvO X (some e) σ N (some i) := .inr ⟨e, i, rfl, rfl, h⟩
def tO (X : Cx) : Option Expr → TO
  | none => tNoPart
  | some e => tPart (bE X e)
theorem po_b : ∀ {e : Option Expr}, PO X e (tO X e)
  | none => po_none
  | some _ => po_some pe_b
theorem EvO.run {e : Option Expr} {i : Option Int} {H : Hp} {Q : Option Int → Hp → Prop} (h : EvO X e σ N i) (s : Same N H) (q : ∀ H', Same H H' → Q i H') : tO X e σ H Q := by
  rcases h with ⟨rfl, rfl⟩ | ⟨e', j, rfl, rfl, h⟩
  · exact q H (Same.refl _)
  · exact h H s _ fun v N' H' g p => ⟨j, p, q H' g.hh⟩
def cutA {α : Type} (l : List α) (lo hi : Option Int) : List α := (l.drop (HT.sIx l.length 0 lo)).take (HT.sIx l.length l.length hi - HT.sIx l.length 0 lo)
theorem paired_cut {α : Type} {F : V → α → Prop} {xs : List V} {l : List α} {lo hi : Option Int} (h : Paired F xs l) : Paired F (cutV xs lo hi) (cutA l lo hi) := by
  unfold cutV cutA
  rw [paired_len h]
  exact paired_take _ (paired_drop _ h)
theorem ev_slL {α : Type} {R : α → VP} {l : List α} {lo hi : Option Expr} {i j : Option Int} {p2 : Pos} (h : Ev X e σ N (isL R l)) (h1 : EvO X lo σ N i) (h2 : EvO X hi σ N j) : Ev X (.Subscript e (.Slice lo hi none p2) pos) σ N (isL R (cutA l i j)) :=
  ev_pe (pe_slice sl_list pe_b po_b po_b) fun H s Q q => h H s _ fun x N1 H1 g1 p1 => h1.run (s.trans g1.hh) fun H2 s2 => h2.run (s.trans (g1.hh.trans s2)) fun H3 s3 => by
    obtain ⟨p, xs, rfl, hp, pr⟩ := p1
    have g : Grow N H N1 H3 := g1.trans (.keep g1.nh (s2.trans s3))
    exact ⟨p, xs, rfl, SqL.of (g.nh _ _ hp), fun l' hl' => q _ _ _ (g.trans (.new g.nh hl')) ⟨l', _, rfl, upd_same, paired_mono (paired_cut pr) fun v y z => (R y).mono (same_new (g.nh.free hl')) z⟩⟩
theorem ev_slT {l : List VP} {lo hi : Option Expr} {i j : Option Int} {p2 : Pos} (h : Ev X e σ N (isT l)) (h1 : EvO X lo σ N i) (h2 : EvO X hi σ N j) (hw : ¬ (HT.sIx l.length 0 i = 0 ∧ HT.sIx l.length l.length j = l.length)) : Ev X (.Subscript e (.Slice lo hi none p2) pos) σ N (isT (cutA l i j)) :=
  ev_pe (pe_slice sl_tup pe_b po_b po_b) fun H s Q q => h H s _ fun x N1 H1 g1 p1 => h1.run (s.trans g1.hh) fun H2 s2 => h2.run (s.trans (g1.hh.trans s2)) fun H3 s3 => by
    obtain ⟨p, xs, rfl, hp, pr⟩ := p1
    have g : Grow N H N1 H3 := g1.trans (.keep g1.nh (s2.trans s3))
    exact ⟨p, xs, rfl, SqT.of (g.nh _ _ hp), by rw [paired_len pr]; exact hw, fun l' hl' => q _ _ _ (g.trans (.new g.nh hl')) ⟨l', _, rfl, upd_same, paired_mono (paired_cut pr) fun v y z => y.mono (same_new (g.nh.free hl')) z⟩⟩
theorem inV_ints {i : Int} : ∀ {l : List Int}, inV (.int i) (l.map V.int) = decide (i ∈ l)
  | [] => rfl
  | a :: r => by
    have h : inV (.int i) ((a :: r).map V.int) = (eqV (.int a) (.int i) || inV (.int i) (r.map V.int)) := rfl
    rw [h, inV_ints (l := r)]
    have e : eqV (.int a) (.int i) = decide (a = i) := by
      simp only [eqV]
      exact Bool.eq_iff_iff.mpr (by simp)
    rw [e]
    by_cases h1 : i = a
    · subst h1; simp
    · have h2 : ¬ a = i := fun z => h1 z.symm
      simp [h1, h2]
theorem flat_ints : ∀ {l : List Int}, (l.map V.int).all flatV = true
  | [] => rfl
  | _ :: r => by rw [List.map_cons, List.all_cons, flat_ints (l := r)]; rfl
theorem paired_ints {xs : List V} {H : Hp} : ∀ {l : List Int}, Paired (fun v (P : VP) => P.p v H) xs (l.map I) → xs = l.map V.int := by
  induction xs with
  | nil =>
    intro l h
    cases l with
    | nil => rfl
    | cons a r => cases h
  | cons x r ih =>
    intro l h
    cases l with
    | nil => cases h
    | cons a t =>
      cases h with
      | cons e t' =>
        rw [List.map_cons, ← ih t']
        exact congrArg (· :: r) e
theorem ev_inT {i : Int} {l : List Int} {Ps : List VP} (ha : Ev X a σ N (I i)) (hb : Ev X b σ N (isT Ps)) (hP : Ps = l.map I) (hm : behindInMarks .In b = false := by with_unfolding_all rfl) : Ev X (.Compare a [.In] [b] pos) σ N (B (decide (i ∈ l))) :=
  ev_cmp op_in_seq hm ha hb fun x y N' H' s p1 p2 Q q => by
    obtain ⟨p, xs, rfl, hp, pr⟩ := p2
    subst hP
    have e := paired_ints pr
    subst e
    cases p1
    exact ⟨p, _, rfl, .inr (SqT.of (s _ _ hp)), rfl, flat_ints, q _ N' H' (.refl s) (by rw [if_neg (by decide), inV_ints]; rfl)⟩
end
end PB
namespace PB
open PySem PySem.Spec PyProof.Rows L2
/-! ### promises -/
abbrev All (vs : List V) (Ps : List VP) (N : Hp) : Prop := Paired (fun v (P : VP) => P.p v N) vs Ps
/-- a def that only makes new things -/
def Pure (R : List VP → VP → Prop) : Sp := fun vs H Q _ => ∃ (Ps : List VP) (P : VP) (N : Hp), R Ps P ∧ Same N H ∧ All vs Ps N ∧ ∀ v N' H', Grow N H N' H' → P.p v N' → Q v H'
/-- an __init__ that only makes new things and fills its own object -/
def Init (C : Addr) (R : List VP → List (Str × VP) → Prop) : Sp := fun vs H Q _ => ∃ (x dx : Addr) (args : List V) (Ps : List VP) (fs : List (Str × VP)) (N : Hp), vs = .ref x :: args ∧ R Ps fs ∧ N x = none ∧ Same N H ∧ H x = some (.ins C dx []) ∧ All args Ps N ∧
  ∀ N' H' vals, (∀ b o, b ≠ x → H b = some o → H' b = some o) → Same N N' → Same N' H' → (∀ b, N b = none → H b ≠ none → N' b = none) → H' x = some (.ins C dx vals) → Paired (fun (v : Str × V) (y : Str × VP) => v.1 = y.1 ∧ y.2.p v.2 N') vals fs → Q .non H'
section
variable (P : Program) (w : World) (K : PySem.W.Frag) (mg : Str → Option Value) (base : Heap)
def GF (CX : CXT) (k : Nat) (x : Str) (ps : List Str) (sp : Sp) : Prop := ∃ (f : Addr) (fd : FuncData), FnOk P w K mg base CX k f fd ps sp ∧ mg x = some (.ref f) ∧ PySem.W.keepIn K (.ref f) = true ∧ Binds K fd ps []
def MF (CX : CXT) (k : Nat) (C : Addr) (m : Str) (ps : List Str) (sp : Sp) : Prop := ∃ (f : Addr) (fd : FuncData), FnOk P w K mg base CX k f fd ps sp ∧ Meth K C m f ∧ Binds K fd ps []
def CF (CX : CXT) (k : Nat) (x : Str) (C : Addr) (ps : List Str) (sp : Sp) : Prop := ∃ (f : Addr) (fd : FuncData), FnOk P w K mg base CX k f fd ps sp ∧ Mk K C f ∧ mg x = some (.ref C) ∧ Binds K fd ps []
end
section
variable {P : Program} {w : World} {K : PySem.W.Frag} {mg : Str → Option Value} {base : Heap}
/-- a pure def, by its body -/
theorem pure_ok {R : List VP → VP → Prop} {x qual : Str} {st : Stmt} {f : Addr} {fd : FuncData} {N ps : List Str} {k : Nat} (F : Fun K x qual st f fd) (S : FnScope N ps (defScope st)) (len : ∀ Ps P, R Ps P → Ps.length = ps.length)
    (body : ∀ (cdv : Value) (A : Around) (outer : List Env) (s : Shared) (H0 : Hp) (E : XK), Room k (A.deeper (envOfC qual (defScope st) s.heap.objs.size f cdv)) → ∀ (vs : List V) (Ps : List VP) (P' : VP) (Nh H : Hp), R Ps P' → Same Nh H → All vs Ps Nh →
      bB (cxOf CX0 P w K mg base N qual (defScope st) f cdv A outer s H0 E).nox (defBody st) { nx := fun _ H' => ∃ N', Grow Nh H N' H' ∧ P'.p .non N', rt := fun v H' => ∃ N', Grow Nh H N' H' ∧ P'.p v N' } (start N vs) H) :
    FnOk P w K mg base CX0 (k + 1) f fd ps (Pure R) := by
  refine F.ok S (fun vs H Q E h => ?_) fun cdv A outer s H vs Q E hr h => ?_
  · obtain ⟨Ps, P', Nh, r, _, p, _⟩ := h
    rw [paired_len p]; exact len Ps P' r
  · obtain ⟨Ps, P', Nh, r, sm, p, q⟩ := h
    refine ⟨_, pss_b, bB_in.mpr fun pins s' I => ?_⟩
    refine thn (bB_in.mp (body cdv A outer s H E hr vs Ps P' Nh H r sm p) pins s' I) fun fl s2 h2 => ?_
    cases fl with
    | next =>
      obtain ⟨σ', H', I', N', g, p'⟩ := h2
      exact ⟨σ', H', I', q _ N' H' g p'⟩
    | brk => obtain ⟨_, _, _, z⟩ := h2; exact z.elim
    | cont => obtain ⟨_, _, _, z⟩ := h2; exact z.elim
    | ret u =>
      obtain ⟨v, σ', H', I', rv, N', g, p'⟩ := h2
      exact ⟨v, σ', H', I', rv, q v N' H' g p'⟩
end
section
variable {X : Cx} {e a b o : Expr} {es : List Expr} {pos apos p : Pos} {σ : L2.St} {N : Hp} {k : Nat} {x m : Str} {ps : List Str} {R : List VP → VP → Prop} {Ps : List VP} {P : VP} {C : Addr} {fs : List (Str × VP)}
theorem ev_call (F : GF X.prog X.w X.K X.mg X.base CX0 k x ps (Pure R)) (hr : Room k X.A) (ha : EvA X (e :: es) σ N Ps) (r : R Ps P) (hg : Gl X x := by rfl) (hdb : (x == ("__debug__" : Str)) = false := by decide)
    (he : starEach (e :: es) X.env = (false, eval e X.env) :: starEach es X.env := by rfl) (hpl : (backTo pos (starEach es X.env)).any (·.1) = false := by rfl) : Ev X (.Call (.Name x p) (e :: es) [] pos) σ N P := by
  obtain ⟨f, fd, F, hm, hk, hb⟩ := F
  refine ev_pe (pe_call F hr hg hm hk hb .nil pass0 pa_b hdb he hpl) fun H s Q q => ha H s _ fun vs N' H' g p1 => ?_
  rw [List.append_nil]
  exact ⟨Ps, P, N', r, g.nh, p1, fun v N2 H2 g2 p2 => q v N2 H2 (g.trans g2) p2⟩
theorem ev_meth {pl : Sem Bool} (F : MF X.prog X.w X.K X.mg X.base CX0 k C m ps (Pure R)) (c : Cls X.K C) (hr : Room k X.A) (ho : Ev X o σ N (isIns C fs)) (hl : fs.lookup m = none) (ha : EvA X (e :: es) σ N Ps) (r : R (isIns C fs :: Ps) P)
    (hst : starEach (e :: es) X.env = (false, eval e X.env) :: starEach es X.env := by rfl) (hpl : (backTo pos (starEach es X.env)).any (·.1) = false := by rfl)
    (ht : eval (.Call (.Attribute o m apos) (e :: es) [] pos) X.env = (do
      let ov ← eval o X.env
      standAt apos.atName
      let (f, first) ← holding [ov] (getMethod ov m pl)
      callWith pos f first (backTo pos (starEach (e :: es) X.env)) (backToKw pos (keywordEach [] X.env))) := by rfl) : Ev X (.Call (.Attribute o m apos) (e :: es) [] pos) σ N P := by
  obtain ⟨f, fd, F, hm, hb⟩ := F
  refine ev_pe (pe_meth pe_b c hm F hr hb .nil pass0 pa_b hst hpl ht) fun H s Q q => ho H s _ fun y N1 H1 g1 p1 => ?_
  obtain ⟨a, dx, vs, rfl, ea, pr⟩ := id p1
  refine ⟨a, dx, vs, rfl, g1.nh _ _ ea, lookup_none (F := fun v P => P.p v N1) pr hl, (ha.mono g1.nn) H1 g1.nh _ fun us N2 H2 g2 p2 => ?_⟩
  rw [List.append_nil]
  exact ⟨_, P, N2, r, g2.nh, .cons ((isIns C fs).mono g2.nn p1) p2, fun v N3 H3 g3 p3 => q v N3 H3 ((g1.trans g2).trans g3) p3⟩
theorem ev_meth0 {pl : Sem Bool} (F : MF X.prog X.w X.K X.mg X.base CX0 k C m ps (Pure R)) (c : Cls X.K C) (hr : Room k X.A) (ho : Ev X o σ N (isIns C fs)) (hl : fs.lookup m = none) (r : R [isIns C fs] P)
    (ht : eval (.Call (.Attribute o m apos) [] [] pos) X.env = (do
      let ov ← eval o X.env
      standAt apos.atName
      let (f, first) ← holding [ov] (getMethod ov m pl)
      callWith pos f first (backTo pos (starEach [] X.env)) (backToKw pos (keywordEach [] X.env))) := by rfl) : Ev X (.Call (.Attribute o m apos) [] [] pos) σ N P := by
  obtain ⟨f, fd, F, hm, hb⟩ := F
  refine ev_pe (pe_meth0 pe_b c hm F hr hb .nil pass0 ht) fun H s Q q => ho H s _ fun y N1 H1 g1 p1 => ?_
  obtain ⟨a, dx, vs, rfl, ea, pr⟩ := id p1
  refine ⟨a, dx, vs, rfl, g1.nh _ _ ea, lookup_none (F := fun v P => P.p v N1) pr hl, ?_⟩
  exact ⟨_, P, N1, r, g1.nh, .cons p1 .nil, fun v N3 H3 g3 p3 => q v N3 H3 (g1.trans g3) p3⟩
theorem ev_make {R : List VP → List (Str × VP) → Prop} (F : CF X.prog X.w X.K X.mg X.base CX0 k x C ps (Init C R)) (hr : Room (k + 1) X.A) (ha : EvA X (e :: es) σ N Ps) (r : R Ps fs) (hg : Gl X x := by rfl) (hdb : (x == ("__debug__" : Str)) = false := by decide)
    (he : starEach (e :: es) X.env = (false, eval e X.env) :: starEach es X.env := by rfl) (hpl : (backTo pos (starEach es X.env)).any (·.1) = false := by rfl) : Ev X (.Call (.Name x p) (e :: es) [] pos) σ N (isIns C fs) := by
  obtain ⟨f, fd, F, M, hm, hb⟩ := F
  refine ev_pe (pe_make M F hr hg hm hb .nil pass0 pa_b hdb he hpl) fun H s Q q => ha H s _ fun vs N1 H1 g1 p1 => ?_
  intro y dx ny nd ne
  rw [List.append_nil]
  have s2 : Same N1 (upd (upd H1 dx (.own y)) y (.ins C dx [])) := g1.nh.trans ((same_new nd).trans (same_new (by rw [upd_ne (Ne.symm ne)]; exact ny)))
  have h12 : Same H1 (upd (upd H1 dx (.own y)) y (.ins C dx [])) := (same_new nd).trans (same_new (by rw [upd_ne (Ne.symm ne)]; exact ny))
  refine ⟨y, dx, vs, Ps, fs, N1, rfl, r, g1.nh.free ny, s2, upd_same, p1, fun N' H' vals kh kn knh kw hy pr => ⟨rfl, ?_⟩⟩
  have hH : Same H1 H' := fun b o h => kh b o (ne_of_none h ny) (h12 b o h)
  have hy0 : N' y = none := kw y (g1.nh.free ny) (by rw [upd_same]; simp)
  refine q _ (upd N' y (.ins C dx vals)) H' (g1.trans ⟨hH, kn.trans (same_new hy0), fun b o h => ?_, fun b hb hk => ?_⟩) ⟨y, dx, vals, rfl, upd_same, Paired.mapP pr fun v z h => ⟨h.1, z.2.mono (same_new hy0) h.2⟩⟩
  · by_cases hby : b = y
    · subst hby; rw [upd_same] at h; cases h; exact hy
    · rw [upd_ne hby] at h; exact knh b o h
  · have hby : b ≠ y := fun z => hk (by rw [z]; exact ny)
    rw [upd_ne hby]
    refine kw b hb fun z => ?_
    cases h : H1 b with
    | none => exact hk h
    | some o => rw [h12 b o h] at z; cases z
end
/-! ### statements -/
section
variable {X : Cx} {e a b o : Expr} {pos pos' apos p : Pos} {σ : L2.St} {N H : Hp} {x : Str} {P : VP} {rest : List Stmt} {D : Ends}
theorem b_nil (h : D.nx σ H) : bB X [] D σ H := bB_of pss_nil h
theorem b_asg {i : Nat} (h : Ev X e σ N P) (s : Same N H) (k : ∀ v N' H', Grow N H N' H' → P.p v N' → bB X rest D (σ.set i (some v)) H') (nd : X.N.Nodup) (hi : X.N[i]? = some x := by rfl) (hx : Loc X.env.scope x := by first | exact Or.inl rfl | exact Or.inr rfl)
    (hs : swapsWith e (some (.Name x pos')) pos.line X.env = pure false := by rfl) (hf : X.fn x = true ∨ X.env.scope.names.lookup x = some .local := by first | exact .inl rfl | exact .inr rfl) : bB X (.Assign [.Name x pos'] e pos :: rest) D σ H :=
  bB_of (pss_cons (ps_set nd hi hx pe_b hs hf) pss_b) (h H s _ k)
/-- a value that hangs on no heap -/
theorem b_asgV {i : Nat} {v : V} (h : Ev X e σ N (is v)) (s : Same N H) (k : ∀ H', Same H H' → bB X rest D (σ.set i (some v)) H') (nd : X.N.Nodup) (hi : X.N[i]? = some x := by rfl) (hx : Loc X.env.scope x := by first | exact Or.inl rfl | exact Or.inr rfl)
    (hs : swapsWith e (some (.Name x pos')) pos.line X.env = pure false := by rfl) (hf : X.fn x = true ∨ X.env.scope.names.lookup x = some .local := by first | exact .inl rfl | exact .inr rfl) : bB X (.Assign [.Name x pos'] e pos :: rest) D σ H :=
  b_asg h s (fun u N' H' g p => by cases p; exact k H' g.hh) nd hi hx hs hf
theorem b_ret (h : Ev X e σ N P) (s : Same N H) (k : ∀ v N' H', Grow N H N' H' → P.p v N' → D.rt v H') : bB X (.Return (some e) pos :: rest) D σ H :=
  bB_of (t := tSeq (tRet (bE X e)) (bB X rest)) (pss_cons (ps_ret pe_b) pss_b) (h H s _ k)
theorem b_if {c : Expr} {t : Bool} {as bs : List Stmt} (h : EvT X c σ N t) (s : Same N H) (k1 : t = true → ∀ H', Same H H' → bB X as { D with nx := bB X rest D } σ H') (k2 : t = false → ∀ H', Same H H' → bB X bs { D with nx := bB X rest D } σ H') :
    bB X (.If c as bs pos :: rest) D σ H :=
  bB_of (t := tSeq (tIfS (bT X c) (bB X as) (bB X bs)) (bB X rest)) (pss_cons (ps_if pt_b pss_b pss_b) pss_b) (h H s _ fun H' s' => by
    cases t with
    | true => rw [if_pos rfl]; exact k1 rfl H' s'
    | false => rw [if_neg (by decide)]; exact k2 rfl H' s')
/-- an if without else -/
theorem b_when {c : Expr} {t : Bool} {as : List Stmt} (h : EvT X c σ N t) (s : Same N H) (k1 : t = true → ∀ H', Same H H' → bB X as { D with nx := bB X rest D } σ H') (k2 : t = false → ∀ H', Same H H' → bB X rest D σ H') :
    bB X (.If c as [] pos :: rest) D σ H := b_if h s k1 fun z H' s' => b_nil (k2 z H' s')
theorem b_append {N2 : Hp} {l : Addr} {xs : List V} (hl : H l = some (.lst xs)) (hz : xs.length < 1000000) (ho : Ev X o σ N2 (is (.ref l))) (s2 : Same N2 H) (h : Ev X e σ N P) (s : Same N H)
    (k : ∀ v N' H', Grow N H N' H' → P.p v N' → H' l = some (.lst xs) → bB X rest D σ (upd H' l (.lst (xs ++ [v])))) 
    (hbase : attributeBase o "append" X.env (eval o X.env) = eval o X.env := by rfl) (hline : (apos.endLine == p.line) = true ∨ True := by exact Or.inr trivial)
    (hs1 : starEach [e] X.env = (false, eval e X.env) :: starEach [] X.env := by rfl)
    (hq : PE X (.Call (.Attribute o "append" apos) [e] [] p) (tBM X.K "list" rAppend (bE X o) (bA X [e])) := by exact pe_bm PySem.F.plainAttrs_list PySem.F.slot_list_append PySem.F.type_list_append mt_append pe_b pa_b)
    (hs : swapsWith (.Call (.Attribute o "append" apos) [e] [] p) none pos.line X.env = pure false := by rfl) : bB X (.Expr (.Call (.Attribute o "append" apos) [e] [] p) pos :: rest) D σ H :=
  bB_of (t := tSeq (tDrop _) (bB X rest)) (pss_cons (ps_expr hq hs) pss_b) (ho H s2 _ fun y N1 H1 g1 p1 => by
    cases p1
    refine ⟨.inl ⟨rfl, xs, SqL.of (g1.hh _ _ hl)⟩, ea_cons h ea_nil hs1 H1 (s.trans g1.hh) _ fun vs N3 H3 g3 p3 => ?_⟩
    obtain ⟨v, rfl, pv⟩ := paired1 p3
    have g : Grow N H N3 H3 := (Grow.keep s g1.hh).trans g3
    exact ⟨l, xs, v, rfl, rfl, g.hh _ _ hl, sz_lt hz, k v N3 H3 g pv (g.hh _ _ hl)⟩)
theorem b_extend {α : Type} {S : α → VP} {m : List α} {N2 : Hp} {l : Addr} {xs : List V} (hl : H l = some (.lst xs)) (hz : xs.length + m.length ≤ 1000000) (ho : Ev X o σ N2 (is (.ref l))) (s2 : Same N2 H) (h : Ev X e σ N (isL S m)) (s : Same N H)
    (k : ∀ ys N' H', Grow N H N' H' → Paired (fun v y => (S y).p v N') ys m → H' l = some (.lst xs) → bB X rest D σ (upd H' l (.lst (xs ++ ys))))
    (hs1 : starEach [e] X.env = (false, eval e X.env) :: starEach [] X.env := by rfl)
    (hq : PE X (.Call (.Attribute o "extend" apos) [e] [] p) (tBM X.K "list" rExtend (bE X o) (bA X [e])) := by exact pe_bm PySem.F.plainAttrs_list PySem.F.slot_list_extend PySem.F.type_list_extend mt_extend pe_b pa_b)
    (hs : swapsWith (.Call (.Attribute o "extend" apos) [e] [] p) none pos.line X.env = pure false := by rfl) : bB X (.Expr (.Call (.Attribute o "extend" apos) [e] [] p) pos :: rest) D σ H :=
  bB_of (t := tSeq (tDrop _) (bB X rest)) (pss_cons (ps_expr hq hs) pss_b) (ho H s2 _ fun y N1 H1 g1 p1 => by
    cases p1
    refine ⟨.inl ⟨rfl, xs, SqL.of (g1.hh _ _ hl)⟩, ea_cons h ea_nil hs1 H1 (s.trans g1.hh) _ fun vs N3 H3 g3 p3 => ?_⟩
    obtain ⟨v, rfl, c, ys, rfl, hc, py⟩ := paired1 p3
    have g : Grow N H N3 H3 := (Grow.keep s g1.hh).trans g3
    exact ⟨l, c, xs, ys, rfl, rfl, g.hh _ _ hl, g3.nh _ _ hc, sz_le (by rw [paired_len py]; exact hz), k ys N3 H3 g py (g.hh _ _ hl)⟩)
/-- o.f = e -/
theorem b_fld {N2 : Hp} {c C dx : Addr} {fs : List (Str × V)} {f : Str} (hc : H c = some (.ins C dx fs)) (hz : fs.length < 1000) (cl : Cls X.K C) (n : NoAttr X.K C f) (h : Ev X e σ N P) (s : Same N H) (ho : Ev X o σ N2 (is (.ref c))) (s2 : Same N2 H)
    (k : ∀ v N' H', Grow N H N' H' → P.p v N' → H' c = some (.ins C dx fs) → bB X rest D σ (upd H' c (.ins C dx (putF f v fs)))) (hs : swapsWith e (some (.Attribute o f pos')) pos.line X.env = pure false := by rfl) :
    bB X (.Assign [.Attribute o f pos'] e pos :: rest) D σ H :=
  bB_of (t := tSeq (sFld X.K (bE X o) (bE X e) f) (bB X rest)) (pss_cons (ps_fld pe_b pe_b hs) pss_b) (h H s _ fun v N1 H1 g1 p1 => ho H1 (s2.trans g1.hh) _ fun y N3 H3 g3 p3 => by
    cases p3
    have g : Grow N H N1 H3 := g1.trans (.keep g1.nh g3.hh)
    exact ⟨c, C, dx, fs, rfl, g.hh _ _ hc, cl, n, hz, k v N1 H3 g p1 (g.hh _ _ hc)⟩)
/-- while -/
theorem b_while {c : Expr} {body : List Stmt} (W : Nat → L2.St → Hp → Prop) (m0 : Nat) (w0 : W m0 σ H)
    (turn : ∀ m σ' H', W m σ' H' → ∃ t Nc, EvT X c σ' Nc t ∧ Same Nc H' ∧ (t = true → ∀ H1, Same H' H1 → bB X body { D with nx := fun σ2 H2 => ∃ m', m' < m ∧ W m' σ2 H2, ct := fun σ2 H2 => ∃ m', m' < m ∧ W m' σ2 H2, bk := bB X rest D } σ' H1) ∧ (t = false → ∀ H1, Same H' H1 → bB X rest D σ' H1))
    (hp : PassesOwn (model X.prog X.w) X.A X.env X.xe) : bB X (.While c body [] pos :: rest) D σ H :=
  bB_of (t := tSeq (tWhile (bT X c) (bB X body)) (bB X rest)) (pss_cons (ps_while hp pt_b pss_b) pss_b) ⟨W, ⟨m0, w0⟩, fun m σ' H' w => by
    obtain ⟨t, Nc, ht, sc, k1, k2⟩ := turn m σ' H' w
    refine ht H' sc _ fun H1 s1 => ?_
    cases t with
    | true => rw [if_pos rfl]; exact ⟨_, fun _ _ z => z, k1 rfl H1 s1⟩
    | false => rw [if_neg (by decide)]; exact k2 rfl H1 s1⟩
/-- for over a list that stands in the known part -/
theorem b_forL {α : Type} {R : α → VP} {l : List α} {it tg : Expr} {g : TG} {body : List Stmt} (hi : Ev X it σ N (isL R l)) (s : Same N H) (J : Hp → Nat → L2.St → Hp → Hp → Prop)
    (h0 : ∀ N0 H1, Grow N H N0 H1 → J N0 0 σ N0 H1)
    (turn : ∀ N0 i y v σ1 N1 H1, Same N N0 → l[i]? = some y → Same N0 N1 → Same N1 H1 → J N0 i σ1 N1 H1 → (R y).p v N0 → g v σ1 H1 fun σ2 H2 => bB X body { D with nx := fun σ3 H3 => ∃ N3, Same N0 N3 ∧ Same N3 H3 ∧ J N0 (i + 1) σ3 N3 H3, ct := fun σ3 H3 => ∃ N3, Same N0 N3 ∧ Same N3 H3 ∧ J N0 (i + 1) σ3 N3 H3, bk := bB X rest D } σ2 H2)
    (done : ∀ N0 σ1 N1 H1, Same N N0 → Same N0 N1 → Same N1 H1 → J N0 l.length σ1 N1 H1 → bB X rest D σ1 H1)
    (hp : PassesOwn (model X.prog X.w) X.A X.env X.xe) (hc : X.calm = true) (hg : PG X tg g) (hs : ∀ x, foldedSetIterable it X.env x = pure x := by intro _; rfl) : bB X (.For tg it body [] pos :: rest) D σ H :=
  bB_of (t := tSeq (tFor (iList X.K (bE X it)) g (bB X body)) (bB X rest)) (pss_cons (ps_for hp hc (pi_list pe_b) hg pss_b hs) pss_b) (hi H s _ fun y N0 H1 g1 p1 => by
    obtain ⟨c, xs, rfl, hc, pr⟩ := p1
    refine ⟨c, rfl, ⟨xs, SqL.of (g1.nh _ _ hc)⟩, for_list (K := X.K) (a := c) (xs := xs) (fun i σ1 H1 => ∃ N1, Same N0 N1 ∧ Same N1 H1 ∧ J N0 i σ1 N1 H1) ⟨N0, Same.refl _, g1.nh, h0 N0 H1 g1⟩ (fun i σ1 H1 _ ⟨N1, s1, s2, _⟩ => SqL.of (s2 _ _ (s1 _ _ hc))) ?_ ?_⟩
    · rintro i v σ1 H1 hi ⟨N1, s1, s2, j⟩
      have hlt : i < xs.length := (List.getElem?_eq_some_iff.mp hi).1
      have hlt' : i < l.length := by rw [← paired_len pr]; exact hlt
      obtain ⟨z, hz, pz⟩ := paired_get pr (List.getElem?_eq_getElem hlt')
      rw [hi] at hz
      cases hz
      exact turn N0 i _ v σ1 N1 H1 g1.nn (List.getElem?_eq_getElem hlt') s1 s2 j pz
    · rintro σ1 H1 ⟨N1, s1, s2, j⟩
      rw [paired_len pr] at j
      exact done N0 σ1 N1 H1 g1.nn s1 s2 j)
end
end PB
namespace PB
open PySem PySem.Spec PyProof.Rows L2
section
variable {X : Cx} {e a b c it tg elt cond : Expr} {pos p px : Pos} {σ : L2.St} {N H : Hp} {x : Str} {P : VP} {rest body : List Stmt} {D : Ends} {g : TG}
/-! ### what is walked: a range -/
def EvI (X : Cx) (tg it : Expr) (σ : L2.St) (N : Hp) (lo : Int) (n : Nat) : Prop := ∀ H, Same N H → ∀ R : It → Hp → Prop, (∀ H', Same H H' → R (Itr lo n) H') → ∃ wi, PI X tg it wi ∧ wi σ H R
theorem evi_1 {j : Int} (hm : X.mg "range" = none) (ha : Ev X a σ N (I j)) (hj : -(2 ^ 62) ≤ j ∧ j < 2 ^ 62) (hg : Gl X "range" := by rfl) (hs : starEach [a] X.env = [(false, eval a X.env)] := by rfl) : EvI X tg (.Call (.Name "range" p) [a] [] pos) σ N 0 j.toNat :=
  fun H s R q => ⟨_, pi_range1 hg hm pa_b hs, (ea_cons ha ea_nil hs) H s _ fun vs N' H' g p1 => by
    obtain ⟨v, rfl, rfl⟩ := paired1 p1
    exact ⟨j, rfl, hj.1, hj.2, q H' g.hh⟩⟩
theorem evi_2 {i j : Int} (hm : X.mg "range" = none) (ha : Ev X a σ N (I i)) (hb : Ev X b σ N (I j)) (hi : -(2 ^ 62) ≤ i ∧ i < 2 ^ 62) (hj : -(2 ^ 62) ≤ j ∧ j < 2 ^ 62) (hg : Gl X "range" := by rfl)
    (hs : starEach [a, b] X.env = [(false, eval a X.env), (false, eval b X.env)] := by rfl) (hs2 : starEach [b] X.env = [(false, eval b X.env)] := by rfl) : EvI X tg (.Call (.Name "range" p) [a, b] [] pos) σ N i (j - i).toNat :=
  fun H s R q => ⟨_, pi_range2 hg hm pa_b hs hs2, (ea_cons ha (ea_cons hb ea_nil hs2) (by rw [hs, hs2])) H s _ fun vs N' H' g p1 => by
    obtain ⟨v, w, rfl, rfl, rfl⟩ := paired2 p1
    exact ⟨i, j, rfl, ⟨hi.1, hi.2, hj.1, hj.2⟩, q H' g.hh⟩⟩
/-- for over a range -/
theorem b_forR {lo : Int} {n : Nat} (hi : EvI X tg it σ N lo n) (s : Same N H) (J : Nat → L2.St → Hp → Hp → Prop) (h0 : ∀ H1, Same H H1 → J 0 σ N H1)
    (turn : ∀ i σ1 N1 H1, i < n → Same N N1 → Same N1 H1 → J i σ1 N1 H1 → g (.int (lo + i)) σ1 H1 fun σ2 H2 => bB X body { D with nx := fun σ3 H3 => ∃ N3, Same N N3 ∧ Same N3 H3 ∧ J (i + 1) σ3 N3 H3, ct := fun σ3 H3 => ∃ N3, Same N N3 ∧ Same N3 H3 ∧ J (i + 1) σ3 N3 H3, bk := bB X rest D } σ2 H2)
    (done : ∀ σ1 N1 H1, Same N N1 → Same N1 H1 → J n σ1 N1 H1 → bB X rest D σ1 H1)
    (hp : PassesOwn (model X.prog X.w) X.A X.env X.xe) (hc : X.calm = true) (hg : PG X tg g) (hs : ∀ x, foldedSetIterable it X.env x = pure x := by intro _; rfl) : bB X (.For tg it body [] pos :: rest) D σ H := by
  obtain ⟨wi, hpi, hw⟩ := hi H s (fun J' H1 => ∃ W : Nat → Nat → L2.St → Hp → Prop, (∃ m, W 0 m σ H1) ∧ ∀ i m σ H, W i m σ H →
    (J'.stop i H ∧ bB X rest D σ H) ∨ (J'.go i H ∧ ∃ N : L2.St → Hp → Prop, (∀ σ' H', N σ' H' → ∃ m', m' < m ∧ W (i + 1) m' σ' H') ∧ ∀ x H', J'.yld i H x H' → g x σ H' fun σ2 H2 => bB X body { D with nx := N, ct := N, bk := bB X rest D } σ2 H2))
    (fun H1 s1 => for_range (D := { D with nx := bB X rest D }) (fun i σ1 H1 => ∃ N1, Same N N1 ∧ Same N1 H1 ∧ J i σ1 N1 H1) ⟨N, Same.refl _, s.trans s1, h0 H1 s1⟩
      (fun i σ1 H1 hlt ⟨N1, s1, s2, j⟩ => turn i σ1 N1 H1 hlt s1 s2 j) fun σ1 H1 ⟨N1, s1, s2, j⟩ => done σ1 N1 H1 s1 s2 j)
  exact bB_of (t := tSeq (tFor wi g (bB X body)) (bB X rest)) (pss_cons (ps_for hp hc hpi hg pss_b hs) pss_b) hw
/-- for over range(i, j, -1) -/
theorem b_forDown {i j : Int} {e1 e2 e3 : Expr} (hm : X.mg "range" = none) (h1 : Ev X e1 σ N (I i)) (h2 : Ev X e2 σ N (I j)) (h3 : Ev X e3 σ N (I (-1))) (hi : -(2 ^ 62) ≤ i ∧ i < 2 ^ 62) (hj : -(2 ^ 62) ≤ j ∧ j < 2 ^ 62) (s : Same N H) (J : Nat → L2.St → Hp → Hp → Prop) (h0 : ∀ H1, Same H H1 → J 0 σ N H1)
    (turn : ∀ k σ1 N1 H1, k < (i - j).toNat → Same N N1 → Same N1 H1 → J k σ1 N1 H1 → g (.int (i - k)) σ1 H1 fun σ2 H2 => bB X body { D with nx := fun σ3 H3 => ∃ N3, Same N N3 ∧ Same N3 H3 ∧ J (k + 1) σ3 N3 H3, ct := fun σ3 H3 => ∃ N3, Same N N3 ∧ Same N3 H3 ∧ J (k + 1) σ3 N3 H3, bk := bB X rest D } σ2 H2)
    (done : ∀ σ1 N1 H1, Same N N1 → Same N1 H1 → J (i - j).toNat σ1 N1 H1 → bB X rest D σ1 H1)
    (hp : PassesOwn (model X.prog X.w) X.A X.env X.xe) (hc : X.calm = true) (hg : PG X tg g) (hgl : Gl X "range" := by rfl) (hse : starEach [e1, e2, e3] X.env = (false, eval e1 X.env) :: starEach [e2, e3] X.env := by rfl)
    (hse2 : starEach [e2, e3] X.env = (false, eval e2 X.env) :: starEach [e3] X.env := by rfl) (hse3 : starEach [e3] X.env = (false, eval e3 X.env) :: starEach [] X.env := by rfl) (hpl : (backTo p (starEach [e2, e3] X.env)).any (·.1) = false := by rfl)
    (hs : ∀ x, foldedSetIterable (.Call (.Name "range" px) [e1, e2, e3] [] p) X.env x = pure x := by intro _; rfl) : bB X (.For tg (.Call (.Name "range" px) [e1, e2, e3] [] p) body [] pos :: rest) D σ H := by
  refine bB_of (t := tSeq (tFor (iRng3 (bA X [e1, e2, e3])) g (bB X body)) (bB X rest)) (pss_cons (ps_for hp hc (pi_range3 hgl hm pa_b hse hpl) hg pss_b hs) pss_b) ?_
  refine (ea_cons h1 (ea_cons h2 (ea_cons h3 ea_nil hse3) hse2) hse) H s _ fun vs N' H' gr p1 => ?_
  obtain ⟨u, v, w, rfl, rfl, rfl, rfl⟩ := paired3 p1
  refine ⟨i, j, -1, (i - j).toNat, rfl, RgC.neg hi.1 hi.2 hj.1 hj.2, for_rangeC (fun k σ1 H1 => ∃ N1, Same N N1 ∧ Same N1 H1 ∧ J k σ1 N1 H1) ⟨N, Same.refl _, s.trans gr.hh, h0 H' gr.hh⟩ (fun k σ1 H1 hlt ⟨N1, s1, s2, jj⟩ => ?_) fun σ1 H1 ⟨N1, s1, s2, jj⟩ => done σ1 N1 H1 s1 s2 jj⟩
  have e : i + (k : Nat) * (-1 : Int) = i - k := by omega
  rw [e]
  exact turn k σ1 N1 H1 hlt s1 s2 jj
/-- for i, v in enumerate(list) -/
theorem b_forE {α : Type} {R : α → VP} {l : List α} {i1 i2 : Nat} {t1 t2 : Expr} {kk : Nat} (hm : X.mg "enumerate" = none) (h : Ev X a σ N (isL R l)) (s : Same N H) (J : Hp → Nat → L2.St → Hp → Hp → Prop)
    (h0 : ∀ N0 H1, Grow N H N0 H1 → J N0 0 σ N0 H1)
    (turn : ∀ N0 i y v σ1 N1 H1, Same N N0 → l[i]? = some y → Same N0 N1 → Same N1 H1 → J N0 i σ1 N1 H1 → (R y).p v N0 → ∀ H2, Same H1 H2 → bB X body { D with nx := fun σ3 H3 => ∃ N3, Same N0 N3 ∧ Same N3 H3 ∧ J N0 (i + 1) σ3 N3 H3, ct := fun σ3 H3 => ∃ N3, Same N0 N3 ∧ Same N3 H3 ∧ J N0 (i + 1) σ3 N3 H3, bk := bB X rest D } ((σ1.set i1 (some (.int (i : Nat)))).set i2 (some v)) H2)
    (done : ∀ N0 σ1 N1 H1, Same N N0 → Same N0 N1 → Same N1 H1 → J N0 l.length σ1 N1 H1 → bB X rest D σ1 H1)
    (hp : PassesOwn (model X.prog X.w) X.A X.env X.xe) (hc : X.calm = true) (hg : PG X (.Tuple [t1, t2] kk px) (gTup X.K 2 (gCons (gName i1) (gCons (gName i2) gNil)))) (hgl : Gl X "enumerate" := by rfl) (hse : starEach [a] X.env = [(false, eval a X.env)] := by rfl)
    (hs : ∀ x, foldedSetIterable (.Call (.Name "enumerate" p) [a] [] pos) X.env x = pure x := by intro _; rfl) {pos2 : Pos} : bB X (.For (.Tuple [t1, t2] kk px) (.Call (.Name "enumerate" p) [a] [] pos) body [] pos2 :: rest) D σ H := by
  refine bB_of (t := tSeq (tFor (iEnum X.K (bA X [a])) _ (bB X body)) (bB X rest)) (pss_cons (ps_for hp hc (pi_enum hgl hm pa_b hse) hg pss_b hs) pss_b) ?_
  refine (ea_cons h ea_nil hse) H s _ fun vs N0 H1 g1 p1 => ?_
  obtain ⟨v, rfl, ad, xs, rfl, hc, pr⟩ := paired1 p1
  refine ⟨ad, xs, rfl, SqL.of (g1.nh _ _ hc), for_it (walk_enum (K := X.K) (a := ad) (xs := xs)) (fun i σ1 H1 => ∃ N1, Same N0 N1 ∧ Same N1 H1 ∧ J N0 i σ1 N1 H1) ⟨N0, Same.refl _, g1.nh, h0 N0 H1 g1⟩ (fun i σ1 H1 _ ⟨N1, s1, s2, _⟩ => SqL.of (s2 _ _ (s1 _ _ hc))) ?_ ?_⟩
  · rintro i v σ1 H1 H2 hlt ⟨N1, s1, s2, j⟩ ⟨T, u, w, rfl, nT, rfl, hu, hw⟩
    have hlt' : i < l.length := by rw [← paired_len pr]; exact hlt
    obtain ⟨z, hz, pz⟩ := paired_get pr (List.getElem?_eq_getElem hlt')
    have hw : xs[i]? = some w := hw
    rw [hz] at hw
    cases hw
    have hu : some (V.int (i : Nat)) = some u := hu
    cases hu
    exact ⟨T, _, rfl, SqT.of upd_same, rfl, _, _, rfl, _, _, rfl, rfl, turn N0 i _ _ σ1 N1 H1 g1.nn (List.getElem?_eq_getElem hlt') s1 s2 j pz _ (same_new nT)⟩
  · rintro σ1 H1 ⟨N1, s1, s2, j⟩
    rw [paired_len pr] at j
    exact done N0 σ1 N1 H1 g1.nn s1 s2 j
/-! ### comprehensions -/
/-- of a comprehension's block -/
def EvC (X : Cx) (scope : Scope) (e : Expr) (σ : L2.St) (N : Hp) (P : VP) : Prop := ∀ (s0 : Shared) (H0 : Hp) (C : Addr) (cl : List (Str × Addr)) (fp : List Addr), Ev (X.blk s0 H0 scope (compEnvC scope cl C X.env) fp) e σ N P
def EvTC (X : Cx) (scope : Scope) (e : Expr) (σ : L2.St) (N : Hp) (c : Bool) : Prop := ∀ (s0 : Shared) (H0 : Hp) (C : Addr) (cl : List (Str × Addr)) (fp : List Addr), EvT (X.blk s0 H0 scope (compEnvC scope cl C X.env) fp) e σ N c
def cE (X : Cx) (scope : Scope) (e : Expr) : TE := fun σ H Q => ∀ (s0 : Shared) (H0 : Hp) (C : Addr) (cl : List (Str × Addr)) (fp : List Addr), bE (X.blk s0 H0 scope (compEnvC scope cl C X.env) fp) e σ H Q
def cT (X : Cx) (scope : Scope) (e : Expr) : TT := fun σ H Q => ∀ (s0 : Shared) (H0 : Hp) (C : Addr) (cl : List (Str × Addr)) (fp : List Addr), bT (X.blk s0 H0 scope (compEnvC scope cl C X.env) fp) e σ H Q
theorem pe_c {scope : Scope} (s0 : Shared) (H0 : Hp) (C : Addr) (cl : List (Str × Addr)) (fp : List Addr) : PE (X.blk s0 H0 scope (compEnvC scope cl C X.env) fp) e (cE X scope e) := ⟨fun pins s _ _ _ I h => bE_in.mp (h s0 H0 C cl fp) pins s I⟩
theorem pt_c {scope : Scope} (s0 : Shared) (H0 : Hp) (C : Addr) (cl : List (Str × Addr)) (fp : List Addr) : PT (X.blk s0 H0 scope (compEnvC scope cl C X.env) fp) e (cT X scope e) := ⟨fun pins s _ _ _ I h => bT_in.mp (h s0 H0 C cl fp) pins s I⟩
/-- the tests of a clause: none, or one -/
def tts (X : Cx) (scope : Scope) : List Expr → TT
  | [] => tYes
  | c :: _ => cT X scope c
theorem pts_c {scope : Scope} {ifs : List Expr} (hl : ifs.length ≤ 1) (s0 : Shared) (H0 : Hp) (C : Addr) (cl : List (Str × Addr)) (fp : List Addr) : PTs (X.blk s0 H0 scope (compEnvC scope cl C X.env) fp) ifs (tts X scope ifs) := by
  match ifs, hl with
  | [], _ => exact pts_nil
  | [c], _ => exact pts_one (pt_c s0 H0 C cl fp)
def EvIfs (X : Cx) (scope : Scope) (ifs : List Expr) (σ : L2.St) (N : Hp) (c : Bool) : Prop := ∀ H, Same N H → ∀ Q : Bool → Hp → Prop, (∀ H', Same H H' → Q c H') → tts X scope ifs σ H Q
theorem ifs_nil {scope : Scope} : EvIfs X scope [] σ N true := fun H s Q q => q H (Same.refl _)
theorem ifs_one {scope : Scope} {t : Bool} (h : EvTC X scope c σ N t) : EvIfs X scope [c] σ N t := fun H s Q q s0 H0 C cl fp => h s0 H0 C cl fp H s Q q
theorem wipe_set {j : Nat} {v : V} : wipe ((wipe σ [j]).set j (some v)) [j] = wipe σ [j] := by
  show ((σ.set j none).set j (some v)).set j none = σ.set j none
  rw [List.set_set, List.set_set]
theorem take_more {α : Type} {l : List α} {i : Nat} {y : α} (h : l[i]? = some y) : l.take (i + 1) = l.take i ++ [y] := by
  rw [List.take_add_one, h]; rfl
/-- one turn of a comprehension -/
theorem lc_turn {β : Type} {S : β → VP} {scope : Scope} {ifs : List Expr} {N0 N1 H1 Hs : Hp} {D : Addr} {acc : List V} {out : List β} {t : Bool} {z : β} (nD : N1 D = none) (s01 : Same N0 N1) (s1 : Same N1 H1) (hD : H1 D = some (.lst acc)) (pr : Paired (fun v y => (S y).p v N1) acc out) (hz : out.length < 1000000)
    (nw : ∀ b, N0 b = none → Hs b ≠ none → N1 b = none) (hs : Same Hs H1) (nDs : Hs D = none)
    (ht : EvIfs X scope ifs σ N1 t) (he : t = true → EvC X scope elt σ N1 (S z)) (k : ∀ N2 H2 acc', Same N1 N2 → N2 D = none → Same N2 H2 → Same Hs H2 → H2 D = some (.lst acc') → Paired (fun v y => (S y).p v N2) acc' (if t = true then out ++ [z] else out) → (∀ b, N0 b = none → Hs b ≠ none → N2 b = none) → P.p (.ref D) H2 → True) {Pv : Hp → Prop}
    (fin : ∀ N2 H2 acc', Same N1 N2 → N2 D = none → Same N2 H2 → Same Hs H2 → H2 D = some (.lst acc') → Paired (fun v y => (S y).p v N2) acc' (if t = true then out ++ [z] else out) → (∀ b, N0 b = none → Hs b ≠ none → N2 b = none) → Pv H2) :
    tts X scope ifs σ H1 fun b H3 => if b = true then cE X scope elt σ H3 fun y H4 => ∃ acc, H4 D = some (.lst acc) ∧ acc.length < sizeLine ∧ Pv (upd H4 D (.lst (acc ++ [y]))) else Pv H3 := by
  refine ht H1 s1 _ fun H3 s3 => ?_
  cases t with
  | false =>
    rw [if_neg (by decide)]
    exact fin N1 H3 acc (Same.refl _) nD (s1.trans s3) (hs.trans s3) (s3 _ _ hD) (by simpa using pr) nw
  | true =>
    rw [if_pos rfl]
    intro s0 H0 C cl fp
    refine he rfl s0 H0 C cl fp H3 (s1.trans s3) _ fun y N4 H4 g p => ?_
    have hD4 : H4 D = some (.lst acc) := g.hh _ _ (s3 _ _ hD)
    have nD4 : N4 D = none := g.nw D nD (by rw [s3 _ _ hD]; simp)
    refine ⟨acc, hD4, sz_lt (by rw [paired_len pr]; exact hz), fin N4 _ (acc ++ [y]) g.nn nD4 (fun b o e => ?_) (fun b o e => ?_) upd_same ?_ (fun b hb hk => ?_)⟩
    · rw [upd_ne (ne_of_none e nD4)]; exact g.nh b o e
    · rw [upd_ne (ne_of_none e nDs)]; exact g.hh _ _ (s3 _ _ (hs _ _ e))
    · rw [if_pos rfl]
      exact paired_app (paired_mono pr fun v y h => (S y).mono g.nn h) (.cons p .nil)
    · refine g.nw b (nw b hb hk) fun z => ?_
      cases q : Hs b with
      | none => exact hk q
      | some o => rw [s3 _ _ (hs b o q)] at z; cases z
theorem tLc_L {α β : Type} {R : α → VP} {S : β → VP} {l : List α} {f : α → β} {t : α → Bool} {j : Nat} {scope : Scope} {ifs : List Expr} (hi : Ev X it σ N (isL R l)) (hz : l.length < 1000000)
    (hb : ∀ y v N1, Same N N1 → y ∈ l → (R y).p v N1 → EvIfs X scope ifs (σ.set j (some v)) N1 (t y) ∧ (t y = true → EvC X scope elt (σ.set j (some v)) N1 (S (f y)))) {H : Hp} (s : Same N H) {Q : VK}
    (q : ∀ v N' H', Grow N H N' H' → (isL S ((l.filter t).map f)).p v N' → Q v H') : tLc (iList X.K (bE X it)) (gName j) (tts X scope ifs) (cE X scope elt) (List.map (fun z : Str × Nat => z.2) [(x, j)]) σ H Q := by
  refine hi H s _ fun y N0 H1 g1 p1 => ?_
  obtain ⟨ad, xs, rfl, ha, pr⟩ := p1
  refine ⟨ad, rfl, ⟨xs, SqL.of (g1.nh _ _ ha)⟩, fun D hD => lc_list (K := X.K) (a := ad) (xs := xs) (fun i H' => ∃ N1 acc, Same N0 N1 ∧ N1 D = none ∧ Same N1 H' ∧ Same H1 H' ∧ H' D = some (.lst acc) ∧ Paired (fun v y => (S y).p v N1) acc (((l.take i).filter t).map f) ∧ ∀ b, N0 b = none → H1 b ≠ none → N1 b = none)
    ⟨N0, [], Same.refl _, g1.nh.free hD, g1.nh.trans (same_new hD), same_new hD, upd_same, by simp; exact .nil, fun b hb _ => hb⟩ (fun i H' _ ⟨N1, acc, s01, _, s1, _⟩ => SqL.of (s1 _ _ (s01 _ _ ha))) ?_ ?_⟩
  · rintro i v H' hi ⟨N1, acc, s01, nD, s1, sH, hD', pr', nw⟩
    have hlt : i < xs.length := (List.getElem?_eq_some_iff.mp hi).1
    have hlt' : i < l.length := by rw [← paired_len pr]; exact hlt
    obtain ⟨z, hz', pz⟩ := paired_get pr (List.getElem?_eq_getElem hlt')
    rw [hi] at hz'
    cases hz'
    obtain ⟨ht, he⟩ := hb (l[i]) v N1 (g1.nn.trans s01) (List.getElem_mem hlt') ((R _).mono s01 pz)
    have e2 : (wipe σ (List.map (fun z : Str × Nat => z.2) [(x, j)])).set j (some v) = σ.set j (some v) := by
      show (σ.set j none).set j (some v) = σ.set j (some v)
      rw [List.set_set]
    refine ⟨wipe_set, ?_⟩
    rw [e2]
    have out : (((l.take (i + 1)).filter t).map f) = if t l[i] = true then (((l.take i).filter t).map f) ++ [f l[i]] else (((l.take i).filter t).map f) := by
      rw [take_more (List.getElem?_eq_getElem hlt'), List.filter_append, List.map_append]
      by_cases h : t l[i] = true
      · rw [if_pos h]; simp [h]
      · rw [if_neg h]; simp [h]
    refine lc_turn (P := N_) (z := f l[i]) (Hs := H1) nD s01 s1 hD' pr' (Nat.lt_of_le_of_lt ?_ hz) nw sH hD ht he (fun _ _ _ _ _ _ _ _ _ _ _ => trivial) fun N2 H2 acc' s12 n2 s2 h12 hd2 pr2 nw2 => ⟨N2, acc', s01.trans s12, n2, s2, h12, hd2, by rw [out]; exact pr2, nw2⟩
    rw [List.length_map]
    refine Nat.le_trans (List.length_filter_le _ _) ?_
    rw [List.length_take]
    exact Nat.min_le_right _ _
  · rintro H' ⟨N1, acc, s01, nD, s1, sH, hD', pr', nw⟩
    rw [paired_len pr, List.take_length] at pr'
    refine q _ (upd N1 D (.lst acc)) H' (g1.trans ⟨sH, s01.trans (same_new nD), fun b o e => ?_, fun b hb hk => ?_⟩) ⟨D, acc, rfl, upd_same, paired_mono pr' fun v y h => (S y).mono (same_new nD) h⟩
    · by_cases hb : b = D
      · subst hb; rw [upd_same] at e; cases e; exact hD'
      · rw [upd_ne hb] at e; exact s1 b o e
    · rw [upd_ne (fun z => hk (by rw [z]; exact hD))]
      exact nw b hb hk
theorem ev_lcL {α β : Type} {R : α → VP} {S : β → VP} {l : List α} {f : α → β} {t : α → Bool} {j : Nat} {scope : Scope} {ifs : List Expr} (hi : Ev X it σ N (isL R l)) (hz : l.length < 1000000)
    (hb : ∀ y v N1, Same N N1 → y ∈ l → (R y).p v N1 → EvIfs X scope ifs (σ.set j (some v)) N1 (t y) ∧ (t y = true → EvC X scope elt (σ.set j (some v)) N1 (S (f y))))
    (hc : X.calm = true) (nd : X.N.Nodup) (ok : BlkOk X.N X.env.scope scope [(x, j)]) (hg : ∀ (s0 : Shared) (H0 : Hp) (C : Addr) (cl : List (Str × Addr)) (fp : List Addr), PG (X.blk s0 H0 scope (compEnvC scope cl C X.env) fp) tg (gName j))
    (hl : ifs.length ≤ 1 := by exact Nat.le_of_ble_eq_true rfl) (hs : ∀ x, foldedSetIterable it X.env x = pure x := by intro _; rfl) : Ev X (.ListComp elt [⟨tg, it, ifs, 0⟩] scope pos) σ N (isL S ((l.filter t).map f)) :=
  ev_pe (pe_lc (own := [(x, j)]) (g := gName j) (tt := tts X scope ifs) (te := cE X scope elt) hc nd (pi_list pe_b) ok hg (pts_c hl) pe_c hs) fun H s Q q => tLc_L hi hz hb s q
/-- name = such a comprehension -/
theorem w_lcL {α β : Type} {R : α → VP} {S : β → VP} {l : List α} {f : α → β} {t : α → Bool} {i j : Nat} {y : Str} {scope : Scope} {ifs : List Expr} {N0 H0 : Hp} {py spos : Pos} (g : Grow N0 H0 N H) (hi : Ev X it σ N (isL R l)) (hz : l.length < 1000000)
    (hb : ∀ y v N1, Same N N1 → y ∈ l → (R y).p v N1 → EvIfs X scope ifs (σ.set j (some v)) N1 (t y) ∧ (t y = true → EvC X scope elt (σ.set j (some v)) N1 (S (f y))))
    (k : ∀ v N' H', Grow N0 H0 N' H' → Same N N' → (isL S ((l.filter t).map f)).p v N' → bB X rest D (σ.set i (some v)) H')
    (hc : X.calm = true) (nd : X.N.Nodup) (ok : BlkOk X.N X.env.scope scope [(x, j)]) (hg : ∀ (s0 : Shared) (H0 : Hp) (C : Addr) (cl : List (Str × Addr)) (fp : List Addr), PG (X.blk s0 H0 scope (compEnvC scope cl C X.env) fp) tg (gName j))
    (hsw : swapsWith (.ListComp elt [⟨tg, it, ifs, 0⟩] scope pos) (some (.Name y py)) spos.line X.env = pure true) (hy : X.N[i]? = some y := by rfl) (hyl : X.env.scope.names.lookup y = some .local := by rfl)
    (hl : ifs.length ≤ 1 := by exact Nat.le_of_ble_eq_true rfl) (hs : ∀ x, foldedSetIterable it X.env x = pure x := by intro _; rfl) : bB X (.Assign [.Name y py] (.ListComp elt [⟨tg, it, ifs, 0⟩] scope pos) spos :: rest) D σ H :=
  bB_of (pss_cons (ps_setLc (own := [(x, j)]) (g := gName j) (tt := tts X scope ifs) (te := cE X scope elt) hc nd hy hyl hsw (pi_list pe_b) ok hg (pts_c hl) pe_c hs) pss_b) (tLc_L hi hz hb g.nh fun v N1 H1 g1 p => k v N1 H1 (g.trans g1) g1.nn p)
theorem tLc_R {β : Type} {S : β → VP} {f : Nat → β} {t : Nat → Bool} {j : Nat} {scope : Scope} {ifs : List Expr} {lo : Int} {n : Nat} (hi : EvI X tg it σ N lo n) (hz : n < 1000000)
    (hb : ∀ i N1, Same N N1 → i < n → EvIfs X scope ifs (σ.set j (some (.int (lo + i)))) N1 (t i) ∧ (t i = true → EvC X scope elt (σ.set j (some (.int (lo + i)))) N1 (S (f i)))) {H : Hp} (s : Same N H) {Q : VK}
    (q : ∀ v N' H', Grow N H N' H' → (isL S (((List.range n).filter t).map f)).p v N' → Q v H') : ∃ wi, PI X tg it wi ∧ tLc wi (gName j) (tts X scope ifs) (cE X scope elt) (List.map (fun z : Str × Nat => z.2) [(x, j)]) σ H Q := by
  have hR : ∀ H1, Same H H1 → (fun J H1 => ∀ D, H1 D = none → ∃ W : Nat → Nat → Hp → Prop, (∃ m, W 0 m (upd H1 D (.lst []))) ∧ ∀ i m H, W i m H →
    (J.stop i H ∧ Q (.ref D) H) ∨ (J.go i H ∧ ∃ Nx : Hp → Prop, (∀ H', Nx H' → ∃ m', m' < m ∧ W (i + 1) m' H') ∧ ∀ x H', J.yld i H x H' → gName j x (wipe σ [j]) H' fun σ2 H2 => wipe σ2 [j] = wipe σ [j] ∧ tts X scope ifs σ2 H2 fun b H3 =>
      if b = true then cE X scope elt σ2 H3 fun y H4 => ∃ acc, H4 D = some (.lst acc) ∧ acc.length < sizeLine ∧ Nx (upd H4 D (.lst (acc ++ [y]))) else Nx H3)) (Itr lo n) H1 := by
    intro H1 sH0 D hD
    refine lc_range (lo := lo) (n := n) (fun i H' => ∃ N1 acc, Same N N1 ∧ N1 D = none ∧ Same N1 H' ∧ Same H1 H' ∧ H' D = some (.lst acc) ∧ Paired (fun v y => (S y).p v N1) acc (((List.range i).filter t).map f) ∧ ∀ b, N b = none → H1 b ≠ none → N1 b = none)
      ⟨N, [], Same.refl _, (s.trans sH0).free hD, (s.trans sH0).trans (same_new hD), same_new hD, upd_same, by simp; exact .nil, fun b hb _ => hb⟩ ?_ ?_
    · rintro i H' hlt ⟨N1, acc, s01, nD, s1, sH, hD', pr', nw⟩
      obtain ⟨ht, he⟩ := hb i N1 s01 hlt
      have e2 : (wipe σ [j]).set j (some (V.int (lo + i))) = σ.set j (some (V.int (lo + i))) := by
        show (σ.set j none).set j (some (V.int (lo + i))) = σ.set j (some (V.int (lo + i)))
        rw [List.set_set]
      refine ⟨wipe_set, ?_⟩
      rw [e2]
      have out : (((List.range (i + 1)).filter t).map f) = if t i = true then (((List.range i).filter t).map f) ++ [f i] else (((List.range i).filter t).map f) := by
        rw [List.range_succ, List.filter_append, List.map_append]
        by_cases h : t i = true
        · rw [if_pos h]; simp [h]
        · rw [if_neg h]; simp [h]
      refine lc_turn (P := N_) (z := f i) (Hs := H1) nD s01 s1 hD' pr' (Nat.lt_of_le_of_lt ?_ hz) nw sH hD ht he (fun _ _ _ _ _ _ _ _ _ _ _ => trivial) fun N2 H2 acc' s12 n2 s2 h12 hd2 pr2 nw2 => ⟨N2, acc', s01.trans s12, n2, s2, h12, hd2, by rw [out]; exact pr2, nw2⟩
      rw [List.length_map]
      refine Nat.le_trans (List.length_filter_le _ _) ?_
      rw [List.length_range]
      exact Nat.le_of_lt hlt
    · rintro H' ⟨N1, acc, s01, nD, s1, sH, hD', pr', nw⟩
      refine q _ (upd N1 D (.lst acc)) H' (Grow.trans (.keep s sH0) ⟨sH, s01.trans (same_new nD), fun b o e => ?_, fun b hb hk => ?_⟩) ⟨D, acc, rfl, upd_same, paired_mono pr' fun v y h => (S y).mono (same_new nD) h⟩
      · by_cases hb : b = D
        · subst hb; rw [upd_same] at e; cases e; exact hD'
        · rw [upd_ne hb] at e; exact s1 b o e
      · rw [upd_ne (fun z => hk (by rw [z]; exact hD))]
        exact nw b hb hk
  obtain ⟨wi, hpi, hw⟩ := hi H s (fun J H1 => ∀ D, H1 D = none → ∃ W : Nat → Nat → Hp → Prop, (∃ m, W 0 m (upd H1 D (.lst []))) ∧ ∀ i m H, W i m H →
    (J.stop i H ∧ Q (.ref D) H) ∨ (J.go i H ∧ ∃ Nx : Hp → Prop, (∀ H', Nx H' → ∃ m', m' < m ∧ W (i + 1) m' H') ∧ ∀ x H', J.yld i H x H' → gName j x (wipe σ [j]) H' fun σ2 H2 => wipe σ2 [j] = wipe σ [j] ∧ tts X scope ifs σ2 H2 fun b H3 =>
      if b = true then cE X scope elt σ2 H3 fun y H4 => ∃ acc, H4 D = some (.lst acc) ∧ acc.length < sizeLine ∧ Nx (upd H4 D (.lst (acc ++ [y]))) else Nx H3)) hR
  exact ⟨wi, hpi, hw⟩
theorem ev_lcR {β : Type} {S : β → VP} {f : Nat → β} {t : Nat → Bool} {j : Nat} {scope : Scope} {ifs : List Expr} {lo : Int} {n : Nat} (hi : EvI X tg it σ N lo n) (hz : n < 1000000)
    (hb : ∀ i N1, Same N N1 → i < n → EvIfs X scope ifs (σ.set j (some (.int (lo + i)))) N1 (t i) ∧ (t i = true → EvC X scope elt (σ.set j (some (.int (lo + i)))) N1 (S (f i))))
    (hc : X.calm = true) (nd : X.N.Nodup) (ok : BlkOk X.N X.env.scope scope [(x, j)]) (hg : ∀ (s0 : Shared) (H0 : Hp) (C : Addr) (cl : List (Str × Addr)) (fp : List Addr), PG (X.blk s0 H0 scope (compEnvC scope cl C X.env) fp) tg (gName j))
    (hl : ifs.length ≤ 1 := by exact Nat.le_of_ble_eq_true rfl) (hs : ∀ x, foldedSetIterable it X.env x = pure x := by intro _; rfl) : Ev X (.ListComp elt [⟨tg, it, ifs, 0⟩] scope pos) σ N (isL S (((List.range n).filter t).map f)) := by
  intro H s Q q
  obtain ⟨wi, hpi, hw⟩ := tLc_R (x := x) hi hz hb s q
  exact bE_of (pe_lc (own := [(x, j)]) (g := gName j) (tt := tts X scope ifs) (te := cE X scope elt) hc nd hpi ok hg (pts_c hl) pe_c hs) hw
theorem w_lcR {β : Type} {S : β → VP} {f : Nat → β} {t : Nat → Bool} {i j : Nat} {y : Str} {scope : Scope} {ifs : List Expr} {lo : Int} {n : Nat} {N0 H0 : Hp} {py spos : Pos} (g : Grow N0 H0 N H) (hi : EvI X tg it σ N lo n) (hz : n < 1000000)
    (hb : ∀ i N1, Same N N1 → i < n → EvIfs X scope ifs (σ.set j (some (.int (lo + i)))) N1 (t i) ∧ (t i = true → EvC X scope elt (σ.set j (some (.int (lo + i)))) N1 (S (f i))))
    (k : ∀ v N' H', Grow N0 H0 N' H' → Same N N' → (isL S (((List.range n).filter t).map f)).p v N' → bB X rest D (σ.set i (some v)) H')
    (hc : X.calm = true) (nd : X.N.Nodup) (ok : BlkOk X.N X.env.scope scope [(x, j)]) (hg : ∀ (s0 : Shared) (H0 : Hp) (C : Addr) (cl : List (Str × Addr)) (fp : List Addr), PG (X.blk s0 H0 scope (compEnvC scope cl C X.env) fp) tg (gName j))
    (hsw : swapsWith (.ListComp elt [⟨tg, it, ifs, 0⟩] scope pos) (some (.Name y py)) spos.line X.env = pure true) (hy : X.N[i]? = some y := by rfl) (hyl : X.env.scope.names.lookup y = some .local := by rfl)
    (hl : ifs.length ≤ 1 := by exact Nat.le_of_ble_eq_true rfl) (hs : ∀ x, foldedSetIterable it X.env x = pure x := by intro _; rfl) : bB X (.Assign [.Name y py] (.ListComp elt [⟨tg, it, ifs, 0⟩] scope pos) spos :: rest) D σ H := by
  obtain ⟨wi, hpi, hw⟩ := tLc_R (x := x) (H := H) (Q := fun v H' => bB X rest D (σ.set i (some v)) H') hi hz hb g.nh (fun v N1 H1 g1 p => k v N1 H1 (g.trans g1) g1.nn p)
  exact bB_of (pss_cons (ps_setLc (own := [(x, j)]) (g := gName j) (tt := tts X scope ifs) (te := cE X scope elt) hc nd hy hyl hsw hpi ok hg (pts_c hl) pe_c hs) pss_b) hw
/-- list(range(n)) -/
theorem ev_listR {n : Nat} {pr pl : Pos} (hc : X.calm = true) (hm : X.mg "range" = none) (hml : X.mg "list" = none) (hn : n ≤ 1000000) (ha : Ev X a σ N (I (n : Int))) (hg : Gl X "range" := by rfl) (hgl : Gl X "list" := by rfl) (na : starEach [a] X.env = (false, eval a X.env) :: starEach [] X.env := by rfl)
    (nb : starEach [.Call (.Name "range" pr) [a] [] p] X.env = (false, eval (.Call (.Name "range" pr) [a] [] p) X.env) :: starEach [] X.env := by rfl) : Ev X (.Call (.Name "list" pl) [.Call (.Name "range" pr) [a] [] p] [] pos) σ N (isL (fun k : Nat => I (k : Int)) (List.range n)) :=
  ev_pe (pe_listRg hc hgl hml (prg_1 hg hm pe_b na) nb) fun H s Q q => ha H s _ fun v N1 H1 g1 p1 => by
    cases p1
    refine ⟨n, rfl, ⟨by decide, by decide, by omega, by omega, by omega⟩, fun l hl => q _ _ _ (g1.trans (.new g1.nh hl)) ⟨l, _, rfl, upd_same, ?_⟩⟩
    unfold rgV
    have e : ((n : Int) - 0).toNat = n := by omega
    rw [e]
    have : ∀ (l : List Nat) (H : Hp), Paired (fun v (y : Nat) => (I (y : Int)).p v H) (l.map fun i => V.int (0 + (i : Nat))) l := by
      intro l H
      induction l with
      | nil => exact .nil
      | cons x r ih => exact .cons (by show V.int (0 + (x : Nat)) = V.int x; rw [Int.zero_add]) ih
    exact this _ _
end
end PB
namespace PB
open PySem PySem.Spec PyProof.Rows L2
/-! ### statements along a growing heap -/
section
variable {X : Cx} {e c : Expr} {pos pos' : Pos} {σ : L2.St} {N0 H0 N H : Hp} {x : Str} {P P' : VP} {rest as bs : List Stmt} {D : Ends} {t : Bool}
theorem Grow.more {H' : Hp} (g : Grow N0 H0 N H) (s : Same H H') : Grow N0 H0 N H' := g.trans (.keep g.nh s)
theorem w_ret (g : Grow N0 H0 N H) (h : Ev X e σ N P) (k : ∀ v H', (∃ N', Grow N0 H0 N' H' ∧ P.p v N') → D.rt v H') : bB X (.Return (some e) pos :: rest) D σ H :=
  b_ret h g.nh fun v N1 H1 g1 p => k v H1 ⟨N1, g.trans g1, p⟩
/-- the def's own end -/
theorem w_end {nx : L2.St → Hp → Prop} {bk ct : L2.St → Hp → Prop} (g : Grow N0 H0 N H) (h : Ev X e σ N P) (hP : P = P' := by rfl) : bB X (.Return (some e) pos :: rest) { nx := nx, rt := fun v H' => ∃ N', Grow N0 H0 N' H' ∧ P'.p v N', bk := bk, ct := ct } σ H :=
  w_ret g h fun v H' z => hP ▸ z
theorem w_if (g : Grow N0 H0 N H) (h : EvT X c σ N t) (k1 : t = true → ∀ H', Grow N0 H0 N H' → bB X as { D with nx := bB X rest D } σ H') (k2 : t = false → ∀ H', Grow N0 H0 N H' → bB X bs { D with nx := bB X rest D } σ H') : bB X (.If c as bs pos :: rest) D σ H :=
  b_if h g.nh (fun z H' s => k1 z H' (g.more s)) fun z H' s => k2 z H' (g.more s)
theorem w_when (g : Grow N0 H0 N H) (h : EvT X c σ N t) (k1 : t = true → ∀ H', Grow N0 H0 N H' → bB X as { D with nx := bB X rest D } σ H') (k2 : t = false → ∀ H', Grow N0 H0 N H' → bB X rest D σ H') : bB X (.If c as [] pos :: rest) D σ H :=
  b_when h g.nh (fun z H' s => k1 z H' (g.more s)) fun z H' s => k2 z H' (g.more s)
theorem w_asg {i : Nat} (g : Grow N0 H0 N H) (h : Ev X e σ N P) (k : ∀ v N' H', Grow N0 H0 N' H' → Same N N' → P.p v N' → bB X rest D (σ.set i (some v)) H') (nd : X.N.Nodup) (hi : X.N[i]? = some x := by rfl) (hx : Loc X.env.scope x := by first | exact Or.inl rfl | exact Or.inr rfl)
    (hs : swapsWith e (some (.Name x pos')) pos.line X.env = pure false := by rfl) (hf : X.fn x = true ∨ X.env.scope.names.lookup x = some .local := by first | exact .inl rfl | exact .inr rfl) : bB X (.Assign [.Name x pos'] e pos :: rest) D σ H :=
  b_asg h g.nh (fun v N1 H1 g1 p => k v N1 H1 (g.trans g1) g1.nn p) nd hi hx hs hf
theorem w_asgV {i : Nat} {v : V} (g : Grow N0 H0 N H) (h : Ev X e σ N (is v)) (k : ∀ H', Grow N0 H0 N H' → bB X rest D (σ.set i (some v)) H') (nd : X.N.Nodup) (hi : X.N[i]? = some x := by rfl) (hx : Loc X.env.scope x := by first | exact Or.inl rfl | exact Or.inr rfl)
    (hs : swapsWith e (some (.Name x pos')) pos.line X.env = pure false := by rfl) (hf : X.fn x = true ∨ X.env.scope.names.lookup x = some .local := by first | exact .inl rfl | exact .inr rfl) : bB X (.Assign [.Name x pos'] e pos :: rest) D σ H :=
  b_asgV h g.nh (fun H1 s => k H1 (g.more s)) nd hi hx hs hf
/-- a new list that is going to change: it stays outside the known part -/
theorem w_asgM {i : Nat} (g : Grow N0 H0 N H) (k : ∀ l H', H l = none → H' = upd H l (.lst []) → Grow N0 H0 N H' → N l = none → H' l = some (.lst []) → bB X rest D (σ.set i (some (.ref l))) H') (nd : X.N.Nodup) (hi : X.N[i]? = some x := by rfl) (hx : Loc X.env.scope x := by first | exact Or.inl rfl | exact Or.inr rfl)
    (hf : X.fn x = true ∨ X.env.scope.names.lookup x = some .local := by first | exact .inl rfl | exact .inr rfl) {pp pl : Pos} (hs' : swapsWith (.List [] pl) (some (.Name x pp)) pos.line X.env = pure false := by rfl) : bB X (.Assign [.Name x pp] (.List [] pl) pos :: rest) D σ H :=
  bB_of (pss_cons (ps_set nd hi hx (pe_lst pa_nil) hs' hf) pss_b) ⟨sz_le (by decide), fun l hl => k l _ hl rfl (g.more (same_new hl)) (g.nh.free hl) upd_same⟩
end
/-- what changes at l alone, l not in the known part and new since the start -/
theorem Grow.at_ {N0 H0 N H H' : Hp} {l : Addr} (g : Grow N0 H0 N H) (hl : N l = none) (h0 : H0 l = none) (k : ∀ b o, b ≠ l → H b = some o → H' b = some o) : Grow N0 H0 N H' :=
  ⟨fun b o e => k b o (ne_of_none e h0) (g.hh b o e), g.nn, fun b o e => k b o (ne_of_none e hl) (g.nh b o e), g.nw⟩
theorem Grow.put {N0 H0 N H : Hp} {l : Addr} {o : HO} (g : Grow N0 H0 N H) (hl : N l = none) (h0 : H0 l = none) : Grow N0 H0 N (upd H l o) := g.at_ hl h0 fun b u hb e => by rw [upd_ne hb]; exact e
/-- from now on l is known -/
theorem Grow.fix {N0 H0 N H : Hp} {l : Addr} {o : HO} (g : Grow N0 H0 N H) (hl : N l = none) (h0 : H0 l = none) (e : H l = some o) : Grow N0 H0 (upd N l o) H :=
  ⟨g.hh, g.nn.trans (same_new hl), fun b u h => by
    by_cases hb : b = l
    · subst hb; rw [upd_same] at h; cases h; exact e
    · rw [upd_ne hb] at h; exact g.nh b u h, fun b hb hk => by rw [upd_ne (fun z => hk (by rw [z]; exact h0))]; exact g.nw b hb hk⟩
theorem isL_at {α : Type} {R : α → VP} {l : List α} {N : Hp} {a : Addr} {xs : List V} (h : N a = none) (p : Paired (fun v y => (R y).p v N) xs l) : (isL R l).p (.ref a) (upd N a (.lst xs)) := ⟨a, xs, rfl, upd_same, paired_mono p fun v y z => (R y).mono (same_new h) z⟩
end PB
namespace PB
open PySem PySem.Spec PyProof.Rows L2
/-! ### == of data -/
def IsD (P : VP) (d : PyData) : Prop := ∀ (K : PySem.W.Frag) (v : V) (N H : Hp), Same N H → P.p v N → Dp K H v d
theorem isd_int {i : Int} : IsD (I i) (.int i) := fun K v N H s h => by cases h; exact .int i
theorem isd_nat {i : Nat} : IsD (I (i : Int)) (.int (i : Int)) := isd_int
theorem dpall {α : Type} {R : α → VP} {f : α → PyData} (h : ∀ a, IsD (R a) (f a)) {K : PySem.W.Frag} {N H : Hp} (s : Same N H) : ∀ {xs : List V} {l : List α}, Paired (fun v y => (R y).p v N) xs l → DpAll K H xs (l.map f)
  | _, _, .nil => .nil
  | _, _, .cons r t => .cons (h _ K _ N H s r) (dpall h s t)
theorem dpallT {K : PySem.W.Frag} {N H : Hp} (s : Same N H) : ∀ {xs : List V} {Ps : List VP} {ds : List PyData}, Paired (fun v (P : VP) => P.p v N) xs Ps → Paired IsD Ps ds → DpAll K H xs ds
  | _, _, _, .nil, .nil => .nil
  | _, _, _, .cons r t, .cons q u => .cons (q K _ N H s r) (dpallT s t u)
theorem isd_tup {Ps : List VP} {ds : List PyData} (h : Paired IsD Ps ds) : IsD (isT Ps) (.tuple ds) := fun K v N H s ⟨a, xs, e, ha, p⟩ => by subst e; exact .tup (SqT.of (s _ _ ha)) (dpallT s p h)
theorem isd_lst {α : Type} {R : α → VP} {f : α → PyData} (h : ∀ a, IsD (R a) (f a)) {l : List α} : IsD (isL R l) (.list (l.map f)) := fun K v N H s ⟨a, xs, e, ha, p⟩ => by subst e; exact .lst (SqL.of (s _ _ ha)) (dpall h s p)
theorem isd_ints : ∀ (l : List Int), Paired IsD (l.map I) (l.map PyData.int)
  | [] => .nil
  | _ :: r => .cons isd_int (isd_ints r)
/-- it can be laid, and is no deeper than k -/
def Flat (k : Nat) (d : PyData) : Prop := d.canLay0 = true ∧ d.depth ≤ k
theorem flat_all {k : Nat} : ∀ {ds : List PyData}, (∀ d ∈ ds, Flat k d) → PyData.canLayAll0 ds = true ∧ PyData.depthAll ds ≤ k
  | [], _ => by simp [PyData.canLayAll0, PyData.depthAll]
  | d :: r, h => by
    have h1 := h d (by simp)
    have h2 := flat_all (ds := r) fun x hx => h x (by simp [hx])
    simp only [PyData.canLayAll0, PyData.depthAll, h1.1, h2.1, Bool.and_self]
    exact ⟨trivial, Nat.max_le.mpr ⟨h1.2, h2.2⟩⟩
theorem flat_int {k : Nat} {i : Int} : Flat (k + 1) (.int i) := by
  constructor
  · simp [PyData.canLay0]
  · simp [PyData.depth]
theorem flat_tup {k : Nat} {ds : List PyData} (h : ∀ d ∈ ds, Flat k d) : Flat (k + 1) (.tuple ds) := by
  have q := flat_all h
  constructor
  · simp only [PyData.canLay0]; exact q.1
  · simp only [PyData.depth]; have := q.2; omega
theorem flat_lst {k : Nat} {ds : List PyData} (h : ∀ d ∈ ds, Flat k d) : Flat (k + 1) (.list ds) := by
  have q := flat_all h
  constructor
  · simp only [PyData.canLay0]; exact q.1
  · simp only [PyData.depth]; have := q.2; omega
theorem flat_shaped {k : Nat} {d : PyData} (h : Flat k d) (hk : k ≤ 64) : SeqAt.shaped d = true := by
  unfold SeqAt.shaped
  rw [h.1, decide_eq_true (Nat.le_trans h.2 hk)]
  rfl
theorem flatd_ints {k : Nat} {l : List Int} : ∀ d ∈ l.map PyData.int, Flat (k + 1) d := fun d h => by
  obtain ⟨i, _, rfl⟩ := List.mem_map.mp h
  exact flat_int
theorem eqv_ints : ∀ {l m : List Int}, PyData.eqvAll (l.map PyData.int) (m.map PyData.int) = decide (l = m)
  | [], [] => by simp [PyData.eqvAll]
  | [], _ :: _ => by simp [PyData.eqvAll]
  | _ :: _, [] => by simp [PyData.eqvAll]
  | a :: l, b :: m => by
    rw [List.map_cons, List.map_cons, PyData.eqvAll, eqv_ints (l := l) (m := m), PyData.eqv]
    by_cases h : a = b
    · subst h; simp
    · have : (a == b) = false := by simpa using h
      rw [this]
      simp [h]
section
variable {X : Cx} {a b : Expr} {pos : Pos} {σ : L2.St} {N : Hp} {P1 P2 : VP} {d d2 : PyData}
theorem evt_eqD (hu : X.A.units + 64 < cLine) (ha : Ev X a σ N P1) (hb : Ev X b σ N P2) (h1 : IsD P1 d) (h2 : IsD P2 d2) (s1 : SeqAt.shaped d = true) (s2 : SeqAt.shaped d2 = true) : EvT X (.Compare a [.Eq] [b] pos) σ N (PyData.eqv d d2) :=
  evt_cmp (op_eqD hu) (nomark _) ha hb fun x y N' H' s p1 p2 Q q => ⟨d, d2, h1 _ x N' H' s p1, h2 _ y N' H' s p2, s1, s2, q _ N' H' (.refl s) rfl⟩
theorem ev_eqD (hu : X.A.units + 64 < cLine) (ha : Ev X a σ N P1) (hb : Ev X b σ N P2) (h1 : IsD P1 d) (h2 : IsD P2 d2) (s1 : SeqAt.shaped d = true) (s2 : SeqAt.shaped d2 = true) : Ev X (.Compare a [.Eq] [b] pos) σ N (B (PyData.eqv d d2)) :=
  ev_cmp (op_eqD hu) (nomark _) ha hb fun x y N' H' s p1 p2 Q q => ⟨d, d2, h1 _ x N' H' s p1, h2 _ y N' H' s p2, s1, s2, q _ N' H' (.refl s) rfl⟩
theorem evt_neD (hu : X.A.units + 64 < cLine) (ha : Ev X a σ N P1) (hb : Ev X b σ N P2) (h1 : IsD P1 d) (h2 : IsD P2 d2) (s1 : SeqAt.shaped d = true) (s2 : SeqAt.shaped d2 = true) : EvT X (.Compare a [.NotEq] [b] pos) σ N (!PyData.eqv d d2) :=
  evt_cmp (op_neD hu) (nomark _) ha hb fun x y N' H' s p1 p2 Q q => ⟨d, d2, h1 _ x N' H' s p1, h2 _ y N' H' s p2, s1, s2, q _ N' H' (.refl s) rfl⟩
/-- tuples of numbers -/
theorem evt_eqT {l m : List Int} {Ps Qs : List VP} (hu : X.A.units + 64 < cLine) (ha : Ev X a σ N (isT Ps)) (hb : Ev X b σ N (isT Qs)) (e1 : Ps = l.map I) (e2 : Qs = m.map I) : EvT X (.Compare a [.Eq] [b] pos) σ N (decide (l = m)) := by
  subst e1 e2
  refine (evt_eqD hu ha hb (isd_tup (isd_ints l)) (isd_tup (isd_ints m)) (flat_shaped (flat_tup (k := 1) flatd_ints) (by decide)) (flat_shaped (flat_tup (k := 1) flatd_ints) (by decide))).to ?_
  rw [PyData.eqv, eqv_ints]
theorem eqv_nil {l : List PyData} : PyData.eqv (.list l) (.list []) = l.isEmpty := by cases l <;> simp [PyData.eqv, PyData.eqvAll]
/-- == [] -/
theorem ev_eqNil {α : Type} {R : α → VP} {l : List α} {f : α → PyData} {k : Nat} {p : Pos} (hu : X.A.units + 64 < cLine) (ha : Ev X a σ N (isL R l)) (h1 : ∀ a, IsD (R a) (f a)) (h2 : ∀ a, Flat k (f a)) (hk : k < 64) : Ev X (.Compare a [.Eq] [.List [] p] pos) σ N (B l.isEmpty) := by
  refine ev_eq (ev_eqD (d := .list (l.map f)) (d2 := .list []) hu ha (ev_lst (R := I) (l := []) ea_nil .nil) (isd_lst h1) (by have := isd_lst (R := I) (f := PyData.int) (fun a => isd_int) (l := []); exact this) (flat_shaped (flat_lst (k := k) fun d hd => ?_) hk) (flat_shaped (flat_lst (k := 1) fun d hd => by cases hd) (by decide))) ?_
  · obtain ⟨y, _, rfl⟩ := List.mem_map.mp hd
    exact h2 y
  · rw [eqv_nil]
    cases l <;> rfl
theorem evt_eqNil {α : Type} {R : α → VP} {l : List α} {f : α → PyData} {k : Nat} {p : Pos} (hu : X.A.units + 64 < cLine) (ha : Ev X a σ N (isL R l)) (h1 : ∀ a, IsD (R a) (f a)) (h2 : ∀ a, Flat k (f a)) (hk : k < 64) : EvT X (.Compare a [.Eq] [.List [] p] pos) σ N l.isEmpty := by
  refine (evt_eqD (d := .list (l.map f)) (d2 := .list []) hu ha (ev_lst (R := I) (l := []) ea_nil .nil) (isd_lst h1) (by have := isd_lst (R := I) (f := PyData.int) (fun a => isd_int) (l := []); exact this) (flat_shaped (flat_lst (k := k) fun d hd => ?_) hk) (flat_shaped (flat_lst (k := 1) fun d hd => by cases hd) (by decide))).to ?_
  · obtain ⟨y, _, rfl⟩ := List.mem_map.mp hd
    exact h2 y
  · rw [eqv_nil]
    cases l <;> rfl
end
theorem units_of {k : Nat} {A : Around} (hr : Room k A) : A.units + 64 < cLine := by have := hr.un; omega
end PB
namespace PB
open PySem PySem.Spec PyProof.Rows L2
section
variable {X : Cx} {e a b c o it : Expr} {es : List Expr} {pos p : Pos} {σ : L2.St} {N H : Hp} {P : VP}
theorem ev_inK {i : Int} {l : List Int} {ad : Addr} (ha : Ev X a σ N (I i)) (hb : Ev X b σ N (is (.ref ad))) (hk : ∀ H, SqT X.K H ad (l.map V.int)) (hm : behindInMarks .In b = false := by with_unfolding_all rfl) : Ev X (.Compare a [.In] [b] pos) σ N (B (decide (i ∈ l))) :=
  ev_cmp op_in_seq hm ha hb fun x y N' H' s p1 p2 Q q => by
    cases p1; cases p2
    exact ⟨ad, _, rfl, .inr (hk H'), rfl, flat_ints, q _ N' H' (.refl s) (by rw [if_neg (by decide), inV_ints]; rfl)⟩
theorem evt_inK {i : Int} {l : List Int} {ad : Addr} (ha : Ev X a σ N (I i)) (hb : Ev X b σ N (is (.ref ad))) (hk : ∀ H, SqT X.K H ad (l.map V.int)) (hm : behindInMarks .In b = false := by with_unfolding_all rfl) : EvT X (.Compare a [.In] [b] pos) σ N (decide (i ∈ l)) :=
  evt_cmp op_in_seq hm ha hb fun x y N' H' s p1 p2 Q q => by
    cases p1; cases p2
    exact ⟨ad, _, rfl, .inr (hk H'), rfl, flat_ints, q _ N' H' (.refl s) (by rw [if_neg (by decide), inV_ints]; rfl)⟩
theorem evt_inT {i : Int} {l : List Int} {Ps : List VP} (ha : Ev X a σ N (I i)) (hb : Ev X b σ N (isT Ps)) (hP : Ps = l.map I) (hm : behindInMarks .In b = false := by with_unfolding_all rfl) : EvT X (.Compare a [.In] [b] pos) σ N (decide (i ∈ l)) :=
  evt_cmp op_in_seq hm ha hb fun x y N' H' s p1 p2 Q q => by
    obtain ⟨p, xs, rfl, hp, pr⟩ := p2
    subst hP
    have e := paired_ints pr
    subst e
    cases p1
    exact ⟨p, _, rfl, .inr (SqT.of (s _ _ hp)), rfl, flat_ints, q _ N' H' (.refl s) (by rw [if_neg (by decide), inV_ints]; rfl)⟩
/-- of a list of things the items in another list's words -/
theorem isL_map {α β : Type} {R : β → VP} {f : α → β} {l : List α} : isL R (l.map f) = isL (fun a => R (f a)) l := by
  have e : ∀ (v : V) (H : Hp), (isL R (l.map f)).p v H ↔ (isL (fun a => R (f a)) l).p v H := by
    intro v H
    have k : ∀ {xs : List V} {l : List α}, Paired (fun v y => (R y).p v H) xs (l.map f) ↔ Paired (fun v y => (R (f y)).p v H) xs l := by
      intro xs
      induction xs with
      | nil =>
        intro l
        cases l with
        | nil => exact ⟨fun _ => .nil, fun _ => .nil⟩
        | cons a r => exact ⟨fun h => (nomatch h), fun h => (nomatch h)⟩
      | cons x xs ih =>
        intro l
        cases l with
        | nil => exact ⟨fun h => (nomatch h), fun h => (nomatch h)⟩
        | cons a r =>
          constructor
          · intro h
            cases h with
            | cons p q => exact .cons p (ih.mp q)
          · intro h
            cases h with
            | cons p q => exact .cons p (ih.mpr q)
    exact ⟨fun ⟨a, xs, e, h, q⟩ => ⟨a, xs, e, h, k.mp q⟩, fun ⟨a, xs, e, h, q⟩ => ⟨a, xs, e, h, k.mpr q⟩⟩
  have : (isL R (l.map f)).p = (isL (fun a => R (f a)) l).p := funext fun v => funext fun H => propext (e v H)
  cases h1 : isL R (l.map f)
  cases h2 : isL (fun a => R (f a)) l
  rw [h1, h2] at this
  simp only at this
  subst this
  rfl
theorem filt_true {α : Type} : ∀ (l : List α), l.filter (fun _ => true) = l
  | [] => rfl
  | a :: r => by rw [List.filter_cons, if_pos rfl, filt_true r]
end
end PB
namespace PB
open PySem PySem.Spec PyProof.Rows L2
/-! ### what an __init__ leaves; what a method that changes its object leaves -/
/-- all but x stands as it stood, the known part has grown beside x -/
structure But (x : Addr) (N H N' H' : Hp) : Prop where
  hb : ∀ b o, b ≠ x → H b = some o → H' b = some o
  nn : Same N N'
  nh : Same N' H'
  nw : ∀ b, N b = none → H b ≠ none → N' b = none
  dm : ∀ b, H b ≠ none → H' b ≠ none
theorem same_dom {H H' : Hp} (s : Same H H') : ∀ b, H b ≠ none → H' b ≠ none := fun b h z => by
  cases q : H b with
  | none => exact h q
  | some o => rw [s b o q] at z; cases z
theorem But.grow {x : Addr} {N0 H0 N H N' H' : Hp} (g : Grow N0 H0 N H) (h0 : H0 x = none) (b : But x N H N' H') : Grow N0 H0 N' H' :=
  ⟨fun c o e => b.hb c o (ne_of_none e h0) (g.hh c o e), g.nn.trans b.nn, b.nh, fun c hc hk => b.nw c (g.nw c hc hk) (same_dom g.hh c hk)⟩
theorem But.of {x : Addr} {N H N' H' : Hp} (g : Grow N H N' H') : But x N H N' H' := ⟨fun b o _ e => g.hh b o e, g.nn, g.nh, g.nw, same_dom g.hh⟩
theorem But.refl {x : Addr} {N H : Hp} (s : Same N H) : But x N H N H := .of (.refl s)
theorem But.trans {x : Addr} {N H N1 H1 N2 H2 : Hp} (a : But x N H N1 H1) (b : But x N1 H1 N2 H2) : But x N H N2 H2 :=
  ⟨fun c o hc e => b.hb c o hc (a.hb c o hc e), a.nn.trans b.nn, b.nh, fun c hc hk => b.nw c (a.nw c hc hk) (a.dm c hk), fun c hk => b.dm c (a.dm c hk)⟩
/-- the object itself is stored to -/
theorem But.put {x : Addr} {N H : Hp} {o : HO} (s : Same N H) (nx : N x = none) : But x N H N (upd H x o) :=
  ⟨fun b u hb e => by rw [upd_ne hb]; exact e, Same.refl _, fun b u e => by rw [upd_ne (ne_of_none e nx)]; exact s b u e, fun b hb _ => hb, fun b h => by
    by_cases hb : b = x
    · subst hb; rw [upd_same]; simp
    · rw [upd_ne hb]; exact h⟩
/-- something new and outside is stored to -/
theorem But.new {x l : Addr} {N H N1 H1 : Hp} {o : HO} (b : But x N H N1 H1) (nl : N1 l = none) (hl : H l = none) : But x N H N1 (upd H1 l o) :=
  ⟨fun c u hc e => by rw [upd_ne (ne_of_none e hl)]; exact b.hb c u hc e, b.nn, fun c u e => by rw [upd_ne (ne_of_none e nl)]; exact b.nh c u e, b.nw, fun c h => by
    by_cases hc : c = l
    · subst hc; rw [upd_same]; simp
    · rw [upd_ne hc]; exact b.dm c h⟩
/-- such a thing is known from now on -/
theorem But.fix {x l : Addr} {N H N1 H1 : Hp} {o : HO} (b : But x N H N1 H1) (nl : N1 l = none) (hl : H l = none) (e : H1 l = some o) : But x N H (upd N1 l o) H1 :=
  ⟨b.hb, b.nn.trans (same_new nl), fun c u h => by
    by_cases hc : c = l
    · subst hc; rw [upd_same] at h; cases h; exact e
    · rw [upd_ne hc] at h; exact b.nh c u h, fun c hc hk => by rw [upd_ne (fun z => hk (by rw [z]; exact hl))]; exact b.nw c hc hk, b.dm⟩
def InitEnd (C x dx : Addr) (N H : Hp) (fs : List (Str × VP)) (H' : Hp) : Prop := ∃ N' vals, But x N H N' H' ∧ H' x = some (.ins C dx vals) ∧ Paired (fun (v : Str × V) (y : Str × VP) => v.1 = y.1 ∧ y.2.p v.2 N') vals fs
section
variable {P : Program} {w : World} {K : PySem.W.Frag} {mg : Str → Option Value} {base : Heap} {C : Addr}
theorem init_ok {R : List VP → List (Str × VP) → Prop} {x qual : Str} {st : Stmt} {f : Addr} {fd : FuncData} {N ps : List Str} {k : Nat} (F : Fun K x qual st f fd) (S : FnScope N ps (defScope st)) (len : ∀ Ps fs, R Ps fs → Ps.length + 1 = ps.length)
    (body : ∀ (cdv : Value) (A : Around) (outer : List Env) (s : Shared) (H0 : Hp) (E : XK), Room k (A.deeper (envOfC qual (defScope st) s.heap.objs.size f cdv)) → ∀ (x dx : Addr) (args : List V) (Ps : List VP) (fs : List (Str × VP)) (Nh H : Hp), R Ps fs → Nh x = none → Same Nh H → H x = some (.ins C dx []) → All args Ps Nh →
      bB (cxOf CX0 P w K mg base N qual (defScope st) f cdv A outer s H0 E).nox (defBody st) { nx := fun _ H' => InitEnd C x dx Nh H fs H', rt := fun v H' => v = .non ∧ InitEnd C x dx Nh H fs H' } (start N (.ref x :: args)) H) :
    FnOk P w K mg base CX0 (k + 1) f fd ps (Init C R) := by
  refine F.ok S (fun vs H Q E h => ?_) fun cdv A outer s H vs Q E hr h => ?_
  · obtain ⟨x, dx, args, Ps, fs, Nh, rfl, r, _, _, _, p, _⟩ := h
    rw [List.length_cons, paired_len p]; exact len Ps fs r
  · obtain ⟨x, dx, args, Ps, fs, Nh, rfl, r, nx, sm, hx, p, q⟩ := h
    have fin : ∀ H', InitEnd C x dx Nh H fs H' → Q .non H' := fun H' ⟨N', vals, b, e, pr⟩ => q N' H' vals b.hb b.nn b.nh b.nw e pr
    refine ⟨_, pss_b, bB_in.mpr fun pins s' I => ?_⟩
    refine thn (bB_in.mp (body cdv A outer s H E hr x dx args Ps fs Nh H r nx sm hx p) pins s' I) fun fl s2 h2 => ?_
    cases fl with
    | next =>
      obtain ⟨σ', H', I', z⟩ := h2
      exact ⟨σ', H', I', fin H' z⟩
    | brk => obtain ⟨_, _, _, z⟩ := h2; exact z.elim
    | cont => obtain ⟨_, _, _, z⟩ := h2; exact z.elim
    | ret u =>
      obtain ⟨v, σ', H', I', rv, ev, z⟩ := h2
      subst ev
      exact ⟨_, σ', H', I', rv, fin H' z⟩
end
section
variable {X : Cx} {e a b o : Expr} {pos pos' px py pt pt2 apos p : Pos} {σ : L2.St} {N H : Hp} {x y : Str} {rest : List Stmt} {D : Ends}
/-- x, y = a, b -/
theorem b_par {P1 P2 : VP} {i j k1 k2 : Nat} (ha : Ev X a σ N P1) (hb : Ev X b σ N P2) (s : Same N H) (k : ∀ u v N' H', Grow N H N' H' → P1.p u N' → P2.p v N' → bB X rest D ((σ.set i (some u)).set j (some v)) H')
    (hc : X.calm = true) (nd : X.N.Nodup) (hi : X.N[i]? = some x := by rfl) (hj : X.N[j]? = some y := by rfl) (hx : Loc X.env.scope x := by first | exact Or.inl rfl | exact Or.inr rfl) (hy : Loc X.env.scope y := by first | exact Or.inl rfl | exact Or.inr rfl)
    (hs : swapsWithSole [.Tuple [.Name x px, .Name y py] k1 pt] (.Tuple [a, b] k2 pt2) pos.line X.env = pure false := by rfl) (hw : swappedStores [.Tuple [.Name x px, .Name y py] k1 pt] (.Tuple [a, b] k2 pt2) X.env = pure none := by rfl)
    (hs1 : starEach [a, b] X.env = (false, eval a X.env) :: starEach [b] X.env := by rfl) (hs2 : starEach [b] X.env = (false, eval b X.env) :: starEach [] X.env := by rfl)
    (hf : X.fn x = true ∨ X.env.scope.names.lookup x = some .local := by first | exact .inl rfl | exact .inr rfl) (hf2 : X.fn y = true ∨ X.env.scope.names.lookup y = some .local := by first | exact .inl rfl | exact .inr rfl) :
    bB X (.Assign [.Tuple [.Name x px, .Name y py] k1 pt] (.Tuple [a, b] k2 pt2) pos :: rest) D σ H :=
  bB_of (t := tSeq (tAsg (tTup (bA X [a, b])) (gTup X.K 2 (gCons (gName i) (gCons (gName j) gNil)))) (bB X rest)) (pss_cons (ps_asg (pe_tup pa_b) (pg_tup hc (pgs_cons (pg_name nd hi hx hf) (pgs_cons (pg_name nd hj hy hf2) pgs_nil))) hs hw) pss_b)
    ((ea_cons ha (ea_cons hb ea_nil hs2) hs1) H s _ fun vs N1 H1 g1 p1 => by
      obtain ⟨u, v, rfl, pu, pv⟩ := paired2 p1
      exact ⟨sz_le (by show 2 ≤ 1000000; decide), fun p hp => ⟨p, _, rfl, SqT.of upd_same, rfl, _, _, rfl, _, _, rfl, rfl, k u v N1 _ (g1.trans (.keep g1.nh (same_new hp))) pu pv⟩⟩)
end
end PB
namespace PB
open PySem PySem.Spec PyProof.Rows L2
/-! ### an object that is known for a while: it is taken out again -/
def del (N : Hp) (a : Addr) : Hp := fun b => if b = a then none else N b
theorem del_at {N : Hp} {a : Addr} : del N a a = none := if_pos rfl
theorem del_ne {N : Hp} {a b : Addr} (h : b ≠ a) : del N a b = N b := if_neg h
theorem del_same {N : Hp} {a : Addr} : Same (del N a) N := fun b o e => by
  by_cases h : b = a
  · subst h; rw [del_at] at e; cases e
  · rw [del_ne h] at e; exact e
/-- P hangs on no instance -/
def NoIns (P : VP) : Prop := ∀ (v : V) (N : Hp) (a C dx : Addr) (fs : List (Str × V)), N a = some (.ins C dx fs) → P.p v N → P.p v (del N a)
theorem noins_is {v : V} : NoIns (is v) := fun u N a C dx fs e h => h
theorem paired_noins {α : Type} {R : α → VP} (h : ∀ y, NoIns (R y)) {N : Hp} {a C dx : Addr} {fs : List (Str × V)} (e : N a = some (.ins C dx fs)) : ∀ {xs : List V} {l : List α}, Paired (fun v y => (R y).p v N) xs l → Paired (fun v y => (R y).p v (del N a)) xs l
  | _, _, .nil => .nil
  | _, _, .cons r t => .cons (h _ _ _ _ _ _ _ e r) (paired_noins h e t)
theorem noins_l {α : Type} {R : α → VP} {l : List α} (h : ∀ y, NoIns (R y)) : NoIns (isL R l) := fun u N a C dx fs e ⟨p, xs, ep, hp, q⟩ =>
  ⟨p, xs, ep, by rw [del_ne (fun z => by rw [z, e] at hp; cases hp)]; exact hp, paired_noins h e q⟩
theorem paired_noinsT {N : Hp} {a C dx : Addr} {fs : List (Str × V)} (e : N a = some (.ins C dx fs)) : ∀ {xs : List V} {l : List VP}, (∀ P ∈ l, NoIns P) → Paired (fun v (y : VP) => y.p v N) xs l → Paired (fun v (y : VP) => y.p v (del N a)) xs l
  | _, _, _, .nil => .nil
  | _, _, h, .cons r t => .cons (h _ (by simp) _ _ _ _ _ _ e r) (paired_noinsT e (fun P hP => h P (by simp [hP])) t)
theorem noins_t {l : List VP} (h : ∀ P ∈ l, NoIns P) : NoIns (isT l) := fun u N a C dx fs e ⟨p, xs, ep, hp, q⟩ =>
  ⟨p, xs, ep, by rw [del_ne (fun z => by rw [z, e] at hp; cases hp)]; exact hp, paired_noinsT e h q⟩
theorem noins_o {α : Type} {R : α → VP} {o : Option α} (h : ∀ y, NoIns (R y)) : NoIns (isO R o) := by
  cases o with
  | none => exact noins_is
  | some a => exact h a
/-- from the part with a known to the part without -/
theorem Grow.del {N H N' H' : Hp} {a C dx : Addr} {fs : List (Str × V)} {o : HO} (g : Grow (upd N a o) H N' H') (na : N a = none) (e : N' a = some (.ins C dx fs)) : Same N (PB.del N' a) ∧ Same (PB.del N' a) H' ∧ ∀ b, N b = none → H b ≠ none → PB.del N' a b = none :=
  ⟨fun b u h => by rw [del_ne (ne_of_none h na)]; exact g.nn b u (by rw [upd_ne (ne_of_none h na)]; exact h), fun b u h => g.nh b u (del_same b u h), fun b h hk => by
    by_cases hb : b = a
    · subst hb; exact del_at
    · rw [del_ne hb]; exact g.nw b (by rw [upd_ne hb]; exact h) hk⟩
theorem same_put {N H : Hp} {a : Addr} {o : HO} (s : Same N H) (e : H a = some o) : Same (upd N a o) H := fun b u h => by
  by_cases hb : b = a
  · subst hb; rw [upd_same] at h; cases h; exact e
  · rw [upd_ne hb] at h; exact s b u h
end PB
namespace PB
open PySem PySem.Spec PyProof.Rows L2
/-- both -/
def both (P Q : VP) : VP := ⟨fun v H => P.p v H ∧ Q.p v H, fun s h => ⟨P.mono s h.1, Q.mono s h.2⟩⟩
section
variable {X : Cx} {e o : Expr} {pos apos p : Pos} {σ : L2.St} {N N2 H : Hp} {m : Str} {rest : List Stmt} {D : Ends}
/-- o.m(e), a method that may change things; what comes behind is told by its promise -/
theorem b_callM {CX : CXT} {sp : Sp} {E : XK} {P : VP} {k : Nat} {c C dx : Addr} {fs : List (Str × V)} {ps : List Str} {pl : Sem Bool} (F : MF X.prog X.w X.K X.mg X.base CX k C m ps sp) (cl : Cls X.K C) (hr : Room k X.A) (hx : Passes CX X E)
    (ho : Ev X o σ N2 (is (.ref c))) (s2 : Same N2 H) (hc : H c = some (.ins C dx fs)) (hl : fs.lookup m = none) (h : Ev X e σ N P) (s : Same N H)
    (q : ∀ v N' H', Grow N H N' H' → P.p v N' → sp [.ref c, v] H' (fun _ H2 => bB X rest D σ H2) E)
    (hst : starEach [e] X.env = (false, eval e X.env) :: starEach [] X.env := by rfl) (hpl : (backTo p (starEach [] X.env)).any (·.1) = false := by rfl)
    (ht : eval (.Call (.Attribute o m apos) [e] [] p) X.env = (do
      let ov ← eval o X.env
      standAt apos.atName
      let (f, first) ← holding [ov] (getMethod ov m pl)
      callWith p f first (backTo p (starEach [e] X.env)) (backToKw p (keywordEach [] X.env))) := by rfl)
    (hs : swapsWith (.Call (.Attribute o m apos) [e] [] p) none pos.line X.env = pure false := by rfl) : bB X (.Expr (.Call (.Attribute o m apos) [e] [] p) pos :: rest) D σ H := by
  obtain ⟨f, fd, F, hm, hb⟩ := F
  refine bB_of (t := tSeq (tDrop _) (bB X rest)) (pss_cons (ps_expr (pe_meth pe_b cl hm F hr hb .nil hx pa_b hst hpl ht) hs) pss_b) (ho H s2 _ fun y N1 H1 g1 p1 => ?_)
  cases p1
  refine ⟨c, dx, fs, rfl, g1.hh _ _ hc, hl, (ea_cons h ea_nil hst) H1 (s.trans g1.hh) _ fun vs N3 H3 g3 p3 => ?_⟩
  obtain ⟨v, rfl, pv⟩ := paired1 p3
  rw [List.append_nil]
  exact q v N3 H3 ((Grow.keep s g1.hh).trans g3) pv
/-- self.f = e, the new value made outside the known part: an empty list -/
theorem b_fldM {c C dx : Addr} {fs : List (Str × V)} {f : Str} {pl pos' : Pos} (hc : H c = some (.ins C dx fs)) (hz : fs.length < 1000) (cl : Cls X.K C) (n : NoAttr X.K C f) (ho : Ev X o σ N2 (is (.ref c))) (s2 : Same N2 H)
    (k : ∀ l H', H l = none → Same H H' → H' l = some (.lst []) → H' c = some (.ins C dx fs) → bB X rest D σ (upd H' c (.ins C dx (putF f (.ref l) fs)))) (hs : swapsWith (.List [] pl) (some (.Attribute o f pos')) pos.line X.env = pure false := by rfl) :
    bB X (.Assign [.Attribute o f pos'] (.List [] pl) pos :: rest) D σ H :=
  bB_of (t := tSeq (sFld X.K (bE X o) (tLst tNil) f) (bB X rest)) (pss_cons (ps_fld pe_b (pe_lst pa_nil) hs) pss_b) ⟨sz_le (by show 0 ≤ 1000000; decide), fun l hl => ho _ (s2.trans (same_new hl)) _ fun y N3 H3 g3 p3 => by
    cases p3
    have s3 : Same H H3 := (same_new hl).trans g3.hh
    exact ⟨c, C, dx, fs, rfl, s3 _ _ hc, cl, n, hz, k l H3 hl s3 (g3.hh _ _ upd_same) (s3 _ _ hc)⟩⟩
end
/-- a made thing that is going to change: its object is taken out of the known part -/
theorem Grow.out {N H N' H' : Hp} {a : Addr} (g : Grow N H N' H') (na : N a = none) : Grow N H (PB.del N' a) H' :=
  ⟨g.hh, fun b o e => by rw [PB.del_ne (ne_of_none e na)]; exact g.nn b o e, fun b o e => g.nh b o (PB.del_same b o e), fun b hb hk => by
    by_cases h : b = a
    · subst h; exact PB.del_at
    · rw [PB.del_ne h]; exact g.nw b hb hk⟩
theorem But.more {x : Addr} {N H N1 H1 H2 : Hp} (b : But x N H N1 H1) (s : Same H1 H2) : But x N H N1 H2 := b.trans (.of (.keep b.nh s))
end PB
namespace PB
open PySem PySem.Spec PyProof.Rows L2
section
variable {X : Cx} {e o : Expr} {es : List Expr} {pos pos' p : Pos} {σ : L2.St} {N N2 H : Hp} {x : Str} {rest : List Stmt} {D : Ends} {k : Nat} {C : Addr} {ps : List Str} {Ps : List VP} {fs : List (Str × VP)} {R : List VP → List (Str × VP) → Prop}
/-- an instance made and left outside the known part -/
def EvM (X : Cx) (e : Expr) (σ : L2.St) (N : Hp) (C : Addr) (fs : List (Str × VP)) : Prop := ∀ H, Same N H → ∀ Q : VK, (∀ y dy vals N' H', H y = none → N' y = none → Grow N H N' H' → H' y = some (.ins C dy vals) → Paired (fun (v : Str × V) (y : Str × VP) => v.1 = y.1 ∧ y.2.p v.2 N') vals fs → Q (.ref y) H') → bE X e σ H Q
theorem evm_make (F : CF X.prog X.w X.K X.mg X.base CX0 k x C ps (Init C R)) (hr : Room (k + 1) X.A) (ha : EvA X (e :: es) σ N Ps) (r : R Ps fs) (hg : Gl X x := by rfl) (hdb : (x == ("__debug__" : Str)) = false := by decide)
    (he : starEach (e :: es) X.env = (false, eval e X.env) :: starEach es X.env := by rfl) (hpl : (backTo pos (starEach es X.env)).any (·.1) = false := by rfl) : EvM X (.Call (.Name x p) (e :: es) [] pos) σ N C fs := by
  obtain ⟨f, fd, F, M, hm, hb⟩ := F
  intro H s Q q
  refine bE_of (pe_make M F hr hg hm hb .nil pass0 pa_b hdb he hpl) (ha H s _ fun vs N1 H1 g1 p1 => ?_)
  intro y dx ny nd ne
  rw [List.append_nil]
  have h12 : Same H1 (upd (upd H1 dx (.own y)) y (.ins C dx [])) := (same_new nd).trans (same_new (by rw [upd_ne (Ne.symm ne)]; exact ny))
  have s2 : Same N1 (upd (upd H1 dx (.own y)) y (.ins C dx [])) := g1.nh.trans h12
  refine ⟨y, dx, vs, Ps, fs, N1, rfl, r, g1.nh.free ny, s2, upd_same, p1, fun N' H' vals kh kn knh kw hy pr => ⟨rfl, ?_⟩⟩
  have hH : Same H1 H' := fun b o h => kh b o (ne_of_none h ny) (h12 b o h)
  have hy0 : N' y = none := kw y (g1.nh.free ny) (by rw [upd_same]; simp)
  refine q y dx vals N' H' (g1.hh.free ny) hy0 (g1.trans ⟨hH, kn, knh, fun b hb hk => kw b hb fun z => ?_⟩) hy pr
  cases h : H1 b with
  | none => exact hk h
  | some o => rw [h12 b o h] at z; cases z
/-- name = C(..) -/
theorem b_asgMake {i : Nat} {y : Str} {pe : Pos} (h : EvM X e σ N C fs) (s : Same N H) (q : ∀ c dc vals N' H', H c = none → N' c = none → Grow N H N' H' → H' c = some (.ins C dc vals) → Paired (fun (v : Str × V) (y : Str × VP) => v.1 = y.1 ∧ y.2.p v.2 N') vals fs → bB X rest D (σ.set i (some (.ref c))) H')
    (nd : X.N.Nodup) (hi : X.N[i]? = some y := by rfl) (hx : Loc X.env.scope y := by first | exact Or.inl rfl | exact Or.inr rfl) (hs : swapsWith e (some (.Name y pe)) pos.line X.env = pure false := by rfl)
    (hf : X.fn y = true ∨ X.env.scope.names.lookup y = some .local := by first | exact .inl rfl | exact .inr rfl) : bB X (.Assign [.Name y pe] e pos :: rest) D σ H :=
  bB_of (pss_cons (ps_set nd hi hx pe_b hs hf) pss_b) (h H s _ fun c dc vals N' H' a b c' d f => q c dc vals N' H' a b c' d f)
/-- o.f = C(..) -/
theorem b_fldMake {c Cc dx : Addr} {fc : List (Str × V)} {f : Str} (hc : H c = some (.ins Cc dx fc)) (hz : fc.length < 1000) (cl : Cls X.K Cc) (n : NoAttr X.K Cc f) (h : EvM X e σ N C fs) (s : Same N H) (ho : Ev X o σ N2 (is (.ref c))) (s2 : Same N2 H)
    (q : ∀ y dy vals N' H', H y = none → N' y = none → Grow N H N' H' → H' y = some (.ins C dy vals) → Paired (fun (v : Str × V) (y : Str × VP) => v.1 = y.1 ∧ y.2.p v.2 N') vals fs → H' c = some (.ins Cc dx fc) → bB X rest D σ (upd H' c (.ins Cc dx (putF f (.ref y) fc))))
    (hs : swapsWith e (some (.Attribute o f pos')) pos.line X.env = pure false := by rfl) : bB X (.Assign [.Attribute o f pos'] e pos :: rest) D σ H :=
  bB_of (t := tSeq (sFld X.K (bE X o) (bE X e) f) (bB X rest)) (pss_cons (ps_fld pe_b pe_b hs) pss_b) (h H s _ fun y dy vals N1 H1 hy ny g1 e1 p1 => ho H1 (s2.trans g1.hh) _ fun w N3 H3 g3 p3 => by
    cases p3
    have g : Grow N H N1 H3 := g1.trans (.keep g1.nh g3.hh)
    exact ⟨c, Cc, dx, fc, rfl, g.hh _ _ hc, cl, n, hz, q y dy vals N1 H3 hy ny g (g3.hh _ _ e1) p1 (g.hh _ _ hc)⟩)
/-- name = [], to be changed -/
theorem b_asgM {i : Nat} {y : Str} {pl pe : Pos} (q : ∀ l H', H l = none → Same H H' → H' l = some (.lst []) → bB X rest D (σ.set i (some (.ref l))) H') (nd : X.N.Nodup) (hi : X.N[i]? = some y := by rfl) (hx : Loc X.env.scope y := by first | exact Or.inl rfl | exact Or.inr rfl)
    (hf : X.fn y = true ∨ X.env.scope.names.lookup y = some .local := by first | exact .inl rfl | exact .inr rfl) (hs : swapsWith (.List [] pl) (some (.Name y pe)) pos.line X.env = pure false := by rfl) : bB X (.Assign [.Name y pe] (.List [] pl) pos :: rest) D σ H :=
  bB_of (pss_cons (ps_set nd hi hx (pe_lst pa_nil) hs hf) pss_b) ⟨sz_le (by show 0 ≤ 1000000; decide), fun l hl => q l _ hl (same_new hl) upd_same⟩
end
/-- a list's items side by side with what they are -/
theorem zip_of {α : Type} {F : V → α → Prop} : ∀ {xs : List V} {l : List α}, Paired F xs l → ∃ zs : List (V × α), zs.map (·.2) = l ∧ zs.map (·.1) = xs ∧ Paired (fun v (z : V × α) => v = z.1 ∧ F v z.2) xs zs
  | _, _, .nil => ⟨[], rfl, rfl, .nil⟩
  | x :: _, a :: _, .cons r t => by
    obtain ⟨zs, e1, e2, p⟩ := zip_of t
    exact ⟨(x, a) :: zs, by rw [List.map_cons, e1], by rw [List.map_cons, e2], .cons ⟨rfl, r⟩ p⟩
end PB
namespace PB
open PySem PySem.Spec PyProof.Rows L2
/-- the dict at ad, as it stands -/
def dV (ad : Addr) (kvs : List (Key × V)) : VP := ⟨fun v H => v = .ref ad ∧ H ad = some (.dK kvs), fun s h => ⟨h.1, s _ _ h.2⟩⟩
section
variable {X : Cx} {a b e o d kx it tg : Expr} {pos pos' apos p wpos papos : Pos} {σ : L2.St} {N N2 N3 H : Hp} {x : Str} {rest body : List Stmt} {D : Ends} {P : VP} {kvs : List (Key × V)} {ad : Addr} {i : Int}
/-! ### dicts whose keys are numbers -/
theorem evt_dnotin (hu : X.A.units + 1 < cLine) (hk : Ev X kx σ N (I i)) (hd : Ev X d σ N (is (.ref ad))) (e : N ad = some (.dK kvs)) (hm : behindInMarks .NotIn d = false := by rfl) : EvT X (.Compare kx [.NotIn] [d] pos) σ N (!(valV kvs (Sum.inl i)).isSome) :=
  evt_pt (pt_cmp (pc_dnotin hu pe_b pe_b) hm) fun H s Q q => hk.two hd s fun y z N' H' g p1 p2 => by
    cases p1; cases p2
    exact ⟨ad, _, rfl, DGet.k (k := Sum.inl i) (g.nh _ _ (g.nn _ _ e)), _, rfl, q H' g.hh⟩
theorem ev_dget {v : V} (hu : X.A.units + 1 < cLine) (hd : Ev X d σ N (is (.ref ad))) (hk : Ev X kx σ N (I i)) (e : N ad = some (.dK kvs)) (hv : valV kvs (Sum.inl i) = some v) (pv : P.p v N) (hs : NoSl kx := by exact fun _ _ => rfl) : Ev X (.Subscript d kx pos) σ N P :=
  ev_pe (pe_dget hu pe_b pe_b hs) fun H s Q q => hd.two hk s fun y z N' H' g p1 p2 => by
    cases p1; cases p2
    refine ⟨ad, v, rfl, ?_, q v N' H' g (P.mono g.nn pv)⟩
    have := DGet.k (k := Sum.inl i) (g.nh _ _ (g.nn _ _ e))
    rw [hv] at this
    exact this
theorem b_dput (hu : X.A.units + 1 < cLine) (hd0 : H ad = some (.dK kvs)) (hz : kvs.length < 1000000) (hd : Ev X d σ N2 (is (.ref ad))) (s2 : Same N2 H) (hk : Ev X kx σ N3 (I i)) (s3 : Same N3 H) (h : Ev X e σ N P) (s : Same N H)
    (k : ∀ v N' H', Grow N H N' H' → P.p v N' → H' ad = some (.dK kvs) → bB X rest D σ (upd H' ad (.dK (putK kvs (Sum.inl i) v)))) (hs : swapsWith e (some (.Subscript d kx pos')) pos.line X.env = pure false := by rfl) : bB X (.Assign [.Subscript d kx pos'] e pos :: rest) D σ H :=
  bB_of (t := tSeq (sDPut (bE X d) (bE X kx) (bE X e)) (bB X rest)) (pss_cons (ps_dput hu pe_b pe_b pe_b hs) pss_b) (h H s _ fun v N1 H1 g1 p1 => hd H1 (s2.trans g1.hh) _ fun y N4 H4 g4 p4 => hk H4 (s3.trans (g1.hh.trans g4.hh)) _ fun z N5 H5 g5 p5 => by
    cases p4; cases p5
    have g : Grow N H N1 H5 := (g1.trans (.keep g1.nh g4.hh)).trans (.keep (g1.nh.trans g4.hh) g5.hh)
    exact ⟨ad, _, rfl, DPut.k (k := Sum.inl i) (g.hh _ _ hd0) (sz_lt hz), k v N1 H5 g p1 (g.hh _ _ hd0)⟩)
/-- name = {k: None} -/
theorem b_asgD1 {n : Nat} {y : Str} {pe pd pv : Pos} (hk : Ev X kx σ N (I i)) (s : Same N H) (q : ∀ l H', H l = none → Same H H' → H' l = some (.dK [(Sum.inl i, .non)]) → bB X rest D (σ.set n (some (.ref l))) H') (nd : X.N.Nodup) (hi : X.N[n]? = some y := by rfl) (hx : Loc X.env.scope y := by first | exact Or.inl rfl | exact Or.inr rfl)
    (hf : X.fn y = true ∨ X.env.scope.names.lookup y = some .local := by first | exact .inl rfl | exact .inr rfl) {jj} (hs : swapsWith (.Dict [some kx] [.Constant .none jj pv] pd) (some (.Name y pe)) pos.line X.env = pure false := by rfl) : bB X (.Assign [.Name y pe] (.Dict [some kx] [.Constant .none jj pv] pd) pos :: rest) D σ H :=
  bB_of (t := tSeq (tAsg (tDisp [(bE X kx, tC .non)]) (gName n)) (bB X rest)) (pss_cons (ps_set nd hi hx (pe_disp (pps_cons pe_b pe_non pps_nil) (by rfl) (by rfl) (fun z => by cases z) (by show 1 ≤ 15; decide)) hs hf) pss_b) fun l hl => by
    refine hk _ (s.trans (same_new hl)) _ fun v N1 H1 g1 p1 => ?_
    cases p1
    have hl1 : H1 l = some (.dK []) := g1.hh _ _ upd_same
    refine ⟨hl1, [(Sum.inl i, .non)], rfl, by show 1 ≤ 15; decide, q l _ hl ?_ ?_⟩
    · intro c u e
      rw [upd_ne (ne_of_none e hl)]
      exact g1.hh _ _ (same_new hl _ _ e)
    · exact upd_same
/-- name = {} -/
theorem b_asgD0 {n : Nat} {y : Str} {pe pd : Pos} (q : ∀ l H', H l = none → Same H H' → H' l = some (.dK []) → bB X rest D (σ.set n (some (.ref l))) H') (nd : X.N.Nodup) (hi : X.N[n]? = some y := by rfl) (hx : Loc X.env.scope y := by first | exact Or.inl rfl | exact Or.inr rfl)
    (hf : X.fn y = true ∨ X.env.scope.names.lookup y = some .local := by first | exact .inl rfl | exact .inr rfl) (hs : swapsWith (.Dict [] [] pd) (some (.Name y pe)) pos.line X.env = pure false := by rfl) : bB X (.Assign [.Name y pe] (.Dict [] [] pd) pos :: rest) D σ H :=
  bB_of (pss_cons (ps_set nd hi hx pe_dnewK hs hf) pss_b) fun l hl => q l _ hl (same_new hl) upd_same
/-- sorted(d) -/
theorem ev_sortedD {ks : List Int} {pp : Pos} (hc : X.calm = true) (hm : X.mg "sorted" = none) (hd : Ev X d σ N (dV ad kvs)) (hk : kvs.map (·.1) = ks.map Sum.inl) (h64 : ks.length < 64) {S : List Int} (hS : ∀ ys : List Int, ys.Perm ks → ys.Pairwise (· ≤ ·) → ys = S)
    (hg : Gl X "sorted" := by rfl) (he : starEach [d] X.env = (false, eval d X.env) :: starEach [] X.env := by rfl) (hpl : (backTo pos (starEach [] X.env)).any (·.1) = false := by rfl) : Ev X (.Call (.Name "sorted" pp) [d] [] pos) σ N (isI S) :=
  ev_callB (call_sortedDI hc) hm (by decide +kernel) (ea_cons hd ea_nil he) (fun vs N' H' s p1 Q q => by
    obtain ⟨v, rfl, rfl, e⟩ := paired1 p1
    refine ⟨ad, kvs, ks, rfl, .inl (s _ _ e), hk, h64, fun ys l h1 h2 hl => q _ _ _ (.new s hl) ⟨l, _, rfl, upd_same, ?_⟩⟩
    rw [hS ys h1 h2]
    exact paired_of_map S) hg (by decide) (by decide) he hpl
/-- some a with φ, and it is R a -/
def exV {α : Type} (φ : α → Prop) (R : α → VP) : VP := ⟨fun v H => ∃ a, φ a ∧ (R a).p v H, fun s ⟨a, h, q⟩ => ⟨a, h, (R a).mono s q⟩⟩
/-! ### for v in o.m(l.pop()) -/
theorem b_forPop {α : Type} {R : α → VP} {φ : List α → Prop} {g : TG} {Rm : List VP → VP → Prop} {k : Nat} {C w : Addr} {m : Str} {fs : List (Str × VP)} {ps : List Str} {pl : Sem Bool} {xs : List V} {v : V} {Pv : VP} (F : MF X.prog X.w X.K X.mg X.base CX0 k C m ps (Pure Rm)) (cl : Cls X.K C) (hr : Room k X.A)
    (hw : H w = some (.lst xs)) (hv : xs[xs.length - 1]? = some v) (ho : Ev X o σ N (isIns C fs)) (hl : fs.lookup m = none) (s : Same N H) (nw : N w = none) (hb : Ev X b σ N2 (is (.ref w))) (s2 : Same N2 H) (pv : Pv.p v N) (r : Rm [isIns C fs, Pv] (exV φ (isL R)))
    (J : List α → Hp → Nat → L2.St → Hp → Hp → Prop) (h0 : ∀ l, φ l → ∀ N0 H1, Same N N0 → Same N0 H1 → (∀ c o, c ≠ w → H c = some o → H1 c = some o) → H1 w = some (.lst xs.dropLast) → (∀ c, N c = none → H c ≠ none → N0 c = none) → J l N0 0 σ N0 H1)
    (turn : ∀ l, φ l → ∀ N0 i y v σ1 N1 H1, Same N N0 → l[i]? = some y → Same N0 N1 → Same N1 H1 → J l N0 i σ1 N1 H1 → (R y).p v N0 → g v σ1 H1 fun σ2 H2 => bB X body { D with nx := fun σ3 H3 => ∃ N3, Same N0 N3 ∧ Same N3 H3 ∧ J l N0 (i + 1) σ3 N3 H3, ct := fun σ3 H3 => ∃ N3, Same N0 N3 ∧ Same N3 H3 ∧ J l N0 (i + 1) σ3 N3 H3, bk := bB X rest D } σ2 H2)
    (done : ∀ l, φ l → ∀ N0 σ1 N1 H1, Same N N0 → Same N0 N1 → Same N1 H1 → J l N0 l.length σ1 N1 H1 → bB X rest D σ1 H1)
    (hp : PassesOwn (model X.prog X.w) X.A X.env X.xe) (hc : X.calm = true) (hg : PG X tg g)
    (hb0 : PE X (.Call (.Attribute b "pop" papos) [] [] wpos) (tBM0 X.K "list" rPop (bE X b)) := by exact pe_bm0 PySem.F.plainAttrs_list PySem.F.slot_list_pop PySem.F.type_list_pop mt_pop pe_b)
    (hst : starEach [.Call (.Attribute b "pop" papos) [] [] wpos] X.env = (false, eval (.Call (.Attribute b "pop" papos) [] [] wpos) X.env) :: starEach [] X.env := by rfl) (hpl : (backTo p (starEach [] X.env)).any (·.1) = false := by rfl)
    (ht : eval (.Call (.Attribute o m apos) [.Call (.Attribute b "pop" papos) [] [] wpos] [] p) X.env = (do
      let ov ← eval o X.env
      standAt apos.atName
      let (f, first) ← holding [ov] (getMethod ov m pl)
      callWith p f first (backTo p (starEach [.Call (.Attribute b "pop" papos) [] [] wpos] X.env)) (backToKw p (keywordEach [] X.env))) := by rfl)
    (hs : ∀ x, foldedSetIterable (.Call (.Attribute o m apos) [.Call (.Attribute b "pop" papos) [] [] wpos] [] p) X.env x = pure x := by intro _; rfl) : bB X (.For tg (.Call (.Attribute o m apos) [.Call (.Attribute b "pop" papos) [] [] wpos] [] p) body [] pos :: rest) D σ H := by
  obtain ⟨f, fd, F, hm, hbd⟩ := F
  refine bB_of (t := tSeq (tFor (iList X.K _) g (bB X body)) (bB X rest)) (pss_cons (ps_for hp hc (pi_list (pe_meth pe_b cl hm F hr hbd .nil pass0 (pa_cons hb0 pa_nil hst) hst hpl ht)) hg pss_b hs) pss_b) (ho H s _ fun y N1 H1 g1 p1 => ?_)
  obtain ⟨c, dx, vs, rfl, ec, pr⟩ := id p1
  refine ⟨c, dx, vs, rfl, g1.nh _ _ ec, lookup_none (F := fun v P => P.p v N1) pr hl, hb H1 (s2.trans g1.hh) _ fun z N4 H4 g4 p4 => ?_⟩
  cases p4
  have hw4 : H4 w = some (.lst xs) := g4.hh _ _ (g1.hh _ _ hw)
  refine ⟨.inl ⟨rfl, xs, SqL.of hw4⟩, w, xs, v, rfl, rfl, hw4, hv, ?_⟩
  have n1w : N1 w = none := g1.nw w nw (by rw [hw]; simp)
  have s14 : Same N1 H4 := g1.nh.trans g4.hh
  have s5 : Same N1 (upd H4 w (.lst xs.dropLast)) := fun b o e => by rw [upd_ne (ne_of_none e n1w)]; exact s14 b o e
  show Pure Rm [.ref c, v] (upd H4 w (.lst xs.dropLast)) _ E0
  refine ⟨_, exV φ (isL R), N1, r, s5, .cons p1 (.cons (Pv.mono g1.nn pv) .nil), fun u N6 H6 g6 p6 => ?_⟩
  obtain ⟨l, hφ, ad, ys, rfl, ha, py⟩ := p6
  have n6w : N6 w = none := g6.nw w n1w (by rw [upd_same]; simp)
  refine ⟨ad, rfl, ⟨ys, SqL.of (g6.nh _ _ ha)⟩, for_list (K := X.K) (a := ad) (xs := ys) (fun i σ1 H1 => ∃ N1, Same N6 N1 ∧ Same N1 H1 ∧ J l N6 i σ1 N1 H1) ⟨N6, Same.refl _, g6.nh, h0 l hφ N6 H6 (g1.nn.trans g6.nn) g6.nh (fun c o hc e => g6.hh c o (by rw [upd_ne hc]; exact g4.hh _ _ (g1.hh _ _ e))) (g6.hh _ _ upd_same) (fun c hcn hk => g6.nw c (g1.nw c hcn hk) ?_)⟩ (fun i σ1 H1 _ ⟨N1, s1, s2, _⟩ => SqL.of (s2 _ _ (s1 _ _ ha))) ?_ ?_⟩
  · by_cases hcw : c = w
    · subst hcw; rw [upd_same]; simp
    · rw [upd_ne hcw]; exact same_dom g4.hh c (same_dom g1.hh c hk)
  · rintro i v σ1 H1 hi ⟨N7, s1, s2, j⟩
    have hlt : i < ys.length := (List.getElem?_eq_some_iff.mp hi).1
    have hlt' : i < l.length := by rw [← paired_len py]; exact hlt
    obtain ⟨z, hz, pz⟩ := paired_get py (List.getElem?_eq_getElem hlt')
    rw [hi] at hz
    cases hz
    exact turn l hφ N6 i _ v σ1 N7 H1 (g1.nn.trans g6.nn) (List.getElem?_eq_getElem hlt') s1 s2 j pz
  · rintro σ1 H1 ⟨N7, s1, s2, j⟩
    rw [paired_len py] at j
    exact done l hφ N6 σ1 N7 H1 (g1.nn.trans g6.nn) s1 s2 j
end
end PB
namespace PB
open PySem PySem.Spec PyProof.Rows L2
section
variable {X : Cx} {a b e o : Expr} {pos pos' p : Pos} {σ : L2.St} {N H : Hp} {x : Str} {rest : List Stmt} {D : Ends} {P : VP}
/-- name += e, of numbers -/
theorem b_augI {n : Nat} {i j : Int} (hx : σ[n]? = some (some (.int i))) (h : Ev X e σ N (I j)) (s : Same N H) (k : ∀ H', Same H H' → bB X rest D (σ.set n (some (.int (i + j)))) H') (nd : X.N.Nodup) (hi : X.N[n]? = some x := by rfl) (hl : Loc X.env.scope x := by first | exact Or.inl rfl | exact Or.inr rfl)
    (hf : X.fn x = true ∨ X.env.scope.names.lookup x = some .local := by first | exact .inl rfl | exact .inr rfl) : bB X (.AugAssign (.Name x pos') .Add e pos :: rest) D σ H :=
  bB_of (t := tSeq (tAug n (bE X e) (ipI fun i j => i + j)) (bB X rest)) (pss_cons (ps_aug nd hi hl pe_b ip_add hf) pss_b) ⟨_, hx, h H s _ fun v N1 H1 g p => by
    cases p
    exact ⟨i, j, rfl, rfl, k H1 g.hh⟩⟩
/-- name = [e], to be changed -/
theorem b_asgM1 {n : Nat} {y : Str} {pl pe : Pos} (h : Ev X e σ N P) (s : Same N H) (q : ∀ l v N' H1 H', H l = none → N' l = none → Grow N H N' H1 → P.p v N' → Same H1 H' → Same N' H' → H' l = some (.lst [v]) → bB X rest D (σ.set n (some (.ref l))) H') (nd : X.N.Nodup) (hi : X.N[n]? = some y := by rfl) (hx : Loc X.env.scope y := by first | exact Or.inl rfl | exact Or.inr rfl)
    (hf : X.fn y = true ∨ X.env.scope.names.lookup y = some .local := by first | exact .inl rfl | exact .inr rfl) (hs : swapsWith (.List [e] pl) (some (.Name y pe)) pos.line X.env = pure false := by rfl) (hs1 : starEach [e] X.env = (false, eval e X.env) :: starEach [] X.env := by rfl) : bB X (.Assign [.Name y pe] (.List [e] pl) pos :: rest) D σ H :=
  bB_of (pss_cons (ps_set nd hi hx (pe_lst pa_b) hs hf) pss_b) ((ea_cons h ea_nil hs1) H s _ fun vs N1 H1 g1 p1 => by
    obtain ⟨v, rfl, pv⟩ := paired1 p1
    exact ⟨sz_le (by show 1 ≤ 1000000; decide), fun l hl => q l v N1 H1 _ (g1.hh.free hl) (g1.nh.free hl) g1 pv (same_new hl) (g1.nh.trans (same_new hl)) upd_same⟩)
end
end PB
namespace PB
open PySem PySem.Spec PyProof.Rows L2
/-! ### zip of a tuple and a list -/
/-- turn by turn a new pair: of the tuple at a, of the list at b -/
def ItM (K : PySem.W.Frag) (a b : Addr) : It where
  go := fun i H => ∃ us vs, SqT K H a us ∧ SqL K H b vs ∧ i < us.length ∧ i < vs.length
  yld := fun i H v H' => ∃ T u1 v1, v = .ref T ∧ H T = none ∧ H' = upd H T (.tup [u1, v1]) ∧ (∀ us, SqT K H a us → us[i]? = some u1) ∧ ∀ vs, SqL K H b vs → vs[i]? = some v1
  stop := fun i H => ∃ us vs, SqT K H a us ∧ SqL K H b vs ∧ i = us.length ∧ i = vs.length
def MixSt (z TI TO j1 j2 a b : Addr) (i : Nat) (h : Heap) : Prop :=
  IsZip h z TI TO .none ∧ IsTupOf2 h TI (.ref j1) (.ref j2) ∧ (∃ p q, IsTupOf2 h TO p q) ∧ h.IsTupleIter j1 a i ∧ h.IsListIter j2 b i
theorem mem5 {c z TI TO j1 j2 : Addr} (h : c ∈ [z, TI, TO, j1, j2]) : c = z ∨ c = TI ∨ c = TO ∨ c = j1 ∨ c = j2 := by
  simpa using h
theorem MixSt.all {z TI TO j1 j2 a b : Addr} {i : Nat} {h : Heap} (st : MixSt z TI TO j1 j2 a b i h) (c : Addr) (hc : c ∈ [z, TI, TO, j1, j2]) : ∃ o, h.get? c = some o ∧ ∀ v, o.data ≠ .cell v := by
  obtain ⟨m1, m2, ⟨p, q, m3⟩, ⟨ob1, m4, _, k4⟩, ob2, m5, _, k5⟩ := st
  rcases mem5 hc with rfl | rfl | rfl | rfl | rfl
  · exact ⟨_, m1, by intro v z; cases z⟩
  · exact ⟨_, m2, by intro v z; cases z⟩
  · exact ⟨_, m3, by intro v z; cases z⟩
  · exact ⟨_, m4, by intro v z; rw [k4] at z; cases z⟩
  · exact ⟨_, m5, by intro v z; rw [k5] at z; cases z⟩
theorem turn_mix {P : Program} {w : World} {K : PySem.W.Frag} {ts : List Expr} {n : Nat} {tp : Pos} {a b z TI TO j1 j2 : Addr} (S : ZipSep2 z TI TO j1 j2 [j1, a] [j2, b]) :
    Turn P w K (.Tuple ts n tp) (ItM K a b) [z, TI, TO, j1, j2] z (MixSt z TI TO j1 j2 a b) := by
  have zj1 : j1 ≠ z := S.zi1.symm
  have zj2 : j2 ≠ z := S.zi2.symm
  have aj : a ≠ j1 ∨ True := Or.inr trivial
  refine { mem := List.mem_cons_self, obj := fun i h st => st.all, keep := ?_, item := ?_, done := ?_, self := fun A i s Q E st => wpAny_pyIter_zip st.1 }
  · rintro i h g ⟨m1, m2, ⟨p, q, m3⟩, m4, m5⟩ k
    exact ⟨k z (by simp) _ m1, k TI (by simp) _ m2, ⟨p, q, k TO (by simp) _ m3⟩, m4.at (k j1 (by simp)), m5.at (k j2 (by simp))⟩
  · rintro X rfl rfl rfl hc i pins s σ H E I hf ⟨m1, m2, ⟨p, q, m3⟩, m4, m5⟩ ⟨us, vs, ha, hb, lu, lv⟩
    obtain ⟨xs, rx, px, _⟩ := I.tuple ha
    obtain ⟨ys, ry, py, _⟩ := I.list hb
    have ex : us[i]? = some us[i] := List.getElem?_eq_getElem lu
    have ey : vs[i]? = some vs[i] := List.getElem?_eq_getElem lv
    obtain ⟨x, hx, qx⟩ := rx.get ex
    obtain ⟨y, hy, qy⟩ := ry.get ey
    have na : a ≠ j1 := fun e => by
      obtain ⟨o, e1, c1, _⟩ := m4
      obtain ⟨o', e2, c2, _⟩ := px
      rw [e, e1] at e2
      cases e2
      rw [c1] at c2
      exact absurd c2 (by decide)
    have nb : b ≠ j2 := fun e => by
      obtain ⟨o, e1, c1, _⟩ := m5
      obtain ⟨o', _, e2, c2, _⟩ := py
      rw [e, e1] at e2
      cases e2
      rw [c1] at c2
      exact absurd c2 (by decide)
    have hd : X.A.in1.handled = none := I.ok.hd hc
    have lz := Heap.lt_size m1
    refine wpAny_pyNext_zipD2_item S (Draws.tuple hd j1 a na xs.toArray) (Draws.list hd j2 b nb ys.toArray) m1 m2 m3 ⟨m4, px⟩ ⟨m5, py.isList⟩ (by rw [List.size_toArray, ← rx.length]; exact lu) (by rw [List.size_toArray, ← ry.length]; exact lv)
      fun x1 y1 h1 tk e1 e2 n1 n3 n4 n5 nT hz hk => ⟨_, rfl, ?_⟩
    have e1' : x1 = x := by
      have e1 : xs.toArray[i]? = some x1 := e1
      rw [List.getElem?_toArray, hx] at e1
      exact (Option.some.inj e1).symm
    have e2' : y1 = y := by
      have e2 : ys.toArray[i]? = some y1 := e2
      rw [List.getElem?_toArray, hy] at e2
      exact (Option.some.inj e2).symm
    subst e1' e2'
    have n2 : IsTupOf2 h1 TI (.ref j1) (.ref j2) := hk _ _ S.TIz S.TITO S.TIi1 S.TIi2 m2
    refine wpAny_letOwnedTupleGo_zip (s := { s with heap := h1, toks := tk }) n1 fun h2 w1 sb => ?_
    have up : ∀ c o, c ≠ z → h1.get? c = some o → h2.get? c = some o := fun c o hc e => (sb.2 c hc).trans e
    have old : ∀ c o, c ∉ [z, TI, TO, j1, j2] → s.heap.get? c = some o → h2.get? c = some o := fun c o hc e =>
      up c o (fun q => hc (by simp [q])) (hk c o (fun q => hc (by simp [q])) (fun q => hc (by simp [q])) (fun q => hc (by simp [q])) (fun q => hc (by simp [q])) e)
    have J := I.turnedNew (t' := tk) (T := s.heap.objs.size) (ob := .tup [us[i], vs[i]]) old hf (Nat.le_refl _) ⟨by show 2 ≤ sizeLine; decide, [x1, y1], .cons qx (.cons qy .nil), ⟨_, up _ _ (Nat.ne_of_gt lz) nT, rfl, _, rfl⟩⟩
    refine ⟨.ref s.heap.objs.size, _, J, rfl, ⟨_, us[i], vs[i], rfl, I.hok.fresh (Nat.le_refl _), rfl, fun l q => ?_, fun l q => ?_⟩, ⟨w1, up _ _ S.TIz n2, ⟨_, _, up _ _ S.TOz n3⟩, n4.1.at fun o => up _ o zj1, n5.1.at fun o => up _ o zj2⟩, fun c hc => ?_⟩
    · rw [I.tuple_inj q ha]; exact ex
    · rw [I.list_inj q hb]; exact ey
    · obtain ⟨o, e, _⟩ := MixSt.all (i := i) (a := a) (b := b) ⟨m1, m2, ⟨_, _, m3⟩, m4, m5⟩ c hc
      rw [upd_ne (Nat.ne_of_lt (Heap.lt_size e))]
      exact (hf c hc).1
  · rintro X rfl rfl rfl hc i pins s σ H E I hf ⟨m1, m2, ⟨p, q, m3⟩, m4, m5⟩ ⟨us, vs, ha, hb, lu, lv⟩
    obtain ⟨xs, rx, px, _⟩ := I.tuple ha
    obtain ⟨ys, ry, py, _⟩ := I.list hb
    have na : a ≠ j1 := fun e => by
      obtain ⟨o, e1, c1, _⟩ := m4
      obtain ⟨o', e2, c2, _⟩ := px
      rw [e, e1] at e2
      cases e2
      rw [c1] at c2
      exact absurd c2 (by decide)
    have nb : b ≠ j2 := fun e => by
      obtain ⟨o, e1, c1, _⟩ := m5
      obtain ⟨o', _, e2, c2, _⟩ := py
      rw [e, e1] at e2
      cases e2
      rw [c1] at c2
      exact absurd c2 (by decide)
    have hd : X.A.in1.handled = none := I.ok.hd hc
    have k1 : i = xs.toArray.size := by rw [List.size_toArray, ← rx.length]; exact lu
    have k2 : i = ys.toArray.size := by rw [List.size_toArray, ← ry.length]; exact lv
    exact wpAny_pyNext_zipD2_end S (Draws.tuple hd j1 a na xs.toArray) (Draws.list hd j2 b nb ys.toArray) m1 m2 m3 ⟨m4, px⟩ ⟨m5, py.isList⟩ (Nat.le_of_eq k1) (Nat.le_of_eq k2) (.inl k1)
      fun h1 tk hk => ⟨rfl, I.turnedL (t' := tk) (ch := [z, TI, TO, j1, j2]) (fun c o hc e => hk c o (fun q => hc (by simp [q])) (fun q => hc (by simp [q])) (fun q => hc (by simp [q])) (fun q => hc (by simp [q])) e) hf⟩
theorem sep_mix {n a b : Nat} (la : a < n) (lb : b < n) : ZipSep2 (n + 4) (n + 2) (n + 3) n (n + 1) [n, a] [n + 1, b] := by
  constructor <;> first
    | (show ((_ : Nat) ∈ _); simp; done)
    | (show ¬ ((_ : Nat) ∈ _); simp only [List.mem_cons, List.not_mem_nil, or_false, not_or]; constructor <;> (show ¬ ((_ : Nat) = _); omega))
    | (show ¬ ((_ : Nat) = _); omega)
def iZM (K : PySem.W.Frag) (ta : TA) : TI := fun σ H R => ta σ H fun ws H1 => ∃ a b us vs, ws = [.ref a, .ref b] ∧ SqT K H1 a us ∧ SqL K H1 b vs ∧ R (ItM K a b) H1
theorem pi_zm {X : Cx} {e1 e2 : Expr} {ta : TA} {p pos tp : Pos} {ts : List Expr} {n : Nat} (hg : Gl X "zip") (hm : X.mg "zip" = none) (ha : PA X [e1, e2] ta) (hs : starEach [e1, e2] X.env = (false, eval e1 X.env) :: starEach [e2] X.env := by rfl)
    (hpl : (backTo pos (starEach [e2] X.env)).any (·.1) = false := by rfl) : PI X (.Tuple ts n tp) (.Call (.Name "zip" p) [e1, e2] [] pos) (iZM X.K ta) := by
  constructor
  intro pins s σ H R I h
  refine Call_ (ld_blt I hg hm PyProof.Rows.boot_zip (PyProof.Rows.callWith_type1 (thn (ha.run pos pins s σ H _ I h) fun as t hh => ?_) hs hpl))
  obtain ⟨ws, H1, J, rv, a, b, us, vs, rfl, qa, qb, q⟩ := hh
  rcases rv with _ | ⟨r1, _ | ⟨r2, _ | _⟩⟩
  cases r1
  cases r2
  obtain ⟨xs, _, px, _⟩ := J.tuple qa
  obtain ⟨ys, _, py, _⟩ := J.list qb
  obtain ⟨_, la, _⟩ := id px
  obtain ⟨_, _, lb, _⟩ := id py
  refine zip_begins2 (begins_tuple a xs.toArray) (begins_list b ys.toArray) px py.isList fun h' g1 g2 g3 g4 g5 _ hk => wpAny_pyIter_zip g1 ?_
  refine ⟨_, _, _, _, H1, rfl, J.kept (t' := t.toks) hk, turn_mix (sep_mix (Heap.lt_size la) (Heap.lt_size lb)), ⟨g1, g2, ⟨_, _, g3⟩, ⟨_, g4, rfl, rfl⟩, ⟨_, g5, rfl, rfl⟩⟩, fun c hc => ?_, q⟩
  have le : t.heap.objs.size ≤ c := by rcases mem5 hc with rfl | rfl | rfl | rfl | rfl <;> first | exact Nat.le_refl _ | exact Nat.le_add_right _ _
  exact J.fpOk le (J.hok.fresh le)
theorem walk_mix {K : PySem.W.Frag} {a b : Addr} {us vs : List V} (e : us.length = vs.length) : Walk (ItM K a b) us.length (fun H => SqT K H a us ∧ SqL K H b vs) (YPair (fun i => us[i]?) (fun i => vs[i]?)) where
  goes := fun i H hi q => ⟨us, vs, q.1, q.2, hi, e ▸ hi⟩
  stops := fun H q => ⟨us, vs, q.1, q.2, rfl, e⟩
  yields := fun i H x H' _ q y => by
    obtain ⟨T, u, v, y1, y2, y3, y4, y5⟩ := y
    exact ⟨T, u, v, y1, y2, y3, y4 us q.1, y5 vs q.2⟩
section
variable {X : Cx} {a b : Expr} {pos p px : Pos} {σ : L2.St} {N H : Hp} {rest body : List Stmt} {D : Ends}
/-- for u, v in zip(tuple, list), of one length -/
theorem b_forZ {α : Type} {R : α → VP} {l : List α} {Ps : List VP} {i1 i2 : Nat} {t1 t2 : Expr} {kk : Nat} (hm : X.mg "zip" = none) (h1 : Ev X a σ N (isT Ps)) (h2 : Ev X b σ N (isL R l)) (hl : Ps.length = l.length) (s : Same N H) (J : Hp → Nat → L2.St → Hp → Hp → Prop)
    (h0 : ∀ N0 H1, Grow N H N0 H1 → J N0 0 σ N0 H1)
    (turn : ∀ N0 i P y u v σ1 N1 H1, Same N N0 → Ps[i]? = some P → l[i]? = some y → Same N0 N1 → Same N1 H1 → J N0 i σ1 N1 H1 → P.p u N0 → (R y).p v N0 → ∀ H2, Same H1 H2 →
      bB X body { D with nx := fun σ3 H3 => ∃ N3, Same N0 N3 ∧ Same N3 H3 ∧ J N0 (i + 1) σ3 N3 H3, ct := fun σ3 H3 => ∃ N3, Same N0 N3 ∧ Same N3 H3 ∧ J N0 (i + 1) σ3 N3 H3, bk := bB X rest D } ((σ1.set i1 (some u)).set i2 (some v)) H2)
    (done : ∀ N0 σ1 N1 H1, Same N N0 → Same N0 N1 → Same N1 H1 → J N0 l.length σ1 N1 H1 → bB X rest D σ1 H1)
    (hp : PassesOwn (model X.prog X.w) X.A X.env X.xe) (hc : X.calm = true) (hg : PG X (.Tuple [t1, t2] kk px) (gTup X.K 2 (gCons (gName i1) (gCons (gName i2) gNil)))) (hgl : Gl X "zip" := by rfl)
    (hse : starEach [a, b] X.env = (false, eval a X.env) :: starEach [b] X.env := by rfl) (hse2 : starEach [b] X.env = (false, eval b X.env) :: starEach [] X.env := by rfl) (hpl : (backTo pos (starEach [b] X.env)).any (·.1) = false := by rfl)
    (hs : ∀ x, foldedSetIterable (.Call (.Name "zip" p) [a, b] [] pos) X.env x = pure x := by intro _; rfl) {pos2 : Pos} : bB X (.For (.Tuple [t1, t2] kk px) (.Call (.Name "zip" p) [a, b] [] pos) body [] pos2 :: rest) D σ H := by
  refine bB_of (t := tSeq (tFor (iZM X.K (bA X [a, b])) _ (bB X body)) (bB X rest)) (pss_cons (ps_for hp hc (pi_zm hgl hm pa_b hse hpl) hg pss_b hs) pss_b) ?_
  refine (ea_cons h1 (ea_cons h2 ea_nil hse2) hse) H s _ fun ws N0 H1 g1 p1 => ?_
  obtain ⟨v1, v2, rfl, ⟨ad, us, rfl, ha, pu⟩, ⟨bd, vs, rfl, hb, pv⟩⟩ := paired2 p1
  have el : us.length = vs.length := by rw [paired_len pu, paired_len pv, hl]
  refine ⟨ad, bd, us, vs, rfl, SqT.of (g1.nh _ _ ha), SqL.of (g1.nh _ _ hb), for_it (walk_mix el) (fun i σ1 H1 => ∃ N1, Same N0 N1 ∧ Same N1 H1 ∧ J N0 i σ1 N1 H1) ⟨N0, Same.refl _, g1.nh, h0 N0 H1 g1⟩
    (fun i σ1 H1 _ ⟨N1, s1, s2, _⟩ => ⟨SqT.of (s2 _ _ (s1 _ _ ha)), SqL.of (s2 _ _ (s1 _ _ hb))⟩) ?_ ?_⟩
  · rintro i x σ1 H1 H2 lt ⟨N1, s1, s2, j⟩ ⟨T, u, w, rfl, nT, rfl, hu, hw⟩
    have lt1 : i < Ps.length := by rw [← paired_len pu]; exact lt
    have lt2 : i < l.length := by rw [← hl]; exact lt1
    obtain ⟨z, hz, pz⟩ := paired_get pu (List.getElem?_eq_getElem lt1)
    obtain ⟨z2, hz2, pz2⟩ := paired_get pv (List.getElem?_eq_getElem lt2)
    have hu : us[i]? = some u := hu
    have hw : vs[i]? = some w := hw
    rw [hz] at hu
    rw [hz2] at hw
    cases hu
    cases hw
    exact ⟨T, _, rfl, SqT.of upd_same, rfl, _, _, rfl, _, _, rfl, rfl, turn N0 i _ _ _ _ σ1 N1 H1 g1.nn (List.getElem?_eq_getElem lt1) (List.getElem?_eq_getElem lt2) s1 s2 j pz pz2 _ (same_new nT)⟩
  · rintro σ1 H1 ⟨N1, s1, s2, j⟩
    have e : us.length = l.length := by rw [paired_len pu, hl]
    rw [e] at j
    exact done N0 σ1 N1 H1 g1.nn s1 s2 j
/-- d[k], d a dict of the module with words as keys -/
theorem ev_ixK {ad : Addr} {z : Str} {v : V} (ha : Ev X a σ N (is (.ref ad))) (hb : Ev X b σ N (is (.str z))) (k : KDct X.K X.w ad z v) (hs : PlainIx b := by intro _ _; rfl) : Ev X (.Subscript a b pos) σ N (is v) :=
  ev_pe (pe_ix ix_kdict pe_b pe_b hs) fun H s Q q => ha.two hb s fun x y N' H' g p1 p2 => ⟨ad, z, v, p1, p2, k, q v N' H' g rfl⟩
/-- t[i], t a written tuple of the module -/
theorem ev_ixW {ad : Addr} {l : List Int} {i n : Int} (ha : Ev X a σ N (is (.ref ad))) (hb : Ev X b σ N (I i)) (k : ∀ H, SqT X.K H ad (l.map V.int)) (e : atI (l.map V.int) i = some (V.int n)) (hs : PlainIx b := by intro _ _; rfl) : Ev X (.Subscript a b pos) σ N (I n) :=
  ev_pe (pe_ix ix_tup pe_b pe_b hs) fun H s Q q => ha.two hb s fun x y N' H' g p1 p2 => ⟨ad, _, i, .int n, p1, p2, k H', e, q _ N' H' g rfl⟩
end
end PB
namespace PySem
namespace RefX
open PySem.W PySem.Calls PyProof.Rows PySem.HandSPX
/-! ### the text of __init__ -/
def iA (p1 p2 : Pos) : Arguments := { posonlyargs := [], args := [{ arg := "self", annotation := none, pos := p1 }, { arg := "answer", annotation := none, pos := p2 }], vararg := none, kwonlyargs := [], kw_defaults := [], kwarg := none, defaults := [] }
def iB (q1 q2 q3 q4 : Pos) : List Stmt := [.Assign [.Attribute (.Name "self" q1) "answer" q2] (.Name "answer" q3) q4]
def iS : Scope := { kind := .function, names := [(PySem.Str.ofString "self", .local), (PySem.Str.ofString "answer", .local)], isGenerator := false, isCoroutine := false, more := [] }
/-- what the written part says of Refused, at C, and of its __init__, at fI -/
structure RefTxt (K : Frag) (mg : Str → Option Value) (C fI : Addr) : Prop where
  gC : mg "Refused" = some (.ref C)
  cls : ∃ nm q N bs bm sn sub ab col dd k0 k1 k2 k3 k5, K.lookup C = some (excClassObj nm q C N bs bm true sn sub ab col dd k0 k1 k2 k3 k5 "ValueError.__new__") ∧ refsVE bm = true
  sa : findIn K (.ref C) "__setattr__" = some (some (.builtin "object.__setattr__"))
  ga : findIn K (.ref C) "__getattribute__" = some (some (.builtin "BaseException.__getattribute__"))
  gg : findIn K (.ref C) "__getattr__" = some none
  noN : findIn K (.ref C) "answer" = some none
  iC : findIn K (.ref C) "__init__" = some (some (.ref fI))
  tC : typeIn K (.ref fI) = some (.type "function")
  kC : keepIn K (.ref C) = true
  exC : subIn K (.ref C) (.type "BaseException") = some true
  tyC : typeIn K (.ref C) = some (.type "type")
  hdC : hasDictIn K C = true
  te : exmOne K (.ref C) (.ref C) = some true
  fn : ∃ (oc : Value) (od : Option Addr) (doc pm : Value) (an : Option Addr) (cdv ct : Value) (osl : Array (Option Value)) (p1 p2 q1 q2 q3 q4 : Pos),
    K.lookup fI = some ⟨oc, od, .func (fnOf "__init__" "Refused.__init__" (iA p1 p2) (iB q1 q2 q3 q4) iS .none .none doc pm an cdv ct), osl⟩ ∧ codeIn K cdv "Refused.__init__" = true
theorem one_size (v : Value) : [v].length ≤ sizeLine := by
  rw [sizeLine_eq]
  exact (by decide : 1 ≤ 16777216)
theorem kept_but {K : Frag} {h h' : Heap} {x : Addr} (X : K.In h) (hx : K.lookup x = none) (k : ∀ b o, b ≠ x → h.get? b = some o → h'.get? b = some o) : K.In h' := fun a o e =>
  k a o (fun z => by rw [z, hx] at e; cases e) (X a o e)
theorem ldC {M : Model} {s : Shared} {name : Str} {scope : Scope} {L a : Addr} {cd : Value} {m : Str → Option Value} {x : Str} {pos : Pos} {v : Value} {Q : Value → Shared → Prop} {A : Around} {E : Value → Shared → Prop} (hn : s.heap.Ns L m) (hv : m x = some v) (h : Q v s)
    (hk : scope.kind = .function := by rfl) (hl : (envOfC name scope L a cd).kindOf x = some .local := by rfl) (hd : (x == ("__debug__" : Str)) = false := by decide) :
    wpAny M A (eval (.Name x pos) (envOfC name scope L a cd)) Q E s := wpAny_Name (wpAny_loadName_local hk hl hn hv h) hd
/-- what __init__ leaves of a fresh exception at x -/
structure InitEnd (h h' : Heap) (x C dx t1 : Addr) (v : Value) : Prop where
  keep : ∀ b o, b ≠ x → h.get? b = some o → h'.get? b = some o
  obj : h'.get? x = some { cls := .ref C, dict := some dx, data := .fields #[.ref t1, .none, .none, .none, .bool false, .none] }
  dbig : h.objs.size ≤ dx
  dne : dx ≠ x
  ns : h'.Ns1 dx (fun y => if y = "answer" then some v else none)
/-- a made Refused -/
structure OwnMade (h h' : Heap) (e C d : Addr) (v : Value) : Prop where
  keep : ∀ b o, h.get? b = some o → h'.get? b = some o
  new : h.objs.size ≤ e
  obj : ∃ oe vs, h'.get? e = some oe ∧ oe.cls = .ref C ∧ oe.dict = some d ∧ oe.data = .fields vs ∧ vs[1]? = some .none
  dbig : h.objs.size ≤ d
  dne : d ≠ e
  ns : h'.Ns1 d (fun y => if y = "answer" then some v else none)
section
variable {prog : Program} {w : World} {A : Around} {E : Value → Shared → Prop} {R : Result → Shared → Prop} {s : Shared} {K : Frag} {mg : Str → Option Value} {C fI : Addr}
theorem ref_init (T : RefTxt K mg C fI) {x t0 : Addr} {v : Value} (X : K.In s.heap) (hlim : s.heap.NoLimit) (hx : s.heap.get? x = some (excO C t0)) (hnx : K.lookup x = none) (hroom : A.depth < recursionLimit)
    (hq : ∀ h' tk dx, InitEnd s.heap h' x C dx t0 v → R (.ok (.ret .none)) { s with heap := h', toks := tk }) :
    codeAny (model prog w) A (.call (.ref fI) ⟨[.ref x, v], []⟩) R s := by
  obtain ⟨oc, od, doc, pm, an, cdv, ct, osl, p1, p2, q1, q2, q3, q4, ho, hcd⟩ := T.fn
  obtain ⟨nm, q, N, bs, bm, sn, sub, ab, col, dd, k0, k1, k2, k3, k5, hC, hbm⟩ := T.cls
  have hcl : clsIn K C = some { name := nm, bases := bs, mro := .ref C :: bm, ns := N, qualname := q, hasDict := true, slotNames := sn, subclasses := sub, abstract := ab, collection := col, hasDel := false } := by unfold clsIn; rw [hC] <;> rfl
  refine Att.call_fn (binds := [("self", .ref x), ("answer", v)]) X hlim ho hcd hroom (BindsTo.of_eq (by first | rfl | with_unfolding_all rfl)) (by first | rfl | decide | with_unfolding_all rfl) (fun s₁ IC => ?_) rfl rfl rfl
  obtain ⟨h₁, tk₁, rfl⟩ := IC.toInCall.same
  have k : ∀ b o, s.heap.get? b = some o → h₁.get? b = some o := IC.toInCall.keep
  have hn := IC.toInCall.ns
  have hxL : s.heap.objs.size ≠ x := Nat.ne_of_gt (Heap.lt_size hx)
  have X₁ : K.In h₁ := X.keeps k
  have hx₁ := k _ _ hx
  -- self.answer = answer
  show wpAny _ _ (execs _ _) _ _ _
  refine wpAny_execs_cons (plainObj_wpAny_Assign_Attribute ?_)
  refine ldC (v := v) hn (by first | rfl | with_unfolding_all rfl | kernel_rfl) (ldC (v := .ref x) hn (by first | rfl | with_unfolding_all rfl | kernel_rfl) ?_)
  refine set_plain X₁ (ox := excO C t0) (od := none) ⟨hx₁, rfl, rfl, trivial⟩ T.sa ?_
  refine exc_osa X₁ hx₁ hcl (show refsVE (.ref C :: bm) = true from hbm) rfl T.noN (fun h₃ tk₃ dx k₃ dn dne hx₃ hn₃ => ?_)
  show wpAny _ _ (execs _ _) _ _ _
  have z : s.heap.objs.size < h₁.objs.size := hn.lt
  exact wpAny_execs_nil (hq h₃ tk₃ dx ⟨fun b o hb e => k₃ b o hb (k b o e), hx₃, Nat.le_of_lt (Nat.lt_of_lt_of_le z dn), dne, hn₃⟩)
theorem ref_made (T : RefTxt K mg C fI) {v : Value} (X : K.In s.heap) (hlim : s.heap.NoLimit) (hroom : A.depth + 1 < recursionLimit)
    (hq : ∀ h' tk e d, OwnMade s.heap h' e C d v → R (.ok (.ret (.ref e))) { s with heap := h', toks := tk }) :
    codeAny (model prog w) A (.call (.ref C) ⟨[v], []⟩) R s := by
  obtain ⟨nm, q, N, bs, bm, sn, sub, ab, col, dd, k0, k1, k2, k3, k5, hC, hbm⟩ := T.cls
  obtain ⟨hp, g, dr, tk, os⟩ := s
  have k : ∀ b o, hp.get? b = some o → ((hp.push (kdv_tup [v])).push (excO C hp.objs.size)).get? b = some o := fun b o e => Heap.get?_push_of_some _ (Heap.get?_push_of_some _ e)
  have hget : ((hp.push (kdv_tup [v])).push (excO C hp.objs.size)).get? (hp.objs.size + 1) = some (excO C hp.objs.size) := by heap_get
  have hnx : K.lookup (hp.objs.size + 1) = none := by
    cases e : K.lookup (hp.objs.size + 1) with
    | none => rfl
    | some o =>
      have z : hp.get? (hp.objs.size + 1) = some o := X _ _ e
      exact absurd (Nat.lt_of_succ_lt (Heap.lt_size z)) (Nat.lt_irrefl _)
  refine call_own F.excBase_ValueError (fun X => refsVE_contains X bm hbm) (X _ _ hC) (looks_findIn X T.iC) (fun self => bind_fn X self T.tC) (one_size v) ?_
  refine ref_init (s := ⟨(hp.push (kdv_tup [v])).push (excO C hp.objs.size), g, dr, tk, os⟩) T (X.keeps k) (hlim.keeps k) hget hnx ?_ fun h' tk' dx ⟨k', hx, dn, dne, hns⟩ => ?_
  · show A.depth + 1 < recursionLimit
    exact hroom
  · have old : ∀ b o, hp.get? b = some o → h'.get? b = some o := fun b o e => k' b o (Nat.ne_of_lt (Nat.lt_succ_of_lt (Heap.lt_size e))) (k b o e)
    have z : hp.objs.size + 1 + 1 ≤ dx := by
      first
        | (simpa only [Heap.size_push] using dn)
        | exact dn
        | (have q := dn; rw [Heap.size_push, Heap.size_push] at q; exact q)
    exact ⟨rfl, hq h' tk' (hp.objs.size + 1) dx ⟨old, Nat.le_succ _, ⟨_, _, hx, rfl, rfl, rfl, rfl⟩, Nat.le_trans (Nat.le_trans (Nat.le_succ _) (Nat.le_succ _)) z, dne, hns⟩⟩
end
end RefX
end PySem
namespace L2
open PySem PySem.Spec PyProof.Rows
theorem relO_ref {v : V} {v' : Value} (r : RelV v v') (f : Str) : RelO (List.lookup f [(("answer" : Str), v)]) (if f = "answer" then some v' else none) := by
  by_cases hw : f = "answer"
  · subst hw
    rw [if_pos rfl]
    have q : List.lookup ("answer" : Str) [(("answer" : Str), v)] = some v := by simp [List.lookup]
    rw [q]
    exact r
  · rw [if_neg hw]
    have qw : (f == ("answer" : Str)) = false := by simpa using hw
    have q2 : List.lookup f [(("answer" : Str), v)] = none := by simp [List.lookup, qw]
    rw [q2]
    trivial
section
variable {X : Cx} {C fI : Addr}
/-- Refused(e) -/
def tMkRef (C : Addr) (ta : TA) : St → Hp → XK → Prop := fun σ H Q => ta σ H fun vs H1 => ∃ v, vs = [v] ∧ ∀ d, H1 d = none → Q (.ref C) (some d) (upd H1 d (.xd [(("answer" : Str), v)]))
theorem pmk_ref {a : Expr} {ta : TA} {p pos : Pos} {k : Nat} (T : PySem.RefX.RefTxt X.K X.mg C fI) (hr : Room k X.A) (ha : PA X [a] ta) (hg : Gl X "Refused" := by rfl)
    (he : starEach (a :: []) X.env = (false, eval a X.env) :: starEach [] X.env := by rfl) (hpl : (backTo pos (starEach [] X.env)).any (·.1) = false := by rfl) :
    PMk X (.Call (.Name "Refused" p) [a] [] pos) (tMkRef C ta) := by
  intro pins s σ H Q I h
  refine wpAny_Call_Name_kw (ld_glob I hg T.gC ?_)
  refine PySem.W.callWith_K (h₀ := X.base) I.ok.mod.kin T.kC (thn (ha.run pos pins s σ H _ I h) fun us s1 hh => ?_) he hpl
  obtain ⟨vs, H1, I1, r1, v, ev, q1⟩ := hh
  subst ev
  refine ⟨I1.kIn, ?_⟩
  cases r1 with
  | cons rv rn =>
    rename_i v' us'
    cases rn
    show wpAny _ _ (call (.ref C) [v']) _ _ _
    have hlim := I1.nolimit
    obtain ⟨hp, g, dr, tk, os⟩ := s1
    refine wpAny_call (PySem.RefX.ref_made T I1.kIn hlim (by have := hr.dp; omega) fun h' tk' e d M => ?_)
    show MkP X pins σ Q (.ref e) ⟨h', g, dr, tk', os⟩
    obtain ⟨oe, fv, hoe, hc, hd, hdat, h1⟩ := M.obj
    have hns := M.ns
    obtain ⟨G', g1, g2⟩ := restrict h' fun b => decide (b ≠ e)
    have gk : ∀ b, b ≠ e → G'.get? b = h'.get? b := fun b hb => g1 b (decide_eq_true hb)
    have ge : G'.get? e = none := g2 e (by simp)
    have old : ∀ b o, hp.get? b = some o → G'.get? b = some o := fun b o q => (gk b (Nat.ne_of_lt (Nat.lt_of_lt_of_le (Heap.lt_size q) M.new))).trans (M.keep b o q)
    have ob : ObjOk X.prog X.w (upd H1 d (.xd [(("answer" : Str), v)])) G' d (.xd [(("answer" : Str), v)]) :=
      ⟨_, hns.at (fun o q => (gk d M.dne).trans q), fun f => relO_ref rv f⟩
    have J : Inv X pins σ (upd H1 d (.xd [(("answer" : Str), v)])) ⟨G', g, dr, tk', os⟩ := I1.laid (t' := tk') old M.dbig ob
    refine ⟨e, oe, fv, ⟨G', g, dr, tk', os⟩, _, .ref C, some d, rfl, J, fun b o q => ?_, ge, hoe, ⟨hc, hd⟩, hdat, h1, ?_, rfl, I1.bare, raises_own T.exC T.tyC, q1 d (I1.hok.fresh M.dbig)⟩
    · by_cases hb : b = e
      · have q' : G'.get? b = some o := q
        rw [hb, ge] at q'; cases q'
      · exact (gk b hb).symm.trans q
    · rw [upd_ne (Ne.symm M.dne)]
      exact I1.hok.fresh M.new
/-- raise Refused(e) -/
def tRaiseRef (C : Addr) (W : WX) (ta : TA) : TS := fun _ σ H => tMkRef C ta σ H fun cls d H' => W cls d σ H'
theorem ps_raiseRef {a : Expr} {ta : TA} {W : WX} {p pos pos2 : Pos} {k : Nat} (hc : X.calm = true) (T : PySem.RefX.RefTxt X.K X.mg C fI) (hr : Room k X.A) (tk : Takes X W) (ha : PA X [a] ta) (hg : Gl X "Refused" := by rfl)
    (he : starEach (a :: []) X.env = (false, eval a X.env) :: starEach [] X.env := by rfl) (hpl : (backTo pos (starEach [] X.env)).any (·.1) = false := by rfl) :
    PS X (.Raise (some (.Call (.Name "Refused" p) [a] [] pos)) none pos2) (tRaiseRef C W ta) := ps_raise hc tk (pmk_ref T hr ha hg he hpl)
/-- e.answer, e the exception that the suite holds (at a; its class cls, its dict d) -/
def tAnsRef (C : Addr) (a : Addr) (cls : Value) (d : Option Addr) (te : TE) : TE := fun σ H Q => te σ H fun x H1 => x = .ref a ∧ cls = .ref C ∧ ∃ (dd : Addr) (v : V), d = some dd ∧ H1 dd = some (.xd [(("answer" : Str), v)]) ∧ Q v H1
theorem pe_ansRef {a : Addr} {oe : Obj} {cls : Value} {d : Option Addr} {pn : List (Addr × Obj)} {e : Expr} {te : TE} {pos : Pos} (T : PySem.RefX.RefTxt X.K X.mg C fI) (hz : Zc cls d oe) (hf : ∃ vs, oe.data = .fields vs) (he : PE (X.suite a ((a, oe) :: pn)) e te)
    (hb : attributeBase e "answer" X.env (eval e X.env) = eval e X.env := by rfl) :
    PE (X.suite a ((a, oe) :: pn)) (.Attribute e "answer" pos) (tAnsRef C a cls d te) := by
  refine ⟨fun pins s σ H Q I h => ?_⟩
  refine attr_of hb (thn (he.run pins s σ H _ I h) fun u s1 hh => ?_)
  obtain ⟨x, H1, I1, rx, ex, ec, dd, v, ed, ea, q⟩ := hh
  subst ex
  obtain rfl : u = Value.ref a := rx
  subst ec
  subst ed
  obtain ⟨ha, _⟩ := I1.pin (a, oe) (List.mem_append_left _ List.mem_cons_self)
  obtain ⟨vs, hd⟩ := hf
  have hx : ObjOk X.prog X.w H1 s1.heap dd (.xd [(("answer" : Str), v)]) := I1.hok dd _ ea
  obtain ⟨mA, hns, hr⟩ := hx
  obtain ⟨od, ho, hl⟩ := lookIn_ns hns
  have l : List.lookup ("answer" : Str) [(("answer" : Str), v)] = some v := by simp [List.lookup]
  obtain ⟨u, hu, ru⟩ := RelO.some_of (v := v) (o := mA "answer") (by rw [← l]; exact hr "answer")
  have J : PySem.W.InstAt s1.heap a oe C (some od) := ⟨ha, hz.1, by unfold PySem.W.notCls; rw [hd] <;> rfl, by rw [hz.2]; exact ho⟩
  exact HandSPX.exc_get I1.kIn J T.ga T.gg T.exC (PySem.W.findObj_own T.hdC T.noN rfl (by rw [hl, hu])) (handed_of ru) ⟨v, H1, I1.tok _, ru, q⟩
end
end L2
namespace PB
open PySem PySem.Spec PyProof.Rows L2
/-! ### defs that may refuse -/
/-- Refused(i) goes on: its class, its own dict; all else as it was -/
def Fail (CE : Addr) (i : Int) (H : Hp) (E : XK) : Prop := ∀ d H', Same H H' → H' d = some (.xd [(("answer" : Str), .int i)]) → E (.ref CE) (some d) H'
theorem Fail.more {CE : Addr} {i : Int} {H H1 : Hp} {E : XK} (f : Fail CE i H E) (s : Same H H1) : Fail CE i H1 E := fun d H' t h => f d H' (s.trans t) h
/-- a def that makes new things, or refuses -/
def PureX (CE : Addr) (R : List VP → Except Int VP → Prop) : Sp := fun vs H Q E => ∃ (Ps : List VP) (r : Except Int VP) (N : Hp), R Ps r ∧ Same N H ∧ All vs Ps N ∧ (∀ P, r = .ok P → ∀ v N' H', Grow N H N' H' → P.p v N' → Q v H') ∧ ∀ i, r = .error i → Fail CE i H E
def EndX (r : Except Int VP) (N H : Hp) (v : V) (H' : Hp) : Prop := ∃ P, r = .ok P ∧ ∃ N', Grow N H N' H' ∧ P.p v N'
section
variable {P : Program} {w : World} {K : PySem.W.Frag} {mg : Str → Option Value} {base : Heap}
theorem pureX_ok {CE : Addr} {R : List VP → Except Int VP → Prop} {x qual : Str} {st : Stmt} {f : Addr} {fd : FuncData} {N ps : List Str} {k : Nat} (F : Fun K x qual st f fd) (S : FnScope N ps (defScope st)) (len : ∀ Ps r, R Ps r → Ps.length = ps.length)
    (body : ∀ (cdv : Value) (A : Around) (outer : List Env) (s : Shared) (H0 : Hp) (E : XK) (X : Cx), X = cxOf (L2.CX P w) P w K mg base N qual (defScope st) f cdv A outer s H0 E → Room k X.A → Takes X (fun cls d _ H => E cls d H) → Passes (L2.CX P w) X E → PassesOwn (model X.prog X.w) X.A X.env X.xe →
      ∀ (vs : List V) (Ps : List VP) (r : Except Int VP) (Nh H : Hp), R Ps r → Same Nh H → All vs Ps Nh → (∀ i, r = .error i → Fail CE i H E) → bB (cxOf (L2.CX P w) P w K mg base N qual (defScope st) f cdv A outer s H0 E) (defBody st) { nx := fun _ H' => EndX r Nh H .non H', rt := fun v H' => EndX r Nh H v H' } (start N vs) H) :
    FnOk P w K mg base (L2.CX P w) (k + 1) f fd ps (PureX CE R) := by
  refine F.okX S (fun vs H Q E h => ?_) fun cdv A outer s H vs Q E hr h => ?_
  · obtain ⟨Ps, r, Nh, hR, _, p, _⟩ := h
    rw [paired_len p]; exact len Ps r hR
  · obtain ⟨Ps, r, Nh, hR, sm, p, q, er⟩ := h
    have tk : Takes (cxOf (L2.CX P w) P w K mg base N qual (defScope st) f cdv A outer s H E) (fun cls d _ H => E cls d H) := takes_of rfl rfl rfl rfl
    have fin : ∀ v H', EndX r Nh H v H' → Q v H' := fun v H' ⟨P', e, N', g, p'⟩ => q P' e v N' H' g p'
    refine ⟨_, pss_b, bB_in.mpr fun pins s' I => ?_⟩
    refine thn (bB_in.mp (body cdv A outer s H E _ rfl hr tk (passes_call tk fun _ _ _ _ h => h) (passes_of rfl) vs Ps r Nh H hR sm p er) pins s' I) fun fl s2 h2 => ?_
    cases fl with
    | next =>
      obtain ⟨σ', H', I', z⟩ := h2
      exact ⟨σ', H', I', fin _ _ z⟩
    | brk => obtain ⟨_, _, _, z⟩ := h2; exact z.elim
    | cont => obtain ⟨_, _, _, z⟩ := h2; exact z.elim
    | ret u =>
      obtain ⟨v, σ', H', I', rv, z⟩ := h2
      exact ⟨v, σ', H', I', rv, fin _ _ z⟩
end
/-- an expression that makes new things, or refuses -/
def EvX (CE : Addr) (E : XK) (X : Cx) (e : Expr) (σ : L2.St) (N : Hp) (r : Except Int VP) : Prop :=
  ∀ H, Same N H → ∀ Q : VK, (∀ P, r = .ok P → ∀ v N' H', Grow N H N' H' → P.p v N' → Q v H') → (∀ i, r = .error i → Fail CE i H E) → bE X e σ H Q
section
variable {X : Cx} {e a b o : Expr} {es : List Expr} {pos apos p : Pos} {σ : L2.St} {N N0 H0 H : Hp} {k : Nat} {x m : Str} {ps : List Str} {R : List VP → Except Int VP → Prop} {Ps : List VP} {r : Except Int VP} {C CE : Addr} {fs : List (Str × VP)} {E : XK} {rest : List Stmt} {D : Ends}
theorem evx_call (F : GF X.prog X.w X.K X.mg X.base (L2.CX X.prog X.w) k x ps (PureX CE R)) (hr : Room k X.A) (hx : Passes (L2.CX X.prog X.w) X E) (ha : EvA X (e :: es) σ N Ps) (h : R Ps r) (hg : Gl X x := by rfl) (hdb : (x == ("__debug__" : Str)) = false := by decide)
    (he : starEach (e :: es) X.env = (false, eval e X.env) :: starEach es X.env := by rfl) (hpl : (backTo pos (starEach es X.env)).any (·.1) = false := by rfl) : EvX CE E X (.Call (.Name x p) (e :: es) [] pos) σ N r := by
  obtain ⟨f, fd, F, hm, hk, hb⟩ := F
  intro H s Q q f
  refine bE_of (pe_call F hr hg hm hk hb .nil hx pa_b hdb he hpl) (ha H s _ fun vs N' H' g p1 => ?_)
  rw [List.append_nil]
  exact ⟨Ps, r, N', h, g.nh, p1, fun P e v N2 H2 g2 p2 => q P e v N2 H2 (g.trans g2) p2, fun i e => (f i e).more g.hh⟩
theorem evx_meth {pl : Sem Bool} (F : MF X.prog X.w X.K X.mg X.base (L2.CX X.prog X.w) k C m ps (PureX CE R)) (c : Cls X.K C) (hr : Room k X.A) (hx : Passes (L2.CX X.prog X.w) X E) (ho : Ev X o σ N (isIns C fs)) (hl : fs.lookup m = none) (ha : EvA X (e :: es) σ N Ps) (h : R (isIns C fs :: Ps) r)
    (hst : starEach (e :: es) X.env = (false, eval e X.env) :: starEach es X.env := by rfl) (hpl : (backTo pos (starEach es X.env)).any (·.1) = false := by rfl)
    (ht : eval (.Call (.Attribute o m apos) (e :: es) [] pos) X.env = (do
      let ov ← eval o X.env
      standAt apos.atName
      let (f, first) ← holding [ov] (getMethod ov m pl)
      callWith pos f first (backTo pos (starEach (e :: es) X.env)) (backToKw pos (keywordEach [] X.env))) := by rfl) : EvX CE E X (.Call (.Attribute o m apos) (e :: es) [] pos) σ N r := by
  obtain ⟨f, fd, F, hm, hb⟩ := F
  intro H s Q q f
  refine bE_of (pe_meth pe_b c hm F hr hb .nil hx pa_b hst hpl ht) (ho H s _ fun y N1 H1 g1 p1 => ?_)
  obtain ⟨a, dx, vs, rfl, ea, pr⟩ := id p1
  refine ⟨a, dx, vs, rfl, g1.nh _ _ ea, lookup_none (F := fun v P => P.p v N1) pr hl, (ha.mono g1.nn) H1 g1.nh _ fun us N2 H2 g2 p2 => ?_⟩
  rw [List.append_nil]
  exact ⟨_, r, N2, h, g2.nh, .cons ((isIns C fs).mono g2.nn p1) p2, fun P e v N3 H3 g3 p3 => q P e v N3 H3 ((g1.trans g2).trans g3) p3, fun i e => (f i e).more (g1.hh.trans g2.hh)⟩
theorem evx_meth0 {pl : Sem Bool} (F : MF X.prog X.w X.K X.mg X.base (L2.CX X.prog X.w) k C m ps (PureX CE R)) (c : Cls X.K C) (hr : Room k X.A) (hx : Passes (L2.CX X.prog X.w) X E) (ho : Ev X o σ N (isIns C fs)) (hl : fs.lookup m = none) (h : R [isIns C fs] r)
    (ht : eval (.Call (.Attribute o m apos) [] [] pos) X.env = (do
      let ov ← eval o X.env
      standAt apos.atName
      let (f, first) ← holding [ov] (getMethod ov m pl)
      callWith pos f first (backTo pos (starEach [] X.env)) (backToKw pos (keywordEach [] X.env))) := by rfl) : EvX CE E X (.Call (.Attribute o m apos) [] [] pos) σ N r := by
  obtain ⟨f, fd, F, hm, hb⟩ := F
  intro H s Q q f
  refine bE_of (pe_meth0 pe_b c hm F hr hb .nil hx ht) (ho H s _ fun y N1 H1 g1 p1 => ?_)
  obtain ⟨a, dx, vs, rfl, ea, pr⟩ := id p1
  refine ⟨a, dx, vs, rfl, g1.nh _ _ ea, lookup_none (F := fun v P => P.p v N1) pr hl, ?_⟩
  exact ⟨_, r, N1, h, g1.nh, .cons p1 .nil, fun P e v N3 H3 g3 p3 => q P e v N3 H3 (g1.trans g3) p3, fun i e => (f i e).more g1.hh⟩
/-- a statement that may refuse -/
theorem w_exprX (g : Grow N0 H0 N H) (h : EvX CE E X e σ N r) (ok : ∀ P, r = .ok P → ∀ H1, Grow N0 H0 N H1 → bB X rest D σ H1) (er : ∀ i, r = .error i → Fail CE i H0 E) (hs : swapsWith e none pos.line X.env = pure false := by rfl) : bB X (.Expr e pos :: rest) D σ H :=
  bB_of (t := tSeq (tDrop (bE X e)) (bB X rest)) (pss_cons (ps_expr pe_b hs) pss_b) (h H g.nh _ (fun P e v N' H' g' _ => ok P e H' (g.more g'.hh)) fun i e => (er i e).more g.hh)
theorem w_endX {P : VP} {nx : L2.St → Hp → Prop} {bk ct : L2.St → Hp → Prop} (g : Grow N0 H0 N H) (h : Ev X e σ N P) (hr : r = .ok P) : bB X (.Return (some e) pos :: rest) { nx := nx, rt := fun v H' => EndX r N0 H0 v H', bk := bk, ct := ct } σ H :=
  b_ret h g.nh fun v N' H' g' p => ⟨P, hr, N', g.trans g', p⟩
end
end PB
namespace PB
open PySem PySem.Spec PyProof.Rows L2
/-! ### an object with fields that change: what stands at c -/
/-- at c an instance of CK with fields fs, told by the known part N -/
def Kat (CK c : Addr) (fs : List (Str × VP)) (N H : Hp) : Prop := ∃ dx vs, H c = some (.ins CK dx vs) ∧ Paired (fun (v : Str × V) (y : Str × VP) => v.1 = y.1 ∧ y.2.p v.2 N) vs fs
theorem Kat.more {CK c : Addr} {fs : List (Str × VP)} {N H N' H' : Hp} (k : Kat CK c fs N H) (s : Same N N') (e : ∀ o, H c = some o → H' c = some o) : Kat CK c fs N' H' := by
  obtain ⟨dx, vs, h, p⟩ := k
  exact ⟨dx, vs, e _ h, Paired.mapP p fun v y z => ⟨z.1, y.2.mono s z.2⟩⟩
/-- a def that may change the object at its first argument: from fs to fs', with an answer; or it refuses -/
def SpM (CE CK : Addr) {S : Type} (F : S → List (Str × VP)) (R : S → List VP → Except Int (S × VP) → Prop) : Sp := fun vs H Q E => ∃ (c : Addr) (args : List V) (a : S) (Ps : List VP) (r : Except Int (S × VP)) (N : Hp),
  vs = .ref c :: args ∧ R a Ps r ∧ N c = none ∧ Same N H ∧ Kat CK c (F a) N H ∧ All args Ps N ∧
  (∀ b P, r = .ok (b, P) → ∀ v N' H', But c N H N' H' → Kat CK c (F b) N' H' → P.p v N' → Q v H') ∧ ∀ i, r = .error i → Fail CE i H E
def EndM {S : Type} (CK : Addr) (F : S → List (Str × VP)) (r : Except Int (S × VP)) (c : Addr) (N H : Hp) (v : V) (H' : Hp) : Prop := ∃ b P, r = .ok (b, P) ∧ ∃ N', But c N H N' H' ∧ Kat CK c (F b) N' H' ∧ P.p v N'
section
variable {P : Program} {w : World} {K : PySem.W.Frag} {mg : Str → Option Value} {base : Heap} {S : Type} {F : S → List (Str × VP)}
theorem spM_ok {CE CK : Addr} {R : S → List VP → Except Int (S × VP) → Prop} {x qual : Str} {st : Stmt} {f : Addr} {fd : FuncData} {N ps : List Str} {k : Nat} (U : Fun K x qual st f fd) (Z : FnScope N ps (defScope st)) (len : ∀ a Ps r, R a Ps r → Ps.length + 1 = ps.length)
    (body : ∀ (cdv : Value) (A : Around) (outer : List Env) (s : Shared) (H0 : Hp) (E : XK) (X : Cx), X = cxOf (L2.CX P w) P w K mg base N qual (defScope st) f cdv A outer s H0 E → Room k X.A → Takes X (fun cls d _ H => E cls d H) → Passes (L2.CX P w) X E → PassesOwn (model X.prog X.w) X.A X.env X.xe →
      ∀ (c : Addr) (args : List V) (a : S) (Ps : List VP) (r : Except Int (S × VP)) (Nh H : Hp), R a Ps r → Nh c = none → Same Nh H → Kat CK c (F a) Nh H → All args Ps Nh → (∀ i, r = .error i → Fail CE i H E) →
        bB (cxOf (L2.CX P w) P w K mg base N qual (defScope st) f cdv A outer s H0 E) (defBody st) { nx := fun _ H' => EndM CK F r c Nh H .non H', rt := fun v H' => EndM CK F r c Nh H v H' } (start N (.ref c :: args)) H) :
    FnOk P w K mg base (L2.CX P w) (k + 1) f fd ps (SpM CE CK F R) := by
  refine U.okX Z (fun vs H Q E h => ?_) fun cdv A outer s H vs Q E hr h => ?_
  · obtain ⟨c, args, a, Ps, r, Nh, rfl, hR, _, _, _, p, _⟩ := h
    rw [List.length_cons, paired_len p]; exact len a Ps r hR
  · obtain ⟨c, args, a, Ps, r, Nh, rfl, hR, nc, sm, ka, p, q, er⟩ := h
    have tk : Takes (cxOf (L2.CX P w) P w K mg base N qual (defScope st) f cdv A outer s H E) (fun cls d _ H => E cls d H) := takes_of rfl rfl rfl rfl
    have fin : ∀ v H', EndM CK F r c Nh H v H' → Q v H' := fun v H' ⟨b, P', e, N', g, k', p'⟩ => q b P' e v N' H' g k' p'
    refine ⟨_, pss_b, bB_in.mpr fun pins s' I => ?_⟩
    refine thn (bB_in.mp (body cdv A outer s H E _ rfl hr tk (passes_call tk fun _ _ _ _ h => h) (passes_of rfl) c args a Ps r Nh H hR nc sm ka p er) pins s' I) fun fl s2 h2 => ?_
    cases fl with
    | next =>
      obtain ⟨σ', H', I', z⟩ := h2
      exact ⟨σ', H', I', fin _ _ z⟩
    | brk => obtain ⟨_, _, _, z⟩ := h2; exact z.elim
    | cont => obtain ⟨_, _, _, z⟩ := h2; exact z.elim
    | ret u =>
      obtain ⟨v, σ', H', I', rv, z⟩ := h2
      exact ⟨v, σ', H', I', rv, fin _ _ z⟩
end
theorem But.nc {c : Addr} {N H N' H' : Hp} (b : But c N H N' H') (nc : N c = none) (hc : H c ≠ none) : N' c = none := b.nw c nc hc
theorem Kat.ne {CK c : Addr} {fs : List (Str × VP)} {N H : Hp} (k : Kat CK c fs N H) : H c ≠ none := by
  obtain ⟨dx, vs, h, _⟩ := k
  rw [h]; simp
section
variable {X : Cx} {e a b o : Expr} {es : List Expr} {pos pos' apos p : Pos} {σ : L2.St} {N N0 H0 H : Hp} {k : Nat} {x m : Str} {ps : List Str} {Ps : List VP} {C CE CK c : Addr} {E : XK} {rest : List Stmt} {D : Ends} {S : Type} {F : S → List (Str × VP)} {s0 : S} {R : S → List VP → Except Int (S × VP) → Prop} {r : Except Int (S × VP)}
/-- o.m(..) that may change o -/
theorem bE_methM {pl : Sem Bool} {Q : VK} (U : MF X.prog X.w X.K X.mg X.base (L2.CX X.prog X.w) k CK m ps (SpM CE CK F R)) (cl : Cls X.K CK) (hr : Room k X.A) (hx : Passes (L2.CX X.prog X.w) X E) (ho : Ev X o σ N (is (.ref c))) (nc : N c = none) (s : Same N H) (ka : Kat CK c (F s0) N H) (hl : (F s0).lookup m = none) (ha : EvA X (e :: es) σ N Ps) (h : R s0 Ps r)
    (q : ∀ b P, r = .ok (b, P) → ∀ v N' H', But c N H N' H' → Kat CK c (F b) N' H' → P.p v N' → Q v H') (er : ∀ i, r = .error i → Fail CE i H E)
    (hst : starEach (e :: es) X.env = (false, eval e X.env) :: starEach es X.env := by rfl) (hpl : (backTo pos (starEach es X.env)).any (·.1) = false := by rfl)
    (ht : eval (.Call (.Attribute o m apos) (e :: es) [] pos) X.env = (do
      let ov ← eval o X.env
      standAt apos.atName
      let (f, first) ← holding [ov] (getMethod ov m pl)
      callWith pos f first (backTo pos (starEach (e :: es) X.env)) (backToKw pos (keywordEach [] X.env))) := by rfl) : bE X (.Call (.Attribute o m apos) (e :: es) [] pos) σ H Q := by
  obtain ⟨f, fd, U, hm, hb⟩ := U
  refine bE_of (pe_meth pe_b cl hm U hr hb .nil hx pa_b hst hpl ht) (ho H s _ fun y N1 H1 g1 p1 => ?_)
  cases p1
  obtain ⟨dx, vs, hc, pr⟩ := id ka
  refine ⟨c, dx, vs, rfl, g1.hh _ _ hc, lookup_none (F := fun v P => P.p v N) pr hl, (ha.mono g1.nn) H1 g1.nh _ fun us N2 H2 g2 p2 => ?_⟩
  have g := g1.trans g2
  have bt : But c N H N2 H2 := .of g
  rw [List.append_nil]
  exact ⟨c, us, s0, Ps, r, N2, rfl, h, bt.nc nc ka.ne, g.nh, ka.more g.nn (g.hh c), p2, fun b P e v N3 H3 b3 k3 p3 => q b P e v N3 H3 (bt.trans b3) k3 p3, fun i e => (er i e).more g.hh⟩
theorem bE_methM0 {pl : Sem Bool} {Q : VK} (U : MF X.prog X.w X.K X.mg X.base (L2.CX X.prog X.w) k CK m ps (SpM CE CK F R)) (cl : Cls X.K CK) (hr : Room k X.A) (hx : Passes (L2.CX X.prog X.w) X E) (ho : Ev X o σ N (is (.ref c))) (nc : N c = none) (s : Same N H) (ka : Kat CK c (F s0) N H) (hl : (F s0).lookup m = none) (h : R s0 [] r)
    (q : ∀ b P, r = .ok (b, P) → ∀ v N' H', But c N H N' H' → Kat CK c (F b) N' H' → P.p v N' → Q v H') (er : ∀ i, r = .error i → Fail CE i H E)
    (ht : eval (.Call (.Attribute o m apos) [] [] pos) X.env = (do
      let ov ← eval o X.env
      standAt apos.atName
      let (f, first) ← holding [ov] (getMethod ov m pl)
      callWith pos f first (backTo pos (starEach [] X.env)) (backToKw pos (keywordEach [] X.env))) := by rfl) : bE X (.Call (.Attribute o m apos) [] [] pos) σ H Q := by
  obtain ⟨f, fd, U, hm, hb⟩ := U
  refine bE_of (pe_meth0 pe_b cl hm U hr hb .nil hx ht) (ho H s _ fun y N1 H1 g1 p1 => ?_)
  cases p1
  obtain ⟨dx, vs, hc, pr⟩ := id ka
  have bt : But c N H N1 H1 := .of g1
  exact ⟨c, dx, vs, rfl, g1.hh _ _ hc, lookup_none (F := fun v P => P.p v N) pr hl, c, [], s0, [], r, N1, rfl, h, bt.nc nc ka.ne, g1.nh, ka.more g1.nn (g1.hh c), .nil, fun b P e v N3 H3 b3 k3 p3 => q b P e v N3 H3 (bt.trans b3) k3 p3, fun i e => (er i e).more g1.hh⟩
/-- f(o, ..) that may change o -/
theorem bE_callM {Q : VK} (U : GF X.prog X.w X.K X.mg X.base (L2.CX X.prog X.w) k x ps (SpM CE CK F R)) (hr : Room k X.A) (hx : Passes (L2.CX X.prog X.w) X E) (nc : N c = none) (s : Same N H) (ka : Kat CK c (F s0) N H) (ha : EvA X (e :: es) σ N (is (.ref c) :: Ps)) (h : R s0 Ps r)
    (q : ∀ b P, r = .ok (b, P) → ∀ v N' H', But c N H N' H' → Kat CK c (F b) N' H' → P.p v N' → Q v H') (er : ∀ i, r = .error i → Fail CE i H E) (hg : Gl X x := by rfl) (hdb : (x == ("__debug__" : Str)) = false := by decide)
    (he : starEach (e :: es) X.env = (false, eval e X.env) :: starEach es X.env := by rfl) (hpl : (backTo pos (starEach es X.env)).any (·.1) = false := by rfl) : bE X (.Call (.Name x p) (e :: es) [] pos) σ H Q := by
  obtain ⟨f, fd, U, hm, hk, hb⟩ := U
  refine bE_of (pe_call U hr hg hm hk hb .nil hx pa_b hdb he hpl) (ha H s _ fun us N2 H2 g p2 => ?_)
  rw [List.append_nil]
  cases p2 with
  | cons p1 p2 =>
    cases p1
    have bt : But c N H N2 H2 := .of g
    exact ⟨c, _, s0, Ps, r, N2, rfl, h, bt.nc nc ka.ne, g.nh, ka.more g.nn (g.hh c), p2, fun b P e v N3 H3 b3 k3 p3 => q b P e v N3 H3 (bt.trans b3) k3 p3, fun i e => (er i e).more g.hh⟩
theorem b_retE (h : bE X e σ H fun v H' => D.rt v H') : bB X (.Return (some e) pos :: rest) D σ H := bB_of (t := tSeq (tRet (bE X e)) (bB X rest)) (pss_cons (ps_ret pe_b) pss_b) h
/-- a part where the object is known for a while: it is taken out again -/
theorem Kat.known {fs : List (Str × VP)} (ka : Kat CK c fs N H) (nc : N c = none) (s : Same N H) : ∃ o, Same (upd N c o) H ∧ (isIns CK fs).p (.ref c) (upd N c o) ∧ (∃ dx vs, o = .ins CK dx vs) ∧ Same N (upd N c o) := by
  obtain ⟨dx, vs, h, pr⟩ := ka
  exact ⟨_, same_put s h, ⟨c, dx, vs, rfl, upd_same, Paired.mapP pr fun v y z => ⟨z.1, y.2.mono (same_new nc) z.2⟩⟩, ⟨dx, vs, rfl⟩, same_new nc⟩
theorem Kat.back {fs : List (Str × VP)} {N' H' : Hp} {ob : HO} (ka : Kat CK c fs N H) (nc : N c = none) (g : Grow (upd N c ob) H N' H') (hob : ∃ dx vs, ob = .ins CK dx vs) : But c N H (PB.del N' c) H' ∧ Kat CK c fs (PB.del N' c) H' ∧ ∃ dx vs, N' c = some (.ins CK dx vs) := by
  obtain ⟨dx, vs, rfl⟩ := hob
  have e : N' c = some (.ins CK dx vs) := g.nn c _ upd_same
  obtain ⟨a1, a2, a3⟩ := g.del nc e
  exact ⟨⟨fun b o _ h => g.hh b o h, a1, a2, a3, same_dom g.hh⟩, ka.more a1 (g.hh c), dx, vs, e⟩
/-- self.f = e, self the object at c -/
theorem But.store {ob : HO} {dx : Addr} {vs : List (Str × V)} {fs : List (Str × VP)} {N1 H1 : Hp} (b : But c N H N1 H1) (nc : N1 c = none) (pr : Paired (fun (v : Str × V) (y : Str × VP) => v.1 = y.1 ∧ y.2.p v.2 N1) vs fs) : But c N H N1 (upd H1 c (.ins CK dx vs)) ∧ Kat CK c fs N1 (upd H1 c (.ins CK dx vs)) :=
  ⟨b.trans (.put b.nh nc), dx, vs, upd_same, pr⟩
end
end PB
namespace PB
open PySem PySem.Spec PyProof.Rows L2
abbrev Flds (vs : List (Str × V)) (fs : List (Str × VP)) (N : Hp) : Prop := Paired (fun (v : Str × V) (y : Str × VP) => v.1 = y.1 ∧ y.2.p v.2 N) vs fs
section
variable {X : Cx} {e a b o : Expr} {pos pos' : Pos} {σ : L2.St} {N N0 H0 H : Hp} {f : Str} {CK c : Addr} {rest : List Stmt} {D : Ends} {fs fs' : List (Str × VP)} {P : VP}
/-- self.f = e, e over the object as it stands -/
theorem b_store (nc : N c = none) (s : Same N H) (ka : Kat CK c fs N H) (cl : Cls X.K CK) (na : NoAttr X.K CK f) (hz : fs.length < 1000) (h : ∀ ob, (isIns CK fs).p (.ref c) (upd N c ob) → Same N (upd N c ob) → Ev X e σ (upd N c ob) P) (ni : NoIns P) (ho : Ev X o σ N (is (.ref c)))
    (hf : ∀ vs v N', Flds vs fs N' → P.p v N' → Flds (putF f v vs) fs' N') (k : ∀ N2 H2, But c N H N2 H2 → N2 c = none → Kat CK c fs' N2 H2 → bB X rest D σ H2) (hs : swapsWith e (some (.Attribute o f pos')) pos.line X.env = pure false := by rfl) : bB X (.Assign [.Attribute o f pos'] e pos :: rest) D σ H := by
  obtain ⟨ob, s1, hk, ⟨dx, vs, rfl⟩, s2⟩ := ka.known nc s
  have hc : H c = some (.ins CK dx vs) := s1 _ _ upd_same
  have pr : Flds vs fs N := by
    obtain ⟨dx', vs', e', pr⟩ := id ka
    rw [hc] at e'
    cases e'
    exact pr
  refine b_fld (N2 := N) hc (by rw [paired_len pr]; exact hz) cl na (h _ hk s2) s1 ho s (fun v N' H' g p e' => ?_) hs
  obtain ⟨bt, k1, dx2, vs2, e2⟩ := ka.back nc g ⟨dx, vs, rfl⟩
  have p' := ni v N' c CK dx2 vs2 e2 p
  obtain ⟨b2, k2⟩ := bt.store (vs := putF f v vs) (dx := dx) (CK := CK) (ob := .ins CK dx vs) del_at (hf vs v _ (Paired.mapP pr fun v y z => ⟨z.1, y.2.mono bt.nn z.2⟩) p')
  exact k _ _ b2 del_at k2
/-- self.f += e -/
theorem b_inc {i j : Int} (nc : N c = none) (s : Same N H) (ka : Kat CK c fs N H) (cl : Cls X.K CK) (na : NoAttr X.K CK f) (hz : fs.length < 1000) (hl : fs.lookup f = some (I i)) (h : Ev X e σ N (I j)) (ho : Ev X o σ N (is (.ref c)))
    (hf : ∀ vs N', Flds vs fs N' → Flds (putF f (.int (i + j)) vs) fs' N') (k : ∀ N2 H2, But c N H N2 H2 → N2 c = none → Kat CK c fs' N2 H2 → bB X rest D σ H2) : bB X (.AugAssign (.Attribute o f pos') .Add e pos :: rest) D σ H := by
  obtain ⟨dx, vs, hc, pr⟩ := id ka
  obtain ⟨u, hu, pu⟩ := lookup_pair (F := fun v P => P.p v N) pr hl
  have pu : u = .int i := pu
  subst pu
  refine bB_of (t := tSeq (sFldAug X.K (bE X o) (bE X e) L2.rAdd f) (bB X rest)) (pss_cons (ps_fldaug pe_b pe_b in_add) pss_b) (ho H s _ fun y N1 H1 g1 p1 => ?_)
  cases p1
  refine ⟨c, CK, dx, vs, .int i, rfl, g1.hh _ _ hc, cl, na, hu, (h.mono g1.nn) H1 g1.nh _ fun z N2 H2 g2 p2 => ?_⟩
  have g := g1.trans g2
  have bt : But c N H N2 H2 := .of g
  have n2 := bt.nc nc ka.ne
  refine ⟨i, j, rfl, p2, dx, vs, g.hh _ _ hc, by rw [paired_len pr]; omega, ?_⟩
  obtain ⟨b2, k2⟩ := bt.store (vs := putF f (.int (i + j)) vs) (dx := dx) (CK := CK) (ob := .ins CK dx vs) n2 (hf vs _ (Paired.mapP pr fun v y z => ⟨z.1, y.2.mono g.nn z.2⟩))
  exact k _ _ b2 n2 k2
/-- return e, e over the object as it stands -/
theorem endM_ret {S : Type} {F : S → List (Str × VP)} {r : Except Int (S × VP)} {t : S} {nx : L2.St → Hp → Prop} {bk ct : L2.St → Hp → Prop} (bt : But c N0 H0 N H) (nc : N c = none) (ka : Kat CK c (F t) N H) (h : ∀ ob, (isIns CK (F t)).p (.ref c) (upd N c ob) → Same N (upd N c ob) → Ev X e σ (upd N c ob) P) (ni : NoIns P) (hr : r = .ok (t, P)) :
    bB X (.Return (some e) pos :: rest) { nx := nx, rt := fun v H' => EndM CK F r c N0 H0 v H', bk := bk, ct := ct } σ H := by
  obtain ⟨ob, s1, hk, hob, s2⟩ := ka.known nc bt.nh
  refine b_ret (h ob hk s2) s1 fun v N' H' g p => ?_
  obtain ⟨b1, k1, dx, vs, e'⟩ := ka.back nc g hob
  exact ⟨t, P, hr, _, bt.trans b1, k1, ni v N' c CK dx vs e' p⟩
end
end PB
namespace PB
open PySem PySem.Spec PyProof.Rows L2
/-! ### the list handed in: it is read only -/
def isQ (K : PySem.W.Frag) (l : List Int) : VP := ⟨fun v H => ∃ a, v = .ref a ∧ SqL K H a (l.map V.int), fun s ⟨a, e, q⟩ => ⟨a, e, s.seq q⟩⟩
section
variable {X : Cx} {a b e : Expr} {pos p : Pos} {σ : L2.St} {N H : Hp} {l : List Int}
theorem ev_lenQ {p : Pos} (hm : X.mg "len" = none) (ha : Ev X a σ N (isQ X.K l)) (hg : Gl X "len" := by rfl) (he : starEach [a] X.env = (false, eval a X.env) :: starEach [] X.env := by rfl) (hpl : (backTo pos (starEach [] X.env)).any (·.1) = false := by rfl) : Ev X (.Call (.Name "len" p) [a] [] pos) σ N (I (l.length : Int)) :=
  ev_callB call_len hm PySem.boot_len (ea_cons ha ea_nil he) (fun vs N' H' s p1 Q q => by
    obtain ⟨v, rfl, ad, rfl, hq⟩ := paired1 p1
    exact ⟨_, l.length, rfl, .inl ⟨_, s.seq hq, by rw [List.length_map]⟩, q _ N' H' (.refl s) rfl⟩) hg (by decide) (by decide) he hpl
theorem ev_ixQ {i x : Int} (ha : Ev X a σ N (isQ X.K l)) (hb : Ev X b σ N (I i)) (h : atI (l.map V.int) i = some (.int x)) (hs : PlainIx b := by intro _ _; rfl) : Ev X (.Subscript a b pos) σ N (I x) :=
  ev_pe (pe_ix ix_list pe_b pe_b hs) fun H s Q q => ha.two hb s fun x' y N' H' g p1 p2 => by
    obtain ⟨ad, rfl, hq⟩ := p1
    exact ⟨ad, _, i, .int x, rfl, p2, g.nh.seq hq, h, q _ N' H' g rfl⟩
theorem paired_rfl {F : V → Int → Prop} (h : ∀ i : Int, F (.int i) i) : ∀ l : List Int, Paired F (l.map V.int) l
  | [] => .nil
  | i :: r => .cons (h i) (paired_rfl h r)
theorem ev_slQ {lo hi : Option Expr} {i j : Option Int} {p2 : Pos} (h : Ev X e σ N (isQ X.K l)) (h1 : EvO X lo σ N i) (h2 : EvO X hi σ N j) : Ev X (.Subscript e (.Slice lo hi none p2) pos) σ N (isI (cutA l i j)) :=
  ev_pe (pe_slice sl_list pe_b po_b po_b) fun H s Q q => h H s _ fun x N1 H1 g1 p1 => h1.run (s.trans g1.hh) fun H2 s2 => h2.run (s.trans (g1.hh.trans s2)) fun H3 s3 => by
    obtain ⟨ad, rfl, hq⟩ := p1
    have g : Grow N H N1 H3 := g1.trans (.keep g1.nh (s2.trans s3))
    exact ⟨ad, _, rfl, g.nh.seq hq, fun l' hl' => q _ _ _ (g.trans (.new g.nh hl')) ⟨l', _, rfl, upd_same, paired_cut (paired_rfl (fun i => rfl) l)⟩⟩
/-- name = C() -/
theorem evm_make0 {C : Addr} {R : List VP → List (Str × VP) → Prop} {k : Nat} {x : Str} {ps : List Str} {fs : List (Str × VP)} (F : CF X.prog X.w X.K X.mg X.base CX0 k x C ps (Init C R)) (hr : Room (k + 1) X.A) (r : R [] fs) (hg : Gl X x := by rfl) (hdb : (x == ("__debug__" : Str)) = false := by decide) : EvM X (.Call (.Name x p) [] [] pos) σ N C fs := by
  obtain ⟨f, fd, F, M, hm, hb⟩ := F
  intro H s Q q
  refine bE_of (pe_make0 M F hr hg hm hb .nil pass0 hdb) ?_
  intro y dx ny nd ne
  have h12 : Same H (upd (upd H dx (.own y)) y (.ins C dx [])) := (same_new nd).trans (same_new (by rw [upd_ne (Ne.symm ne)]; exact ny))
  refine ⟨y, dx, [], [], fs, N, rfl, r, s.free ny, s.trans h12, upd_same, .nil, fun N' H' vals kh kn knh kw hy pr => ⟨rfl, ?_⟩⟩
  have hH : Same H H' := fun b o h => kh b o (ne_of_none h ny) (h12 b o h)
  have hy0 : N' y = none := kw y (s.free ny) (by rw [upd_same]; simp)
  refine q y dx vals N' H' ny hy0 ⟨hH, kn, knh, fun b hb hk => kw b hb fun z => ?_⟩ hy pr
  cases h : H b with
  | none => exact hk h
  | some o => rw [h12 b o h] at z; cases z
end
section
variable {X : Cx} {e a b o : Expr} {es : List Expr} {pos pos' apos p : Pos} {σ : L2.St} {N H : Hp} {x : Str} {P : VP} {rest : List Stmt} {D : Ends}
/-- the two ways of an if meet again in J -/
theorem b_whenJ {c : Expr} {t : Bool} {as : List Stmt} (J : L2.St → Hp → Prop) (h : EvT X c σ N t) (s : Same N H) (k1 : t = true → ∀ H', Same H H' → bB X as { D with nx := J } σ H') (k2 : t = false → ∀ H', Same H H' → J σ H') (kj : ∀ σ' H', J σ' H' → bB X rest D σ' H') :
    bB X (.If c as [] pos :: rest) D σ H := by
  refine b_when h s (fun z H' s' => ?_) fun z H' s' => kj _ _ (k2 z H' s')
  refine bB_in.mpr fun pins st I => ?_
  refine thn (bB_in.mp (k1 z H' s') pins st I) fun fl s2 h2 => ?_
  cases fl with
  | next =>
    obtain ⟨σ', H2, I', z⟩ := h2
    exact ⟨σ', H2, I', kj _ _ z⟩
  | brk => exact h2
  | cont => exact h2
  | ret u => exact h2
theorem b_asgE {i : Nat} (h : bE X e σ H fun v H' => bB X rest D (σ.set i (some v)) H') (nd : X.N.Nodup) (hi : X.N[i]? = some x := by rfl) (hx : Loc X.env.scope x := by first | exact Or.inl rfl | exact Or.inr rfl)
    (hs : swapsWith e (some (.Name x pos')) pos.line X.env = pure false := by rfl) (hf : X.fn x = true ∨ X.env.scope.names.lookup x = some .local := by first | exact .inl rfl | exact .inr rfl) : bB X (.Assign [.Name x pos'] e pos :: rest) D σ H :=
  bB_of (pss_cons (ps_set nd hi hx pe_b hs hf) pss_b) h
/-- f(o, ..) that may change o and never refuses -/
theorem bE_callM0 {k : Nat} {ps : List Str} {Ps : List VP} {CE CK c : Addr} {S : Type} {F : S → List (Str × VP)} {s0 : S} {R : S → List VP → Except Int (S × VP) → Prop} {t : S} {Q : VK} (U : GF X.prog X.w X.K X.mg X.base CX0 k x ps (SpM CE CK F R)) (hr : Room k X.A) (nc : N c = none) (s : Same N H) (ka : Kat CK c (F s0) N H) (ha : EvA X (e :: es) σ N (is (.ref c) :: Ps)) (h : R s0 Ps (.ok (t, P)))
    (q : ∀ v N' H', But c N H N' H' → Kat CK c (F t) N' H' → P.p v N' → Q v H') (hg : Gl X x := by rfl) (hdb : (x == ("__debug__" : Str)) = false := by decide)
    (he : starEach (e :: es) X.env = (false, eval e X.env) :: starEach es X.env := by rfl) (hpl : (backTo pos (starEach es X.env)).any (·.1) = false := by rfl) : bE X (.Call (.Name x p) (e :: es) [] pos) σ H Q := by
  obtain ⟨f, fd, U, hm, hk, hb⟩ := U
  refine bE_of (pe_call (E := fun _ _ _ => True) U hr hg hm hk hb .nil pass0 pa_b hdb he hpl) (ha H s _ fun us N2 H2 g p2 => ?_)
  rw [List.append_nil]
  cases p2 with
  | cons p1 p2 =>
    cases p1
    have bt : But c N H N2 H2 := .of g
    exact ⟨c, _, s0, Ps, .ok (t, P), N2, rfl, h, bt.nc nc ka.ne, g.nh, ka.more g.nn (g.hh c), p2, fun b P' e v N3 H3 b3 k3 p3 => by cases e; exact q v N3 H3 (bt.trans b3) k3 p3, fun i e => by cases e⟩
theorem b_appendS {N2 : Hp} {l : Addr} {xs : List V} (hl : H l = some (.lst xs)) (hz : xs.length < 16000000) (ho : Ev X o σ N2 (is (.ref l))) (s2 : Same N2 H) (h : Ev X e σ N P) (s : Same N H)
    (k : ∀ v N' H', Grow N H N' H' → P.p v N' → H' l = some (.lst xs) → bB X rest D σ (upd H' l (.lst (xs ++ [v]))))
    (hbase : attributeBase o "append" X.env (eval o X.env) = eval o X.env := by rfl)
    (hs1 : starEach [e] X.env = (false, eval e X.env) :: starEach [] X.env := by rfl)
    (hq : PE X (.Call (.Attribute o "append" apos) [e] [] p) (tBM X.K "list" rAppend (bE X o) (bA X [e])) := by exact pe_bm PySem.F.plainAttrs_list PySem.F.slot_list_append PySem.F.type_list_append mt_append pe_b pa_b)
    (hs : swapsWith (.Call (.Attribute o "append" apos) [e] [] p) none pos.line X.env = pure false := by rfl) : bB X (.Expr (.Call (.Attribute o "append" apos) [e] [] p) pos :: rest) D σ H :=
  bB_of (t := tSeq (tDrop _) (bB X rest)) (pss_cons (ps_expr hq hs) pss_b) (ho H s2 _ fun y N1 H1 g1 p1 => by
    cases p1
    refine ⟨.inl ⟨rfl, xs, SqL.of (g1.hh _ _ hl)⟩, ea_cons h ea_nil hs1 H1 (s.trans g1.hh) _ fun vs N3 H3 g3 p3 => ?_⟩
    obtain ⟨v, rfl, pv⟩ := paired1 p3
    have g : Grow N H N3 H3 := (Grow.keep s g1.hh).trans g3
    exact ⟨l, xs, v, rfl, rfl, g.hh _ _ hl, by rw [PySem.sizeLine_eq]; omega, k v N3 H3 g pv (g.hh _ _ hl)⟩)
theorem b_extendS {α : Type} {S : α → VP} {m : List α} {N2 : Hp} {l : Addr} {xs : List V} (hl : H l = some (.lst xs)) (hz : xs.length + m.length ≤ 16000000) (ho : Ev X o σ N2 (is (.ref l))) (s2 : Same N2 H) (h : Ev X e σ N (isL S m)) (s : Same N H)
    (k : ∀ ys N' H', Grow N H N' H' → Paired (fun v y => (S y).p v N') ys m → H' l = some (.lst xs) → bB X rest D σ (upd H' l (.lst (xs ++ ys))))
    (hs1 : starEach [e] X.env = (false, eval e X.env) :: starEach [] X.env := by rfl)
    (hq : PE X (.Call (.Attribute o "extend" apos) [e] [] p) (tBM X.K "list" rExtend (bE X o) (bA X [e])) := by exact pe_bm PySem.F.plainAttrs_list PySem.F.slot_list_extend PySem.F.type_list_extend mt_extend pe_b pa_b)
    (hs : swapsWith (.Call (.Attribute o "extend" apos) [e] [] p) none pos.line X.env = pure false := by rfl) : bB X (.Expr (.Call (.Attribute o "extend" apos) [e] [] p) pos :: rest) D σ H :=
  bB_of (t := tSeq (tDrop _) (bB X rest)) (pss_cons (ps_expr hq hs) pss_b) (ho H s2 _ fun y N1 H1 g1 p1 => by
    cases p1
    refine ⟨.inl ⟨rfl, xs, SqL.of (g1.hh _ _ hl)⟩, ea_cons h ea_nil hs1 H1 (s.trans g1.hh) _ fun vs N3 H3 g3 p3 => ?_⟩
    obtain ⟨v, rfl, c, ys, rfl, hc, py⟩ := paired1 p3
    have g : Grow N H N3 H3 := (Grow.keep s g1.hh).trans g3
    exact ⟨l, c, xs, ys, rfl, rfl, g.hh _ _ hl, g3.nh _ _ hc, by rw [paired_len py, PySem.sizeLine_eq]; omega, k ys N3 H3 g py (g.hh _ _ hl)⟩)
end
end PB
namespace PB
open PySem PySem.Spec PyProof.Rows L2
open Vbkoab (Ev.same Ev.differ Ev.link Ev.key Ev.single Ev.if_ Ev.both)
abbrev Piece := Vbkoab.Ev
/-! ### the text by places -/
def top (i : Nat) : Stmt := PySem.Challenge.pw_personbooks_s01_answers.main.body.getD i (.Pass ⟨0, 0, 0, 0⟩)
/-! ### what stands behind the top -/
structure Txt (K : PySem.W.Frag) (mg : Str → Option Value) (CJ CG CR CK : Addr) : Prop where
  cSAME : ∃ t, mg "SAME" = some (.int 1 t)
  cDIFFER : ∃ t, mg "DIFFER" = some (.int 2 t)
  cLINK : ∃ t, mg "LINK" = some (.int 3 t)
  cKEY : ∃ t, mg "KEY" = some (.int 4 t)
  cSINGLE : ∃ t, mg "SINGLE" = some (.int 5 t)
  cIF : ∃ t, mg "IF" = some (.int 6 t)
  cBOTH : ∃ t, mg "BOTH" = some (.int 7 t)
  cALONE : ∃ t, mg "ALONE" = some (.int (-1) t)
  cTWOS : ∃ a, mg "IN_TWOS" = some (.ref a) ∧ ∀ H, SqT K H a [.int 3, .int 4]
  cCHECK : ∃ t, mg "CHECK" = some (.int 15 t)
  cOUT : ∃ t, mg "OUT_OF_RANGE" = some (.int (-1) t)
  cNOL : ∃ t, mg "NO_LIST" = some (.int (-2) t)
  cABS : ∃ t, mg "ABSENT" = some (.int (-4) t)
  cALI : ∃ t, mg "ALIKE" = some (.int (-5) t)
  cFUL : ∃ t, mg "FULL" = some (.int (-7) t)
  cCLA : ∃ t, mg "CLASHES" = some (.int (-8) t)
  cTOO : ∃ t, mg "TOO_MANY" = some (.int (-9) t)
  cMPE : ∃ t, mg "MOST_PERSONS" = some (.int 16 t)
  cMPI : ∃ t, mg "MOST_PIECES" = some (.int 30 t)
  cMCO : ∃ t, mg "MOST_COUNTED" = some (.int 7 t)
  cPER : ∃ t, mg "PERSON" = some (.str "person" t)
  cFIE : ∃ t, mg "FIELD" = some (.str "field" t)
  cSOR : ∃ t, mg "SORT" = some (.str "sort" t)
  cWOR : ∃ t, mg "WORTH" = some (.str "worth" t)
  cPIE : ∃ t, mg "PIECE" = some (.str "piece" t)
  cCOU : ∃ t, mg "COUNT" = some (.str "count" t)
  nlen : mg "len" = none
  nint : mg "int" = none
  nmin : mg "min" = none
  nmax : mg "max" = none
  nlist : mg "list" = none
  ntuple : mg "tuple" = none
  nrange : mg "range" = none
  nenum : mg "enumerate" = none
  nzip : mg "zip" = none
  nsorted : mg "sorted" = none
  jC : Cls K CJ
  gC : Cls K CG
  rC : Cls K CR
  kC : Cls K CK
  jfirst : NoAttr K CJ "first"
  jlater : NoAttr K CJ "later"
  jtwo : NoAttr K CJ "two"
  jneeds : NoAttr K CJ "needs"
  gleast : NoAttr K CG "least"
  rpieces : NoAttr K CR "pieces"
  rjoins : NoAttr K CR "joins"
  rgroups : NoAttr K CR "groups"
  kmany : NoAttr K CK "many"
  kpieces : NoAttr K CK "pieces"
/-! ### the mirror of evidence.py -/
def two (t : Nat × Nat) : VP := isT [I (t.1 : Int), I (t.2 : Int)]
def piece (e : Piece) : VP := isT ((Vbkoab.evNums e).map I)
def kind : Piece → Int
  | .same .. => 1
  | .differ .. => 2
  | .link .. => 3
  | .key .. => 4
  | .single .. => 5
  | .if_ .. => 6
  | .both .. => 7
def evX : Piece → Nat
  | .same x _ => x
  | .differ x _ => x
  | .link x _ _ => x
  | .key x _ _ => x
  | .single x _ _ => x
  | .if_ x _ _ _ => x
  | .both x _ _ _ _ _ => x
def conds : Piece → List (Nat × Nat)
  | .if_ x y _ _ => [(x, y)]
  | .both x y p q _ _ => [(x, y), (p, q)]
  | _ => []
def conds2 (a b : Piece) : List (Nat × Nat) := match a with
  | .link x _ _ => [(x, evX b)]
  | _ => []
def byOne : Piece → Option (Nat × Nat)
  | .same x y => some (x, y)
  | .if_ _ _ u v => some (u, v)
  | .both _ _ _ _ u v => some (u, v)
  | _ => none
def byTwo (a b : Piece) : Option (Nat × Nat) := match a, b with
  | .link _ f y, .link _ g z => if f = g then some (y, z) else none
  | .key x k v, .key z j w => if k = j ∧ v = w then some (x, z) else none
  | _, _ => none
def disag (a b : Piece) : Bool := match a, b with
  | .single _ k v, .single _ j w => decide (k = j) && !decide (v = w)
  | _, _ => false
theorem at0 (e : Piece) : atI ((Vbkoab.evNums e).map I) 0 = some (I (kind e)) := by cases e <;> rfl
theorem at1 (e : Piece) : atI ((Vbkoab.evNums e).map I) 1 = some (I (evX e : Int)) := by cases e <;> rfl
theorem kind1 {e : Piece} (h : kind e = 1) : ∃ x y, e = .same x y := by cases e <;> first | exact ⟨_, _, rfl⟩ | exact absurd h (by simp [kind])
theorem kind2 {e : Piece} (h : kind e = 2) : ∃ x y, e = .differ x y := by cases e <;> first | exact ⟨_, _, rfl⟩ | exact absurd h (by simp [kind])
theorem kind3 {e : Piece} (h : kind e = 3) : ∃ x f y, e = .link x f y := by cases e <;> first | exact ⟨_, _, _, rfl⟩ | exact absurd h (by simp [kind])
theorem kind4 {e : Piece} (h : kind e = 4) : ∃ x k v, e = .key x k v := by cases e <;> first | exact ⟨_, _, _, rfl⟩ | exact absurd h (by simp [kind])
theorem kind5 {e : Piece} (h : kind e = 5) : ∃ x k v, e = .single x k v := by cases e <;> first | exact ⟨_, _, _, rfl⟩ | exact absurd h (by simp [kind])
theorem kind6 {e : Piece} (h : kind e = 6) : ∃ x y u v, e = .if_ x y u v := by cases e <;> first | exact ⟨_, _, _, _, rfl⟩ | exact absurd h (by simp [kind])
theorem kind7 {e : Piece} (h : kind e = 7) : ∃ x y p q u v, e = .both x y p q u v := by cases e <;> first | exact ⟨_, _, _, _, _, _, rfl⟩ | exact absurd h (by simp [kind])
abbrev sCond : Stmt := top 10
theorem scCond : FnScope ["piece"] ["piece"] (defScope sCond) := ⟨rfl, rfl, rfl, by decide +kernel, rfl, by decide +kernel, by decide +kernel⟩
def RCond : List VP → VP → Prop := fun Ps P => ∃ e, Ps = [piece e] ∧ P = isL two (conds e)

local macro_rules | `(tactic| walk_at "at") => `(tactic| first | exact at0 _ | exact at1 _ | rfl | assumption)
local macro_rules | `(tactic| walk_at "p") => `(tactic| first | assumption | exact (rfl : (is _).p _ _))
local macro_rules | `(tactic| walk_at "nm") => `(tactic| first
  | exact ev_glob (by assumption) (by first | exact ⟨_, rfl⟩ | rfl)
  | exact ev_nameI (by rfl) rfl (by walk_at "p"))
local macro_rules | `(tactic| walk_at "ev") => `(tactic| first
  | (with_reducible show Ev _ (PySem.Expr.Constant _ _ _) _ _ _); first | exact ev_int | exact ev_non | exact ev_bool | exact ev_str
  | (with_reducible show Ev _ (PySem.Expr.Name _ _) _ _ _); walk_at "nm"
  | (with_reducible show Ev _ (PySem.Expr.Subscript _ _ _) _ _ _); first | exact ev_ixT (by walk_at "ev") (by walk_at "ev") (by walk_at "at") | exact ev_ixL (by walk_at "ev") (by walk_at "ev") (by walk_at "at")
  | (with_reducible show Ev _ (PySem.Expr.Tuple _ _ _) _ _ _); exact ev_tup (by walk_at "ea")
  | (with_reducible show Ev _ (PySem.Expr.UnaryOp PySem.UnaryOp.USub _ _) _ _ _); exact ev_neg (by walk_at "ev")
  | (with_reducible show Ev _ (PySem.Expr.Compare _ [PySem.CmpOp.Eq] _ _) _ _ _); exact ev_eqI (by walk_at "ev") (by walk_at "ev")
  | (with_reducible show Ev _ (PySem.Expr.Compare _ [PySem.CmpOp.NotEq] _ _) _ _ _); exact ev_neI (by walk_at "ev") (by walk_at "ev"))
local macro_rules | `(tactic| walk_at "ea") => `(tactic| first
  | (with_reducible show EvA _ [] _ _ _); exact ea_nil
  | exact ea_cons (by walk_at "ev") (by walk_at "ea"))
local macro_rules | `(tactic| walk_at "et") => `(tactic| first
  | (with_reducible show EvT _ (PySem.Expr.Compare _ [PySem.CmpOp.Eq] _ _) _ _ _); exact evt_eqI (by walk_at "ev") (by walk_at "ev")
  | (with_reducible show EvT _ (PySem.Expr.Compare _ [PySem.CmpOp.NotEq] _ _) _ _ _); exact evt_neI (by walk_at "ev") (by walk_at "ev")
  | (with_reducible show EvT _ (PySem.Expr.Compare _ [PySem.CmpOp.Lt] _ _) _ _ _); exact evt_ltI (by walk_at "ev") (by walk_at "ev")
  | (with_reducible show EvT _ (PySem.Expr.Compare _ [PySem.CmpOp.LtE] _ _) _ _ _); exact evt_leI (by walk_at "ev") (by walk_at "ev")
  | (with_reducible show EvT _ (PySem.Expr.Compare _ [PySem.CmpOp.Gt] _ _) _ _ _); exact evt_gtI (by walk_at "ev") (by walk_at "ev")
  | (with_reducible show EvT _ (PySem.Expr.Compare _ [PySem.CmpOp.GtE] _ _) _ _ _); exact evt_geI (by walk_at "ev") (by walk_at "ev"))
theorem EvW.to {X : Cx} {e : Expr} {σ : L2.St} {N : Hp} {c d : Bool} (h : EvW X e σ N c) (k : c = d) : EvW X e σ N d := k ▸ h
section
variable {P : Program} {w : World} {K : PySem.W.Frag} {mg : Str → Option Value} {base : Heap} {CJ CG CR CK : Addr} {f : Addr} {fd : FuncData}
theorem ok_cond (F : Fun K "conditions" "conditions" sCond f fd) (T : Txt K mg CJ CG CR CK) : FnOk P w K mg base CX0 1 f fd ["piece"] (Pure RCond) := by
  refine pure_ok F scCond (fun Ps P h => by obtain ⟨e, rfl, _⟩ := h; rfl) fun cdv A outer s H0 E hr vs Ps P' N H h sm p => ?_
  obtain ⟨e, rfl, rfl⟩ := h
  obtain ⟨v, rfl, hv⟩ := paired1 p
  obtain ⟨t6, g6⟩ := T.cIF
  obtain ⟨t7, g7⟩ := T.cBOTH
  refine w_when (.refl sm) (by walk_at "et") (fun h H1 g => ?_) (fun h H1 g => ?_)
  · obtain ⟨x, y, u, v', rfl⟩ := kind6 (of_decide_eq_true h)
    exact w_end g (ev_lst (R := two) (l := [(x, y)]) (by walk_at "ea") (.cons (fun _ _ z => z) .nil))
  · refine w_when g (by walk_at "et") (fun h2 H2 g => ?_) (fun h2 H2 g => ?_)
    · obtain ⟨x, y, p', q, u, v', rfl⟩ := kind7 (of_decide_eq_true h2)
      exact w_end g (ev_lst (R := two) (l := [(x, y), (p', q)]) (by walk_at "ea") (.cons (fun _ _ z => z) (.cons (fun _ _ z => z) .nil)))
    · refine w_end g (ev_lst (R := two) (l := []) (by walk_at "ea") .nil) ?_
      have h := of_decide_eq_false h
      have h2 := of_decide_eq_false h2
      cases e <;> first | rfl | exact absurd rfl h | exact absurd rfl h2
abbrev sCond2 : Stmt := top 11
theorem scCond2 : FnScope ["piece", "later"] ["piece", "later"] (defScope sCond2) := ⟨rfl, rfl, rfl, by decide +kernel, rfl, by decide +kernel, by decide +kernel⟩
def RCond2 : List VP → VP → Prop := fun Ps P => ∃ a b, Ps = [piece a, piece b] ∧ P = isL two (conds2 a b)
theorem ok_cond2 (F : Fun K "conditions_of_two" "conditions_of_two" sCond2 f fd) (T : Txt K mg CJ CG CR CK) : FnOk P w K mg base CX0 1 f fd ["piece", "later"] (Pure RCond2) := by
  refine pure_ok F scCond2 (fun Ps P h => by obtain ⟨a, b, rfl, _⟩ := h; rfl) fun cdv A outer s H0 E hr vs Ps P' N H h sm p => ?_
  obtain ⟨a, b, rfl, rfl⟩ := h
  obtain ⟨v, v2, rfl, hv, hv2⟩ := paired2 p
  obtain ⟨t3, g3⟩ := T.cLINK
  refine w_when (.refl sm) (by walk_at "et") (fun h H1 g => ?_) (fun h H1 g => ?_)
  · obtain ⟨x, f', y, rfl⟩ := kind3 (of_decide_eq_true h)
    exact w_end g (ev_lst (R := two) (l := [(x, evX b)]) (by walk_at "ea") (.cons (fun _ _ z => z) .nil))
  · refine w_end g (ev_lst (R := two) (l := []) (by walk_at "ea") .nil) ?_
    have h := of_decide_eq_false h
    cases a <;> first | rfl | exact absurd rfl h
abbrev sJBy : Stmt := top 12
theorem scJBy : FnScope ["piece"] ["piece"] (defScope sJBy) := ⟨rfl, rfl, rfl, by decide +kernel, rfl, by decide +kernel, by decide +kernel⟩
def RJBy : List VP → VP → Prop := fun Ps P => ∃ e, Ps = [piece e] ∧ P = isO two (byOne e)
theorem ok_jby (F : Fun K "joined_by" "joined_by" sJBy f fd) (T : Txt K mg CJ CG CR CK) : FnOk P w K mg base CX0 1 f fd ["piece"] (Pure RJBy) := by
  refine pure_ok F scJBy (fun Ps P h => by obtain ⟨e, rfl, _⟩ := h; rfl) fun cdv A outer s H0 E hr vs Ps P' N H h sm p => ?_
  obtain ⟨e, rfl, rfl⟩ := h
  obtain ⟨v, rfl, hv⟩ := paired1 p
  obtain ⟨t1, g1⟩ := T.cSAME
  obtain ⟨t6, g6⟩ := T.cIF
  obtain ⟨t7, g7⟩ := T.cBOTH
  refine w_when (.refl sm) (by walk_at "et") (fun h H1 g => ?_) (fun h H1 g => ?_)
  · obtain ⟨x, y, rfl⟩ := kind1 (of_decide_eq_true h)
    exact w_end g (P := two (x, y)) (by walk_at "ev")
  · refine w_when g (evt_w (evw_or (by walk_at "et") fun _ => evw_or1 (by walk_at "et"))) (fun h2 H2 g => ?_) (fun h2 H2 g => ?_)
    · rw [Bool.or_eq_true] at h2
      rcases h2 with h2 | h2
      · obtain ⟨x, y, u, v', rfl⟩ := kind6 (of_decide_eq_true h2)
        exact w_end g (P := two (u, v')) (by walk_at "ev")
      · obtain ⟨x, y, p', q, u, v', rfl⟩ := kind7 (of_decide_eq_true h2)
        exact w_end g (P := two (u, v')) (by walk_at "ev")
    · refine w_end g ev_non ?_
      rw [Bool.or_eq_false_iff] at h2
      have h := of_decide_eq_false h
      have h3 := of_decide_eq_false h2.1
      have h4 := of_decide_eq_false h2.2
      cases e <;> first | rfl | exact absurd rfl h | exact absurd rfl h3 | exact absurd rfl h4
abbrev sDis : Stmt := top 14
theorem scDis : FnScope ["piece", "later"] ["piece", "later"] (defScope sDis) := ⟨rfl, rfl, rfl, by decide +kernel, rfl, by decide +kernel, by decide +kernel⟩
def RDis : List VP → VP → Prop := fun Ps P => ∃ a b, Ps = [piece a, piece b] ∧ P = B (disag a b)
theorem whole_inj {a b : Nat} : decide ((Vbkoab.whole a) = Vbkoab.whole b) = decide (a = b) := by
  by_cases h : a = b
  · subst h; simp
  · rw [decide_eq_false h]
    exact decide_eq_false fun z => h (Int.ofNat.inj z)
theorem ok_dis (F : Fun K "disagree" "disagree" sDis f fd) (T : Txt K mg CJ CG CR CK) : FnOk P w K mg base CX0 1 f fd ["piece", "later"] (Pure RDis) := by
  refine pure_ok F scDis (fun Ps P h => by obtain ⟨a, b, rfl, _⟩ := h; rfl) fun cdv A outer s H0 E hr vs Ps P' N H h sm p => ?_
  obtain ⟨a, b, rfl, rfl⟩ := h
  obtain ⟨v, v2, rfl, hv, hv2⟩ := paired2 p
  obtain ⟨t5, g5⟩ := T.cSINGLE
  by_cases ha : kind a = 5
  · obtain ⟨x, k, z, rfl⟩ := kind5 ha
    by_cases hb : kind b = 5
    · obtain ⟨x', k', z', rfl⟩ := kind5 hb
      refine w_end (.refl sm) (ev_and (by walk_at "ev") fun _ => ev_and (by walk_at "ev") fun _ => ev_and (by walk_at "ev") fun _ => ev_one (by walk_at "ev")) ?_
      show B (decide ((5 : Int) = 5) && (decide ((5 : Int) = 5) && (decide ((Vbkoab.whole k) = Vbkoab.whole k') && !decide ((Vbkoab.whole z) = Vbkoab.whole z')))) = B (decide (k = k') && !decide (z = z'))
      rw [whole_inj, whole_inj]
      rfl
    · refine w_end (.refl sm) (ev_and (by walk_at "ev") fun _ => ev_and (d := false) (by walk_at "ev") fun h => absurd (of_decide_eq_true h) hb) ?_
      show B (decide ((5 : Int) = 5) && (decide (kind b = 5) && false)) = _
      cases b <;> first | rfl | exact absurd rfl hb
  · refine w_end (.refl sm) (ev_and (d := false) (by walk_at "ev") fun h => absurd (of_decide_eq_true h) ha) ?_
    show B (decide (kind a = 5) && false) = _
    cases a <;> first | rfl | exact absurd rfl ha | (simp [disag])
abbrev sJTwo : Stmt := top 13
theorem scJTwo : FnScope ["piece", "later"] ["piece", "later"] (defScope sJTwo) := ⟨rfl, rfl, rfl, by decide +kernel, rfl, by decide +kernel, by decide +kernel⟩
def RJTwo : List VP → VP → Prop := fun Ps P => ∃ a b, Ps = [piece a, piece b] ∧ P = isO two (byTwo a b)
theorem ok_jtwo (F : Fun K "joined_by_two" "joined_by_two" sJTwo f fd) (T : Txt K mg CJ CG CR CK) : FnOk P w K mg base CX0 1 f fd ["piece", "later"] (Pure RJTwo) := by
  refine pure_ok F scJTwo (fun Ps P h => by obtain ⟨a, b, rfl, _⟩ := h; rfl) fun cdv A outer s H0 E hr vs Ps P' N H h sm p => ?_
  obtain ⟨a, b, rfl, rfl⟩ := h
  obtain ⟨v, v2, rfl, hv, hv2⟩ := paired2 p
  obtain ⟨t3, g3⟩ := T.cLINK
  obtain ⟨t4, g4⟩ := T.cKEY
  have hu := units_of hr
  refine w_when (.refl sm) (by walk_at "et") (fun h H1 g => ?_) (fun h H1 g => ?_)
  · refine w_end g ev_non ?_
    have h : kind a ≠ kind b := fun z => by rw [decide_eq_true z] at h; cases h
    cases a <;> cases b <;> first | rfl | exact absurd rfl h
  · have h : kind a = kind b := by
      by_cases z : kind a = kind b
      · exact z
      · rw [decide_eq_false z] at h; cases h
    by_cases h3 : kind a = 3
    · obtain ⟨x, k, y, rfl⟩ := kind3 h3
      obtain ⟨x', k', y', rfl⟩ := kind3 (h.symm.trans h3)
      refine w_when g (evt_w (evw_and (by walk_at "et") fun _ => evw_and1 (by walk_at "et"))) (fun h2 H2 g => ?_) (fun h2 H2 g => ?_)
      · have e : decide (Vbkoab.whole k = Vbkoab.whole k') = true := (Bool.and_eq_true_iff.mp h2).2
        rw [whole_inj] at e
        refine w_end g (P := two (y, y')) (by walk_at "ev") ?_
        show two (y, y') = isO two (if k = k' then some (y, y') else none)
        rw [if_pos (of_decide_eq_true e)]
        rfl
      · have e : decide (Vbkoab.whole k = Vbkoab.whole k') = false := by
          rcases Bool.and_eq_false_iff.mp h2 with z | z
          · cases z
          · exact z
        rw [whole_inj] at e
        refine w_when g (evt_w (evw_and (d := false) (by walk_at "et") fun z => ?_)) (fun h4 H3 g => ?_) (fun h4 H3 g => ?_)
        · cases z
        · cases h4
        · refine w_end g ev_non ?_
          show N_ = isO two (if k = k' then some (y, y') else none)
          rw [if_neg (of_decide_eq_false e)]
          rfl
    · refine w_when g (t := false) (evt_w (EvW.to (evw_and (d := false) (by walk_at "et") fun z => absurd (of_decide_eq_true z) h3) (by rw [Bool.and_false]))) (fun h4 H3 g => ?_) (fun h4 H3 g => ?_)
      · cases h4
      · by_cases h4 : kind a = 4
        · obtain ⟨x, k, y, rfl⟩ := kind4 h4
          obtain ⟨x', k', y', rfl⟩ := kind4 (h.symm.trans h4)
          have sl : ∀ (x k y : Nat), cutA ((Vbkoab.evNums (.key x k y)).map I) (some 2) none = ([Vbkoab.whole k, Vbkoab.whole y].map I) := fun _ _ _ => rfl
          have eb : decide ([Vbkoab.whole k, Vbkoab.whole y] = [Vbkoab.whole k', Vbkoab.whole y']) = decide (k = k' ∧ y = y') := by
            by_cases z : k = k' ∧ y = y'
            · obtain ⟨rfl, rfl⟩ := z
              simp
            · rw [decide_eq_false z]
              refine decide_eq_false fun q => z ?_
              have q1 : Vbkoab.whole k = Vbkoab.whole k' := (List.cons.inj q).1
              have q2 : Vbkoab.whole y = Vbkoab.whole y' := (List.cons.inj (List.cons.inj q).2).1
              exact ⟨Int.ofNat.inj q1, Int.ofNat.inj q2⟩
          refine w_when g (evt_w (evw_and (by walk_at "et") fun _ => evw_and1 (evt_eqT hu (ev_slT (l := (Vbkoab.evNums (.key x k y)).map I) (by walk_at "ev") (eo_some (i := 2) ev_int) eo_none (by show ¬ (HT.sIx 4 0 (some 2) = 0 ∧ HT.sIx 4 4 none = 4); decide)) (ev_slT (l := (Vbkoab.evNums (.key x' k' y')).map I) (by walk_at "ev") (eo_some (i := 2) ev_int) eo_none (by show ¬ (HT.sIx 4 0 (some 2) = 0 ∧ HT.sIx 4 4 none = 4); decide)) (sl x k y) (sl x' k' y')))) (fun h2 H2 g => ?_) (fun h2 H2 g => ?_)
          · have e := (Bool.and_eq_true_iff.mp h2).2
            rw [eb] at e
            refine w_end g (P := two (x, x')) (by walk_at "ev") ?_
            show two (x, x') = isO two (if k = k' ∧ y = y' then some (x, x') else none)
            rw [if_pos (of_decide_eq_true e)]
            rfl
          · have e : decide ([Vbkoab.whole k, Vbkoab.whole y] = [Vbkoab.whole k', Vbkoab.whole y']) = false := by
              rcases Bool.and_eq_false_iff.mp h2 with z | z
              · cases z
              · exact z
            rw [eb] at e
            refine w_end g ev_non ?_
            show N_ = isO two (if k = k' ∧ y = y' then some (x, x') else none)
            rw [if_neg (of_decide_eq_false e)]
            rfl
        · refine w_when g (t := false) (evt_w (EvW.to (evw_and (d := false) (by walk_at "et") fun z => absurd (of_decide_eq_true z) h4) (by rw [Bool.and_false]))) (fun h5 H4 g => ?_) (fun h5 H4 g => ?_)
          · cases h5
          · refine w_end g ev_non ?_
            cases a <;> first | rfl | exact absurd rfl h3 | exact absurd rfl h4 | (cases b <;> rfl)
end
end PB
namespace PB
open PySem PySem.Spec PyProof.Rows L2
open Vbkoab (Ev.same Ev.differ Ev.link Ev.key Ev.single Ev.if_ Ev.both)
local macro_rules | `(tactic| walk_at "at") => `(tactic| first | exact at0 _ | exact at1 _ | rfl | assumption)
local macro_rules | `(tactic| walk_at "p") => `(tactic| first | assumption | exact (rfl : (is _).p _ _))
local macro_rules | `(tactic| walk_at "nm") => `(tactic| first
  | exact ev_glob (by assumption) (by first | exact ⟨_, rfl⟩ | rfl)
  | exact ev_nameI (by rfl) rfl (by walk_at "p"))
local macro_rules | `(tactic| walk_at "ev") => `(tactic| first
  | (with_reducible show Ev _ (PySem.Expr.Constant _ _ _) _ _ _); first | exact ev_int | exact ev_non | exact ev_bool | exact ev_str
  | (with_reducible show Ev _ (PySem.Expr.Name _ _) _ _ _); walk_at "nm"
  | (with_reducible show Ev _ (PySem.Expr.Subscript _ _ _) _ _ _); first | exact ev_ixT (by walk_at "ev") (by walk_at "ev") (by walk_at "at") | exact ev_ixL (by walk_at "ev") (by walk_at "ev") (by walk_at "at")
  | (with_reducible show Ev _ (PySem.Expr.Tuple _ _ _) _ _ _); exact ev_tup (by walk_at "ea")
  | (with_reducible show Ev _ (PySem.Expr.UnaryOp PySem.UnaryOp.USub _ _) _ _ _); exact ev_neg (by walk_at "ev")
  | (with_reducible show Ev _ (PySem.Expr.Compare _ [PySem.CmpOp.Eq] _ _) _ _ _); exact ev_eqI (by walk_at "ev") (by walk_at "ev")
  | (with_reducible show Ev _ (PySem.Expr.Compare _ [PySem.CmpOp.NotEq] _ _) _ _ _); exact ev_neI (by walk_at "ev") (by walk_at "ev"))
local macro_rules | `(tactic| walk_at "ea") => `(tactic| first
  | (with_reducible show EvA _ [] _ _ _); exact ea_nil
  | exact ea_cons (by walk_at "ev") (by walk_at "ea"))
local macro_rules | `(tactic| walk_at "et") => `(tactic| first
  | (with_reducible show EvT _ (PySem.Expr.Compare _ [PySem.CmpOp.Eq] _ _) _ _ _); exact evt_eqI (by walk_at "ev") (by walk_at "ev")
  | (with_reducible show EvT _ (PySem.Expr.Compare _ [PySem.CmpOp.NotEq] _ _) _ _ _); exact evt_neI (by walk_at "ev") (by walk_at "ev")
  | (with_reducible show EvT _ (PySem.Expr.Compare _ [PySem.CmpOp.Lt] _ _) _ _ _); exact evt_ltI (by walk_at "ev") (by walk_at "ev")
  | (with_reducible show EvT _ (PySem.Expr.Compare _ [PySem.CmpOp.LtE] _ _) _ _ _); exact evt_leI (by walk_at "ev") (by walk_at "ev")
  | (with_reducible show EvT _ (PySem.Expr.Compare _ [PySem.CmpOp.Gt] _ _) _ _ _); exact evt_gtI (by walk_at "ev") (by walk_at "ev")
  | (with_reducible show EvT _ (PySem.Expr.Compare _ [PySem.CmpOp.GtE] _ _) _ _ _); exact evt_geI (by walk_at "ev") (by walk_at "ev"))
/-! ### Join -/
structure MJ where
  e : Nat
  e2 : Int
  t : Nat × Nat
  needs : List (Nat × Nat)
  deriving DecidableEq
def joinF (j : MJ) : List (Str × VP) := [("first", I (j.e : Int)), ("later", I j.e2), ("two", two j.t), ("needs", isL two j.needs)]
def join (CJ : Addr) (j : MJ) : VP := isIns CJ (joinF j)
def mAlone (evs : List Piece) (n : Nat) : Option MJ := match evs[n]? with
  | some e => (byOne e).map fun t => ⟨n, -1, t, conds e⟩
  | none => none
def mTwo (evs : List Piece) (n m : Nat) : Option MJ := match evs[n]?, evs[m]? with
  | some a, some b => (byTwo a b).map fun t => ⟨n, (m : Int), t, conds2 a b⟩
  | _, _ => none
def inTwos (e : Piece) : Bool := decide (kind e = 3) || decide (kind e = 4)
/-- all joins by a piece, alone or with a later one -/
def mFrom (evs : List Piece) (n : Nat) : List MJ := match evs[n]? with
  | some e => if inTwos e = true then (List.range (evs.length - (n + 1))).filterMap fun i => mTwo evs n (n + 1 + i) else (mAlone evs n).toList
  | none => []
abbrev sJoinInit : Stmt := inClass (top 16) 0
theorem scJoinInit : FnScope ["self", "first", "later", "two", "needs"] ["self", "first", "later", "two", "needs"] (defScope sJoinInit) := ⟨rfl, rfl, rfl, by decide +kernel, rfl, by decide +kernel, by decide +kernel⟩
def RJoinInit : List VP → List (Str × VP) → Prop := fun Ps fs => ∃ a b c d, Ps = [a, b, c, d] ∧ fs = [(("first" : Str), a), (("later" : Str), b), (("two" : Str), c), (("needs" : Str), d)]
theorem lk_here {α : Type} {k : Str} {v : α} {r : List (Str × α)} : List.lookup k ((k, v) :: r) = some v := by
  have e : (k == k) = true := beq_self_eq_true k
  simp only [List.lookup, e]
theorem lk_past {α : Type} {k g : Str} {v : α} {r : List (Str × α)} (h : (k == g) = false) : List.lookup k ((g, v) :: r) = List.lookup k r := by
  simp only [List.lookup, h]
theorem put_here {f : Str} {v x : V} {r : List (Str × V)} : putF f v ((f, x) :: r) = (f, v) :: r := if_pos rfl
theorem put_past {f g : Str} {v x : V} {r : List (Str × V)} (h : ¬ g = f) : putF f v ((g, x) :: r) = (g, x) :: putF f v r := if_neg h
theorem put_nil {f : Str} {v : V} : putF f v [] = [(f, v)] := rfl
section
variable {P : Program} {w : World} {K : PySem.W.Frag} {mg : Str → Option Value} {base : Heap} {CJ CG CR CK : Addr} {f : Addr} {fd : FuncData}
theorem jf1 {a b : V} : putF "later" b [(("first" : Str), a)] = ([("first", a), ("later", b)] : List (Str × V)) := by rw [put_past (by decide +kernel), put_nil]
theorem jf2 {a b c : V} : putF "two" c [(("first" : Str), a), ("later", b)] = ([("first", a), ("later", b), ("two", c)] : List (Str × V)) := by rw [put_past (by decide +kernel), put_past (by decide +kernel), put_nil]
theorem jf3 {a b c d : V} : putF "needs" d [(("first" : Str), a), ("later", b), ("two", c)] = ([("first", a), ("later", b), ("two", c), ("needs", d)] : List (Str × V)) := by rw [put_past (by decide +kernel), put_past (by decide +kernel), put_past (by decide +kernel), put_nil]
theorem ok_joinInit (F : Fun K "__init__" "Join.__init__" sJoinInit f fd) (T : Txt K mg CJ CG CR CK) : FnOk P w K mg base CX0 1 f fd ["self", "first", "later", "two", "needs"] (Init CJ RJoinInit) := by
  refine F.ok scJoinInit (fun vs H Q E h => ?_) (fun cdv A outer s H vs Q E hr h => ?_)
  · obtain ⟨x, dx, args, Ps, fs, N, rfl, ⟨a, b, c, d, rfl, rfl⟩, _, _, _, p, _⟩ := h
    rw [List.length_cons, paired_len p]; rfl
  · obtain ⟨x, dx, args, Ps, fs, N, rfl, ⟨a, b, c, d, rfl, rfl⟩, nx, sm, hx, p, k⟩ := h
    obtain ⟨va, vb, vc, vd, rfl, pa, pb, pc, pd⟩ := paired4 p
    refine ⟨_, pss_cons (ps_fld (pv 0) (pv 1) rfl) (pss_cons (ps_fld (pv 0) (pv 2) rfl) (pss_cons (ps_fld (pv 0) (pv 3) rfl) (pss_one (ps_fld (pv 0) (pv 4) rfl)))), ?_⟩
    refine ⟨_, rfl, _, rfl, x, CJ, dx, _, rfl, hx, T.jC, T.jfirst, (by show 0 < 1000; decide), ?_⟩
    refine ⟨_, rfl, _, rfl, x, CJ, dx, _, rfl, upd_same, T.jC, T.jlater, (by rw [put_nil]; show 1 < 1000; decide), ?_⟩
    refine ⟨_, rfl, _, rfl, x, CJ, dx, _, rfl, upd_same, T.jC, T.jtwo, (by rw [put_nil, jf1]; show 2 < 1000; decide), ?_⟩
    refine ⟨_, rfl, _, rfl, x, CJ, dx, _, rfl, upd_same, T.jC, T.jneeds, (by rw [put_nil, jf1, jf2]; show 3 < 1000; decide), ?_⟩
    refine k N _ [("first", va), ("later", vb), ("two", vc), ("needs", vd)] (fun b o hb e => ?_) (Same.refl _) (fun b o e => ?_) (fun b hb _ => hb) ?_ (.cons ⟨rfl, pa⟩ (.cons ⟨rfl, pb⟩ (.cons ⟨rfl, pc⟩ (.cons ⟨rfl, pd⟩ .nil))))
    · rw [upd_ne hb, upd_ne hb, upd_ne hb, upd_ne hb]; exact e
    · have hb := ne_of_none e nx
      rw [upd_ne hb, upd_ne hb, upd_ne hb, upd_ne hb]; exact sm _ _ e
    · rw [upd_same, put_nil, jf1, jf2, jf3]
/-! ### join_alone, join_of_two, joins_from -/
abbrev sAlone : Stmt := top 18
theorem scAlone : FnScope ["pieces", "number", "two"] ["pieces", "number"] (defScope sAlone) := ⟨rfl, rfl, rfl, by decide +kernel, rfl, by decide +kernel, by decide +kernel⟩
def RAlone (CJ : Addr) : List VP → VP → Prop := fun Ps P => ∃ evs n, Ps = [isL piece evs, I ((n : Nat) : Int)] ∧ n < evs.length ∧ P = isO (join CJ) (mAlone evs n)
theorem at_ix {α : Type} {l : List α} {n : Nat} {a : α} (h : l[n]? = some a) : atI l (n : Int) = some a := atI_nat h
theorem two_non : ∀ (t : Nat × Nat) v N, (two t).p v N → decide (v = .non) = false := fun t v N h => isT_non v N h
theorem ok_alone (F : Fun K "join_alone" "join_alone" sAlone f fd) (T : Txt K mg CJ CG CR CK) (GB : GF P w K mg base CX0 1 "joined_by" ["piece"] (Pure RJBy)) (GC : GF P w K mg base CX0 1 "conditions" ["piece"] (Pure RCond)) (MJn : CF P w K mg base CX0 1 "Join" CJ ["self", "first", "later", "two", "needs"] (Init CJ RJoinInit)) :
    FnOk P w K mg base CX0 3 f fd ["pieces", "number"] (Pure (RAlone CJ)) := by
  refine pure_ok F scAlone (fun Ps P h => by obtain ⟨a, b, rfl, _⟩ := h; rfl) fun cdv A outer s H0 E hr vs Ps P' N H h sm p => ?_
  obtain ⟨evs, n, rfl, hn, rfl⟩ := h
  obtain ⟨v, v2, rfl, hv, hv2⟩ := paired2 p
  have he : evs[n]? = some evs[n] := List.getElem?_eq_getElem hn
  have hat := at_ix he
  obtain ⟨tA, gA⟩ := T.cALONE
  cases hv2
  have em : mAlone evs n = (byOne evs[n]).map fun t => ⟨n, -1, t, conds evs[n]⟩ := by unfold mAlone; rw [he]
  refine w_asg (i := 2) (.refl sm) (P := isO two (byOne evs[n])) (ev_call GB (hr.mono (by decide)) (ea_cons (P := piece evs[n]) (by walk_at "ev") ea_nil) ⟨_, rfl, rfl⟩) (fun u N1 H1 g s1 hu => ?_) scAlone.nd
  have hv := (isL piece evs).mono s1 hv
  refine w_when g (evt_isN (by walk_at "nm") (isO_non two_non)) (fun h H2 g => ?_) (fun h H2 g => ?_)
  · refine w_end g ev_non ?_
    rw [em]
    cases q : byOne evs[n] with
    | none => rfl
    | some t => rw [q] at h; cases h
  · cases q : byOne evs[n] with
    | none => rw [q] at h; cases h
    | some t =>
      rw [q] at hu em
      have hu : (two t).p u N1 := hu
      rw [em]
      refine w_end g (P := isIns CJ [("first", I (n : Int)), ("later", I (-1)), ("two", two t), ("needs", isL two (conds evs[n]))]) (ev_make MJn (hr.mono (by decide)) (ea_cons (by walk_at "ev") (ea_cons (by walk_at "ev") (ea_cons (by walk_at "ev") (ea_cons (ev_call GC (hr.mono (by decide)) (ea_cons (P := piece evs[n]) (by walk_at "ev") ea_nil) ⟨_, rfl, rfl⟩) ea_nil)))) ⟨_, _, _, _, rfl, rfl⟩) rfl
abbrev sOfTwo : Stmt := top 19
theorem scOfTwo : FnScope ["pieces", "number", "later", "two"] ["pieces", "number", "later"] (defScope sOfTwo) := ⟨rfl, rfl, rfl, by decide +kernel, rfl, by decide +kernel, by decide +kernel⟩
def ROfTwo (CJ : Addr) : List VP → VP → Prop := fun Ps P => ∃ evs n m, Ps = [isL piece evs, I ((n : Nat) : Int), I ((m : Nat) : Int)] ∧ n < evs.length ∧ m < evs.length ∧ P = isO (join CJ) (mTwo evs n m)
theorem ok_ofTwo (F : Fun K "join_of_two" "join_of_two" sOfTwo f fd) (GB : GF P w K mg base CX0 1 "joined_by_two" ["piece", "later"] (Pure RJTwo)) (GC : GF P w K mg base CX0 1 "conditions_of_two" ["piece", "later"] (Pure RCond2)) (MJn : CF P w K mg base CX0 1 "Join" CJ ["self", "first", "later", "two", "needs"] (Init CJ RJoinInit)) :
    FnOk P w K mg base CX0 3 f fd ["pieces", "number", "later"] (Pure (ROfTwo CJ)) := by
  refine pure_ok F scOfTwo (fun Ps P h => by obtain ⟨a, b, c, rfl, _⟩ := h; rfl) fun cdv A outer s H0 E hr vs Ps P' N H h sm p => ?_
  obtain ⟨evs, n, m, rfl, hn, hm, rfl⟩ := h
  obtain ⟨v, v2, v3, rfl, hv, hv2, hv3⟩ := paired3 p
  have he : evs[n]? = some evs[n] := List.getElem?_eq_getElem hn
  have he2 : evs[m]? = some evs[m] := List.getElem?_eq_getElem hm
  have hat := at_ix he
  have hat2 := at_ix he2
  cases hv2
  cases hv3
  have em : mTwo evs n m = (byTwo evs[n] evs[m]).map fun t => ⟨n, (m : Int), t, conds2 evs[n] evs[m]⟩ := by unfold mTwo; rw [he, he2]
  refine w_asg (i := 3) (.refl sm) (P := isO two (byTwo evs[n] evs[m])) (ev_call GB (hr.mono (by decide)) (ea_cons (P := piece evs[n]) (by walk_at "ev") (ea_cons (P := piece evs[m]) (by walk_at "ev") ea_nil)) ⟨_, _, rfl, rfl⟩) (fun u N1 H1 g s1 hu => ?_) scOfTwo.nd
  have hv := (isL piece evs).mono s1 hv
  refine w_when g (evt_isN (by walk_at "nm") (isO_non two_non)) (fun h H2 g => ?_) (fun h H2 g => ?_)
  · refine w_end g ev_non ?_
    rw [em]
    cases q : byTwo evs[n] evs[m] with
    | none => rfl
    | some t => rw [q] at h; cases h
  · cases q : byTwo evs[n] evs[m] with
    | none => rw [q] at h; cases h
    | some t =>
      rw [q] at hu em
      have hu : (two t).p u N1 := hu
      rw [em]
      refine w_end g (P := isIns CJ [("first", I (n : Int)), ("later", I (m : Int)), ("two", two t), ("needs", isL two (conds2 evs[n] evs[m]))]) (ev_make MJn (hr.mono (by decide)) (ea_cons (by walk_at "ev") (ea_cons (by walk_at "ev") (ea_cons (by walk_at "ev") (ea_cons (ev_call GC (hr.mono (by decide)) (ea_cons (P := piece evs[n]) (by walk_at "ev") (ea_cons (P := piece evs[m]) (by walk_at "ev") ea_nil)) ⟨_, _, rfl, rfl⟩) ea_nil)))) ⟨_, _, _, _, rfl, rfl⟩) rfl
abbrev sFrom : Stmt := top 20
theorem scFrom : FnScope ["pieces", "number", "found", "later", "join"] ["pieces", "number"] (defScope sFrom) := ⟨rfl, rfl, rfl, by decide +kernel, rfl, by decide +kernel, by decide +kernel⟩
def RFrom (CJ : Addr) : List VP → VP → Prop := fun Ps P => ∃ evs n, Ps = [isL piece evs, I ((n : Nat) : Int)] ∧ n < evs.length ∧ evs.length ≤ 1000 ∧ P = isL (join CJ) (mFrom evs n)
theorem join_non : ∀ (j : MJ) v N, (join CJ j).p v N → decide (v = .non) = false := fun j v N h => isIns_non v N h
theorem filterMap_eq {α β : Type} (f : α → Option β) : ∀ (l : List α), (l.map f).filter (fun o => !o.isNone) = (l.filterMap f).map some
  | [] => rfl
  | a :: r => by
    rw [List.map_cons, List.filter_cons, List.filterMap_cons]
    cases h : f a with
    | none => exact filterMap_eq f r
    | some b => exact congrArg (some b :: ·) (filterMap_eq f r)
/-- [join for join in found if join is not None] -/
theorem isO_some {l : List MJ} : isL (isO (join CJ)) (l.map some) = isL (join CJ) l := isL_map
theorem ok_from (F : Fun K "joins_from" "joins_from" sFrom f fd) (T : Txt K mg CJ CG CR CK) (GA : GF P w K mg base CX0 3 "join_alone" ["pieces", "number"] (Pure (RAlone CJ))) (GT : GF P w K mg base CX0 3 "join_of_two" ["pieces", "number", "later"] (Pure (ROfTwo CJ))) :
    FnOk P w K mg base CX0 4 f fd ["pieces", "number"] (Pure (RFrom CJ)) := by
  refine pure_ok F scFrom (fun Ps P h => by obtain ⟨a, b, rfl, _⟩ := h; rfl) fun cdv A outer s H0 E hr vs Ps P' N H h sm p => ?_
  obtain ⟨evs, n, rfl, hn, hl, rfl⟩ := h
  obtain ⟨v, v2, rfl, hv, hv2⟩ := paired2 p
  have he : evs[n]? = some evs[n] := List.getElem?_eq_getElem hn
  have hat := at_ix he
  obtain ⟨aT, gT, hT⟩ := T.cTWOS
  have hlen := T.nlen
  have hrange := T.nrange
  cases hv2
  have fin : ∀ (os : List (Option MJ)) (u : V) (N1 H1 : Hp), Grow N H N1 H1 → (isL (isO (join CJ)) os).p u N1 → isL (join CJ) (os.filterMap id) = isL (join CJ) (mFrom evs n) → os.length < 1000000 →
      bB (cxOf CX0 P w K mg base ["pieces", "number", "found", "later", "join"] "joins_from" (defScope sFrom) f cdv A outer s H0 E).nox ((defBody sFrom).drop 1) { nx := fun _ H' => ∃ N', Grow N H N' H' ∧ (isL (join CJ) (mFrom evs n)).p .non N', rt := fun v H' => ∃ N', Grow N H N' H' ∧ (isL (join CJ) (mFrom evs n)).p v N' } [some v, some (.int n), some u, none, none] H1 := by
    intro os u N1 H1 g hu eo hz
    refine w_end g (P := isL (isO (join CJ)) (((os.filter fun o => !o.isNone)).map id)) (ev_lcL (j := 4) (x := "join") (R := isO (join CJ)) (l := os) (by walk_at "nm") hz (fun o u' N2 s2 ho hu' => ⟨ifs_one (fun _ _ _ _ _ => evt_notN (by walk_at "nm") (isO_non join_non)), fun _ _ _ _ _ _ => by walk_at "nm"⟩) rfl scFrom.nd (blkOk_by (N := ["pieces", "number", "found", "later", "join"]) (sc := defScope sFrom) (by decide +kernel)) (fun _ _ _ _ _ => pg_name scFrom.nd rfl (Or.inl rfl))) ?_
    rw [List.map_id]
    have e := filterMap_eq (id : Option MJ → Option MJ) os
    rw [List.map_id] at e
    rw [e, isO_some, eo]
  refine w_if (.refl sm) (evt_inK (l := [3, 4]) (ev_ixT (Ps := (Vbkoab.evNums evs[n]).map I) (ev_ixL (R := piece) (x := evs[n]) (by walk_at "nm") (by walk_at "nm") hat) ev_int (at0 _)) (by walk_at "nm") hT) (fun h H1 g => ?_) (fun h H1 g => ?_)
  · refine w_lcR (i := 2) (j := 3) (x := "later") (lo := ((n : Int) + 1)) (n := ((evs.length : Int) - ((n : Int) + 1)).toNat) (f := fun i => mTwo evs n (n + 1 + i)) (t := fun _ => true) (S := isO (join CJ)) g (evi_2 hrange (ev_add (by walk_at "nm") ev_int) (ev_lenL hlen (by walk_at "nm")) (by omega) (by omega)) (by omega) (fun i N1 s1 hi => ⟨ifs_nil, fun _ _ _ _ _ _ => ?_⟩) (fun u N1 H2 g s1 hu => ?_) rfl scFrom.nd (blkOk_by (N := ["pieces", "number", "found", "later", "join"]) (sc := defScope sFrom) (by decide +kernel)) (fun _ _ _ _ _ => pg_name scFrom.nd rfl (Or.inl rfl)) (sw_true rfl rfl rfl (by decide +kernel))
    · have hv := (isL piece evs).mono s1 hv
      have ei : (n : Int) + 1 + (i : Nat) = ((n + 1 + i : Nat) : Int) := by omega
      rw [ei]
      exact ev_call GT (hr.mono (by decide)) (ea_cons (by walk_at "ev") (ea_cons (by walk_at "ev") (ea_cons (by walk_at "ev") ea_nil))) ⟨_, _, _, rfl, hn, by omega, rfl⟩
    · rw [filt_true] at hu
      refine b_nil (fin _ u N1 H2 g hu ?_ (by rw [List.length_map, List.length_range]; omega))
      unfold mFrom
      rw [he]
      have hk : inTwos evs[n] = true := by
        have h := of_decide_eq_true h
        unfold inTwos
        rw [Bool.or_eq_true]
        rcases List.mem_cons.mp h with z | z
        · exact .inl (decide_eq_true z)
        · exact .inr (decide_eq_true (List.mem_singleton.mp z))
      show _ = isL (join CJ) (if inTwos evs[n] = true then _ else _)
      rw [if_pos hk, List.filterMap_map]
      have el : ((evs.length : Int) - ((n : Int) + 1)).toNat = evs.length - (n + 1) := by omega
      rw [el]
      rfl
  · refine w_asg (i := 2) g (P := isL (isO (join CJ)) [mAlone evs n]) (ev_lst (ea_cons (ev_call GA (hr.mono (by decide)) (ea_cons (by walk_at "ev") (ea_cons (by walk_at "ev") ea_nil)) ⟨_, _, rfl, hn, rfl⟩) ea_nil) (.cons (fun _ _ z => z) .nil)) (fun u N1 H2 g s1 hu => ?_) scFrom.nd
    refine b_nil (fin _ u N1 H2 g hu ?_ (by show 1 < 1000000; decide))
    unfold mFrom
    rw [he]
    have hk : ¬ inTwos evs[n] = true := by
      have h := of_decide_eq_false h
      unfold inTwos
      rw [Bool.or_eq_true]
      intro z
      rcases z with z | z
      · exact h (List.mem_cons.mpr (.inl (of_decide_eq_true z)))
      · exact h (List.mem_cons.mpr (.inr (List.mem_singleton.mpr (of_decide_eq_true z))))
    show _ = isL (join CJ) (if inTwos evs[n] = true then _ else _)
    rw [if_neg hk]
    cases q : mAlone evs n with
    | none => rfl
    | some j => rfl
end
end PB
namespace PB
open PySem PySem.Spec PyProof.Rows L2
local macro_rules | `(tactic| walk_at "at") => `(tactic| first | exact at0 _ | exact at1 _ | rfl | assumption)
local macro_rules | `(tactic| walk_at "p") => `(tactic| first | assumption | exact (rfl : (is _).p _ _))
local macro_rules | `(tactic| walk_at "nm") => `(tactic| first
  | exact ev_glob (by assumption) (by first | exact ⟨_, rfl⟩ | rfl)
  | exact ev_nameI (by rfl) rfl (by walk_at "p"))
local macro_rules | `(tactic| walk_at "ev") => `(tactic| first
  | (with_reducible show Ev _ (PySem.Expr.Constant _ _ _) _ _ _); first | exact ev_int | exact ev_non | exact ev_bool | exact ev_str
  | (with_reducible show Ev _ (PySem.Expr.Name _ _) _ _ _); walk_at "nm"
  | (with_reducible show Ev _ (PySem.Expr.Subscript _ _ _) _ _ _); first | exact ev_ixT (by walk_at "ev") (by walk_at "ev") (by walk_at "at") | exact ev_ixL (by walk_at "ev") (by walk_at "ev") (by walk_at "at")
  | (with_reducible show Ev _ (PySem.Expr.Tuple _ _ _) _ _ _); exact ev_tup (by walk_at "ea")
  | (with_reducible show Ev _ (PySem.Expr.UnaryOp PySem.UnaryOp.USub _ _) _ _ _); exact ev_neg (by walk_at "ev")
  | (with_reducible show Ev _ (PySem.Expr.Compare _ [PySem.CmpOp.Eq] _ _) _ _ _); exact ev_eqI (by walk_at "ev") (by walk_at "ev")
  | (with_reducible show Ev _ (PySem.Expr.Compare _ [PySem.CmpOp.NotEq] _ _) _ _ _); exact ev_neI (by walk_at "ev") (by walk_at "ev"))
local macro_rules | `(tactic| walk_at "ea") => `(tactic| first
  | (with_reducible show EvA _ [] _ _ _); exact ea_nil
  | exact ea_cons (by walk_at "ev") (by walk_at "ea"))
local macro_rules | `(tactic| walk_at "et") => `(tactic| first
  | (with_reducible show EvT _ (PySem.Expr.Compare _ [PySem.CmpOp.Eq] _ _) _ _ _); exact evt_eqI (by walk_at "ev") (by walk_at "ev")
  | (with_reducible show EvT _ (PySem.Expr.Compare _ [PySem.CmpOp.NotEq] _ _) _ _ _); exact evt_neI (by walk_at "ev") (by walk_at "ev")
  | (with_reducible show EvT _ (PySem.Expr.Compare _ [PySem.CmpOp.Lt] _ _) _ _ _); exact evt_ltI (by walk_at "ev") (by walk_at "ev")
  | (with_reducible show EvT _ (PySem.Expr.Compare _ [PySem.CmpOp.LtE] _ _) _ _ _); exact evt_leI (by walk_at "ev") (by walk_at "ev")
  | (with_reducible show EvT _ (PySem.Expr.Compare _ [PySem.CmpOp.Gt] _ _) _ _ _); exact evt_gtI (by walk_at "ev") (by walk_at "ev")
  | (with_reducible show EvT _ (PySem.Expr.Compare _ [PySem.CmpOp.GtE] _ _) _ _ _); exact evt_geI (by walk_at "ev") (by walk_at "ev"))
/-! ### Groups -/
abbrev isNs (l : List Nat) : VP := isL (fun n : Nat => I (n : Int)) l
def groupsF (g : List Nat) : List (Str × VP) := [("least", isNs g)]
def groups (CG : Addr) (g : List Nat) : VP := isIns CG (groupsF g)
/-- two, as a tuple or as a list -/
def Twoish (q : VP) (t : Nat × Nat) : Prop := q = two t ∨ q = isNs [t.1, t.2]
theorem at_getD {g : List Nat} {x : Nat} (h : x < g.length) : atI g (x : Int) = some (g.getD x x) := by
  refine at_ix ?_
  rw [List.getD_eq_getElem?_getD, List.getElem?_eq_getElem h]
  rfl
abbrev sGInit : Stmt := inClass (top 17) 0
theorem scGInit : FnScope ["self", "many"] ["self", "many"] (defScope sGInit) := ⟨rfl, rfl, rfl, by decide +kernel, rfl, by decide +kernel, by decide +kernel⟩
def RGInit : List VP → List (Str × VP) → Prop := fun Ps fs => ∃ n, Ps = [I ((n : Nat) : Int)] ∧ n ≤ 1000 ∧ fs = groupsF (List.range n)
abbrev sOne : Stmt := inClass (top 17) 1
theorem scOne : FnScope ["self", "two"] ["self", "two"] (defScope sOne) := ⟨rfl, rfl, rfl, by decide +kernel, rfl, by decide +kernel, by decide +kernel⟩
def ROne (CG : Addr) : List VP → VP → Prop := fun Ps P => ∃ g q t, Ps = [groups CG g, q] ∧ Twoish q t ∧ t.1 < g.length ∧ t.2 < g.length ∧ P = B (Vbkoab.one g t.1 t.2)
abbrev sAllOne : Stmt := inClass (top 17) 2
theorem scAllOne : FnScope ["self", "twos", "two"] ["self", "twos"] (defScope sAllOne) := ⟨rfl, rfl, rfl, by decide +kernel, rfl, by decide +kernel, by decide +kernel⟩
def RAllOne (CG : Addr) : List VP → VP → Prop := fun Ps P => ∃ g ts, Ps = [groups CG g, isL two ts] ∧ (∀ t ∈ ts, t.1 < g.length ∧ t.2 < g.length) ∧ ts.length < 1000 ∧ P = B (ts.all fun t => Vbkoab.one g t.1 t.2)
abbrev sPut : Stmt := inClass (top 17) 3
theorem scPut : FnScope ["self", "two", "one", "other", "low", "number"] ["self", "two"] (defScope sPut) := ⟨rfl, rfl, rfl, by decide +kernel, rfl, by decide +kernel, by decide +kernel⟩
/-- put_together changes its object -/
def SpPut (CG : Addr) : Sp := fun vs H Q _ => ∃ (a dx : Addr) (u v : V) (g : List Nat) (t : Nat × Nat) (N : Hp), vs = [.ref a, v] ∧ N a = none ∧ Same N H ∧ H a = some (.ins CG dx [("least", u)]) ∧ (isNs g).p u N ∧ (two t).p v N ∧ t.1 < g.length ∧ t.2 < g.length ∧ g.length ≤ 1000 ∧
  ∀ N' H' u', But a N H N' H' → H' a = some (.ins CG dx [("least", u')]) → (isNs (Vbkoab.united g t.1 t.2)).p u' N' → Q .non H'
abbrev sRows : Stmt := inClass (top 17) 4
theorem scRows : FnScope ["self", "found", "one", "other"] ["self"] (defScope sRows) := ⟨rfl, rfl, rfl, by decide +kernel, rfl, by decide +kernel, by decide +kernel⟩
def rowOf (g : List Nat) (r : Nat) : List Nat := (List.range g.length).filter fun x => g.getD x x == r
def mRows (g : List Nat) : List (List Nat) := ((List.range g.length).filter fun x => g.getD x x == x).map fun r => rowOf g r
def RRows (CG : Addr) : List VP → VP → Prop := fun Ps P => ∃ g, Ps = [groups CG g] ∧ g.length ≤ 1000 ∧ P = isL isNs (mRows g)
section
variable {P : Program} {w : World} {K : PySem.W.Frag} {mg : Str → Option Value} {base : Heap} {CJ CG CR CK : Addr} {f : Addr} {fd : FuncData}
theorem ok_gInit (F : Fun K "__init__" "Groups.__init__" sGInit f fd) (T : Txt K mg CJ CG CR CK) : FnOk P w K mg base CX0 1 f fd ["self", "many"] (Init CG RGInit) := by
  refine init_ok F scGInit (fun Ps P h => by obtain ⟨n, rfl, _⟩ := h; rfl) fun cdv A outer s H0 E hr x dx args Ps fs N H h nx sm hx p => ?_
  obtain ⟨n, rfl, hn, rfl⟩ := h
  obtain ⟨v, rfl, rfl⟩ := paired1 p
  refine b_fld (N2 := N) hx (by show 0 < 1000; decide) T.gC T.gleast (ev_listR rfl T.nrange T.nlist (by omega) (by walk_at "nm")) sm (by walk_at "nm") sm (fun v N1 H1 g hv hx1 => b_nil ⟨N1, [("least", v)], ?_, ?_, .cons ⟨rfl, hv⟩ .nil⟩)
  · exact (But.of g).trans (But.put g.nh (g.nw x nx (by rw [hx]; simp)))
  · rw [upd_same]; rfl
theorem lk1 {α : Type} {k : Str} {v : α} : List.lookup k [(k, v)] = some v := lk_here
theorem ok_one (F : Fun K "are_one" "Groups.are_one" sOne f fd) (T : Txt K mg CJ CG CR CK) : FnOk P w K mg base CX0 1 f fd ["self", "two"] (Pure (ROne CG)) := by
  refine pure_ok F scOne (fun Ps P h => by obtain ⟨g, q, t, rfl, _⟩ := h; rfl) fun cdv A outer s H0 E hr vs Ps P' N H h sm p => ?_
  obtain ⟨g, q, t, rfl, hq, h1, h2, rfl⟩ := h
  obtain ⟨v, v2, rfl, hv, hv2⟩ := paired2 p
  have a1 := at_getD h1
  have a2 := at_getD h2
  have fin : B (decide (((g.getD t.1 t.1 : Nat) : Int) = ((g.getD t.2 t.2 : Nat) : Int))) = B (Vbkoab.one g t.1 t.2) := by
    congr 1
    unfold Vbkoab.one
    by_cases e : t.1 = t.2
    · rw [e]; simp
    · have e1 : (t.1 == t.2) = false := by simpa using e
      rw [e1, Bool.false_or]
      by_cases z : g.getD t.1 t.1 = g.getD t.2 t.2
      · rw [z]; simp
      · have z1 : ¬ ((g.getD t.1 t.1 : Nat) : Int) = ((g.getD t.2 t.2 : Nat) : Int) := fun k => z (Int.ofNat.inj k)
        rw [decide_eq_false z1]
        exact (beq_eq_false_iff_ne.mpr z).symm
  have fld : ∀ pos, Ev (cxOf CX0 P w K mg base ["self", "two"] "Groups.are_one" (defScope sOne) f cdv A outer s H0 E).nox (.Attribute (.Name "self" pos) "least" pos) (start ["self", "two"] [v, v2]) N (isNs g) := fun pos => ev_fld T.gC T.gleast (fs := groupsF g) (by walk_at "nm") lk1
  rcases hq with rfl | rfl
  · refine w_end (.refl sm) (P := B (decide (((g.getD t.1 t.1 : Nat) : Int) = ((g.getD t.2 t.2 : Nat) : Int)))) (ev_eqI (ev_ixL (R := fun n : Nat => I (n : Int)) (ev_fld T.gC T.gleast (fs := groupsF g) (by walk_at "nm") lk1) (ev_ixT (Ps := [I (t.1 : Int), I (t.2 : Int)]) (by walk_at "nm") ev_int rfl) a1) (ev_ixL (R := fun n : Nat => I (n : Int)) (ev_fld T.gC T.gleast (fs := groupsF g) (by walk_at "nm") lk1) (ev_ixT (Ps := [I (t.1 : Int), I (t.2 : Int)]) (by walk_at "nm") ev_int rfl) a2)) fin
  · refine w_end (.refl sm) (P := B (decide (((g.getD t.1 t.1 : Nat) : Int) = ((g.getD t.2 t.2 : Nat) : Int)))) (ev_eqI (ev_ixL (R := fun n : Nat => I (n : Int)) (ev_fld T.gC T.gleast (fs := groupsF g) (by walk_at "nm") lk1) (ev_ixL (R := fun n : Nat => I (n : Int)) (l := [t.1, t.2]) (x := t.1) (by walk_at "nm") ev_int rfl) a1) (ev_ixL (R := fun n : Nat => I (n : Int)) (ev_fld T.gC T.gleast (fs := groupsF g) (by walk_at "nm") lk1) (ev_ixL (R := fun n : Nat => I (n : Int)) (l := [t.1, t.2]) (x := t.2) (by walk_at "nm") ev_int rfl) a2)) fin
def twoD (t : Nat × Nat) : PyData := .tuple [.int (t.1 : Int), .int (t.2 : Int)]
theorem isd_two (t : Nat × Nat) : IsD (two t) (twoD t) := isd_tup (.cons isd_int (.cons isd_int .nil))
theorem flat_two (t : Nat × Nat) : Flat 2 (twoD t) := flat_tup (k := 1) fun d hd => by
  rcases List.mem_cons.mp hd with rfl | hd
  · exact flat_int
  · rcases List.mem_cons.mp hd with rfl | hd
    · exact flat_int
    · cases hd
theorem empty_all {α : Type} (t : α → Bool) : ∀ (l : List α), (l.filter fun x => !t x).isEmpty = l.all t
  | [] => rfl
  | a :: r => by
    rw [List.filter_cons, List.all_cons, ← empty_all t r]
    cases h : t a <;> simp
theorem ok_allOne (F : Fun K "all_one" "Groups.all_one" sAllOne f fd) (T : Txt K mg CJ CG CR CK) (MO : MF P w K mg base CX0 1 CG "are_one" ["self", "two"] (Pure (ROne CG))) : FnOk P w K mg base CX0 2 f fd ["self", "twos"] (Pure (RAllOne CG)) := by
  refine pure_ok F scAllOne (fun Ps P h => by obtain ⟨g, q, rfl, _⟩ := h; rfl) fun cdv A outer s H0 E hr vs Ps P' N H h sm p => ?_
  obtain ⟨g, ts, rfl, hb, hl, rfl⟩ := h
  obtain ⟨v, v2, rfl, hv, hv2⟩ := paired2 p
  refine w_end (.refl sm) (ev_eqNil (l := (ts.filter fun t => !Vbkoab.one g t.1 t.2).map id) (units_of hr) (ev_lcL (j := 2) (x := "two") (R := two) (l := ts) (t := fun t => !Vbkoab.one g t.1 t.2) (f := id) (by walk_at "nm") (by omega) (fun t u N2 s2 ht hu => ⟨ifs_one fun _ _ _ _ _ => ?_, fun _ _ _ _ _ _ => by walk_at "nm"⟩) rfl scAllOne.nd (blkOk_by (N := ["self", "twos", "two"]) (sc := defScope sAllOne) (by decide +kernel)) (fun _ _ _ _ _ => pg_name scAllOne.nd rfl (Or.inl rfl))) isd_two flat_two (by decide)) ?_
  · have hv := (groups CG g).mono s2 hv
    refine evt_not (evt_val (ev_meth MO T.gC (hr.mono (by decide)) (fs := groupsF g) (by walk_at "nm") ?_ (ea_cons (by walk_at "nm") ea_nil) ⟨g, _, t, rfl, .inl rfl, (hb t ht).1, (hb t ht).2, rfl⟩))
    exact (lk_past (by decide +kernel)).trans rfl
  · rw [List.map_id, empty_all]
theorem united_len (g : List Nat) (x y : Nat) : (Vbkoab.united g x y).length = g.length := by unfold Vbkoab.united; simp
theorem putF_one {k : Str} {u v : V} : putF k v [(k, u)] = [(k, v)] := put_here
theorem noins_ns {l : List Nat} : NoIns (isNs l) := noins_l fun _ => noins_is
theorem ok_put (F : Fun K "put_together" "Groups.put_together" sPut f fd) (T : Txt K mg CJ CG CR CK) : FnOk P w K mg base CX0 1 f fd ["self", "two"] (SpPut CG) := by
  refine F.ok scPut (fun vs H Q E h => ?_) (fun cdv A outer s H vs Q E hr h => ⟨_, pss_b, ?_⟩)
  · obtain ⟨a, dx, u, v, g, t, N, rfl, _⟩ := h
    rfl
  obtain ⟨a, dx, u, v, g, t, N, rfl, na, sm, ha, hu, hv, h1, h2, hl, k⟩ := h
  have a1 := at_getD h1
  have a2 := at_getD h2
  have sa : Same (upd N a (.ins CG dx [("least", u)])) H := same_put sm ha
  have nN : Same N (upd N a (.ins CG dx [("least", u)])) := same_new na
  have hself : (groups CG g).p (.ref a) (upd N a (.ins CG dx [("least", u)])) := ⟨a, dx, [("least", u)], rfl, upd_same, .cons ⟨rfl, (isNs g).mono nN hu⟩ .nil⟩
  have hv' := (two t).mono nN hv
  refine b_par (i := 2) (j := 3) (N := upd N a (.ins CG dx [("least", u)])) (P1 := I ((g.getD t.1 t.1 : Nat) : Int)) (P2 := I ((g.getD t.2 t.2 : Nat) : Int))
    (ev_ixL (R := fun n : Nat => I (n : Int)) (ev_fld T.gC T.gleast (fs := groupsF g) (by walk_at "nm") lk1) (ev_ixT (Ps := [I (t.1 : Int), I (t.2 : Int)]) (by walk_at "nm") ev_int rfl) a1)
    (ev_ixL (R := fun n : Nat => I (n : Int)) (ev_fld T.gC T.gleast (fs := groupsF g) (by walk_at "nm") lk1) (ev_ixT (Ps := [I (t.1 : Int), I (t.2 : Int)]) (by walk_at "nm") ev_int rfl) a2) sa (fun u1 u2 N1 H1 g1 p1 p2 => ?_) rfl scPut.nd
  cases p1
  cases p2
  have sm1 : Same (upd N a (.ins CG dx [("least", u)])) H1 := sa.trans g1.hh
  refine b_asgV (i := 4) (v := .int (if ((g.getD t.2 t.2 : Nat) : Int) < ((g.getD t.1 t.1 : Nat) : Int) then ((g.getD t.2 t.2 : Nat) : Int) else ((g.getD t.1 t.1 : Nat) : Int))) (ev_min rfl T.nmin (by walk_at "nm") (by walk_at "nm")) sm1 (fun H2 s2 => ?_) scPut.nd
  have ha2 : H2 a = some (.ins CG dx [("least", u)]) := s2 _ _ (g1.hh _ _ ha)
  generalize hlow : (if ((g.getD t.2 t.2 : Nat) : Int) < ((g.getD t.1 t.1 : Nat) : Int) then ((g.getD t.2 t.2 : Nat) : Int) else ((g.getD t.1 t.1 : Nat) : Int)) = low
  refine b_fld (P := isNs (Vbkoab.united g t.1 t.2)) (N := upd N a (.ins CG dx [("least", u)])) (N2 := upd N a (.ins CG dx [("least", u)])) ha2 (by show 1 < 1000; decide) T.gC T.gleast ?_ (sm1.trans s2) (by walk_at "nm") (sm1.trans s2) (fun v3 N3 H3 g3 hv3 ha3 => b_nil ?_)
  · refine ev_eq (ev_lcL (j := 5) (x := "number") (R := fun n : Nat => I (n : Int)) (S := I) (l := g) (t := fun _ => true) (f := fun z => if z = max (g.getD t.1 t.1) (g.getD t.2 t.2) then ((min (g.getD t.1 t.1) (g.getD t.2 t.2) : Nat) : Int) else (z : Int)) (ev_fld T.gC T.gleast (fs := groupsF g) (by walk_at "nm") lk1) (by omega) (fun z v4 N4 s4 hz hv4 => ⟨ifs_nil, fun _ _ _ _ _ _ => ?_⟩) rfl scPut.nd (blkOk_by (N := ["self", "two", "one", "other", "low", "number"]) (sc := defScope sPut) (by decide +kernel)) (fun _ _ _ _ _ => pg_name scPut.nd rfl (Or.inl rfl))) ?_
    · cases hv4
      refine ev_ixL (R := I) (l := [(z : Int), low]) (i := if decide ((z : Int) ∈ [((g.getD t.1 t.1 : Nat) : Int), ((g.getD t.2 t.2 : Nat) : Int)]) then 1 else 0) (ev_lst (ea_cons (by walk_at "nm") (ea_cons (by walk_at "nm") ea_nil)) (.cons (fun _ _ z => z) (.cons (fun _ _ z => z) .nil))) (ev_intB T.nint (ev_inT (by walk_at "nm") (ev_tup (ea_cons (by walk_at "nm") (ea_cons (by walk_at "nm") ea_nil))) rfl)) ?_
      subst hlow
      by_cases hm : (z : Int) ∈ [((g.getD t.1 t.1 : Nat) : Int), ((g.getD t.2 t.2 : Nat) : Int)]
      · rw [decide_eq_true hm, if_pos rfl]
        show some _ = some _
        congr 1
        have hm' : z = g.getD t.1 t.1 ∨ z = g.getD t.2 t.2 := by
          rcases List.mem_cons.mp hm with q | q
          · exact .inl (Int.ofNat.inj q)
          · exact .inr (Int.ofNat.inj (List.mem_singleton.mp q))
        split <;> split <;> omega
      · rw [decide_eq_false hm]
        show some _ = some _
        congr 1
        have h3 : ¬ z = g.getD t.1 t.1 := fun q => hm (List.mem_cons.mpr (.inl (by rw [q])))
        have h4 : ¬ z = g.getD t.2 t.2 := fun q => hm (List.mem_cons.mpr (.inr (List.mem_singleton.mpr (by rw [q]))))
        rw [if_neg (by omega)]
    · rw [filt_true, isL_map]
      unfold Vbkoab.united
      show _ = isL _ (g.map _)
      rw [isL_map]
      congr 1
      funext z
      show I _ = I _
      congr 1
      split <;> rfl
  · have hi : N3 a = some (.ins CG dx [("least", u)]) := g3.nn _ _ upd_same
    have g13 : Grow (upd N a (.ins CG dx [("least", u)])) H N3 H3 := (Grow.keep sa (g1.hh.trans s2)).trans g3
    · obtain ⟨s1, s2', nw⟩ := g13.del na hi
      refine k (del N3 a) _ v3 ⟨fun b o hb e => by rw [upd_ne hb]; exact g13.hh b o e, s1, fun b o e => ?_, nw, fun b hb => ?_⟩ ?_ (noins_ns v3 N3 a CG dx _ hi hv3)
      · by_cases hb : b = a
        · subst hb; rw [del_at] at e; cases e
        · rw [upd_ne hb]; exact s2' b o e
      · by_cases hba : b = a
        · subst hba; rw [upd_same]; simp
        · rw [upd_ne hba]; exact same_dom g13.hh b hb
      · rw [upd_same, putF_one]
theorem mRows_more (g : List Nat) (i : Nat) : ((List.range (i + 1)).filter fun x => g.getD x x == x).map (rowOf g) = (((List.range i).filter fun x => g.getD x x == x).map (rowOf g)) ++ (if g.getD i i = i then [rowOf g i] else []) := by
  rw [List.range_succ, List.filter_append, List.map_append]
  congr 1
  by_cases h : g.getD i i = i
  · rw [if_pos h]
    simp only [List.filter_cons, List.filter_nil]
    rw [if_pos (by rw [h]; exact beq_self_eq_true i)]
    rfl
  · rw [if_neg h]
    simp only [List.filter_cons, List.filter_nil]
    rw [if_neg (by simpa using h)]
    rfl
theorem ok_rows (F : Fun K "rows" "Groups.rows" sRows f fd) (T : Txt K mg CJ CG CR CK) : FnOk P w K mg base CX0 1 f fd ["self"] (Pure (RRows CG)) := by
  refine pure_ok F scRows (fun Ps P h => by obtain ⟨g, rfl, _⟩ := h; rfl) fun cdv A outer s H0 E hr vs Ps P' N H h sm p => ?_
  obtain ⟨g, rfl, hl, rfl⟩ := h
  obtain ⟨v, rfl, hv⟩ := paired1 p
  have hrange := T.nrange
  have hlen := T.nlen
  refine w_asgM (i := 1) (.refl sm) (fun l H1 hl0 _ g1 nl hl1 => ?_) scRows.nd
  have evl : ∀ {σ : L2.St} {N1 : Hp} {X : Cx}, True := trivial
  refine b_forR (tg := _) (g := gName 2) (lo := 0) (n := ((g.length : Nat) : Int).toNat) (evi_1 hrange (ev_lenL hlen (ev_fld T.gC T.gleast (fs := groupsF g) (by walk_at "nm") lk1)) (by omega)) g1.nh
    (fun i σ1 N1 H2 => ∃ w1 xs, σ1 = [some v, some (.ref l), w1, none] ∧ Grow N H N1 H2 ∧ N1 l = none ∧ H2 l = some (.lst xs) ∧ Paired (fun v y => (isNs y).p v N1) xs (((List.range i).filter fun x => g.getD x x == x).map (rowOf g)))
    (fun H2 s2 => ⟨none, [], rfl, g1.more s2, nl, s2 _ _ hl1, .nil⟩) (fun i σ1 N1 H2 hi s1 s2 ⟨w1, xs, e, g2, nl2, hl2, pr⟩ => ?_) (fun σ1 N1 H2 s1 s2 ⟨w1, xs, e, g2, nl2, hl2, pr⟩ => ?_) PassesOwn.never rfl (pg_name scRows.nd rfl (Or.inr rfl))
  · subst e
    have hv1 := (groups CG g).mono s1 hv
    have hi' : i < g.length := by omega
    have ai := at_getD hi'
    have e0 : (0 : Int) + (i : Nat) = (i : Nat) := by omega
    show bB _ _ _ _ _
    rw [e0]
    refine b_when (t := decide (((g.getD i i : Nat) : Int) = (i : Int))) (evt_eqI (ev_ixL (R := fun n : Nat => I (n : Int)) (ev_fld T.gC T.gleast (fs := groupsF g) (by walk_at "nm") lk1) (by walk_at "nm") ai) (by walk_at "nm")) g2.nh (fun h H3 s3 => ?_) (fun h H3 s3 => ?_)
    · have h := of_decide_eq_true h
      have hg : g.getD i i = i := Int.ofNat.inj h
      have hl3 : H3 l = some (.lst xs) := s3 _ _ hl2
      have g3 := g2.more s3
      refine b_append (N2 := N1) (xs := xs) (P := isNs (rowOf g i)) hl3 (by rw [paired_len pr, List.length_map]; refine Nat.lt_of_le_of_lt (List.length_filter_le _ _) ?_; rw [List.length_range]; omega) (by walk_at "nm") g3.nh ?_ g3.nh (fun u N4 H4 g4 hu hl4 => b_nil (b_nil ?_))
      · refine ev_eq (ev_lcR (j := 3) (x := "other") (lo := 0) (n := ((g.length : Nat) : Int).toNat) (S := fun n : Nat => I (n : Int)) (f := fun k => k) (t := fun k => g.getD k k == i) (evi_1 hrange (ev_lenL hlen (ev_fld T.gC T.gleast (fs := groupsF g) (by walk_at "nm") lk1)) (by omega)) (by omega) (fun k N5 s5 hk => ⟨ifs_one fun _ _ _ _ _ => ?_, fun _ _ _ _ _ _ => ?_⟩) rfl scRows.nd (blkOk_by (N := ["self", "found", "one", "other"]) (sc := defScope sRows) (by decide +kernel)) (fun _ _ _ _ _ => pg_name scRows.nd rfl (Or.inl rfl))) ?_
        · have hv5 := (groups CG g).mono s5 hv1
          have ak := at_getD (g := g) (x := k) (by omega)
          have e1 : (0 : Int) + (k : Nat) = (k : Nat) := by omega
          rw [e1]
          refine (evt_eqI (ev_ixL (R := fun n : Nat => I (n : Int)) (ev_fld T.gC T.gleast (fs := groupsF g) (by walk_at "nm") lk1) (by walk_at "nm") ak) (by walk_at "nm")).to ?_
          by_cases z : g.getD k k = i
          · rw [z]; simp
          · exact (decide_eq_false (fun q : ((g.getD k k : Nat) : Int) = (i : Int) => z (Int.ofNat.inj q))).trans (beq_eq_false_iff_ne.mpr z).symm
        · have e1 : (0 : Int) + (k : Nat) = (k : Nat) := by omega
          rw [e1]
          walk_at "nm"
        · show isL _ ((List.filter _ (List.range ((g.length : Nat) : Int).toNat)).map fun k => k) = isL _ (rowOf g i)
          rw [List.map_id', Int.toNat_natCast]
          rfl
      · have nl4 : N4 l = none := g4.nw l nl2 (by rw [hl3]; simp)
        refine ⟨N4, s1.trans g4.nn, fun b o e => by rw [upd_ne (ne_of_none e nl4)]; exact g4.nh b o e, _, xs ++ [u], rfl, (g3.trans g4).put nl4 hl0, nl4, upd_same, ?_⟩
        rw [mRows_more, if_pos hg]
        exact paired_app (paired_mono pr fun v y z => (isNs y).mono g4.nn z) (.cons hu .nil)
    · have hg : ¬ g.getD i i = i := fun z => by rw [z] at h; simp at h
      refine b_nil ⟨N1, s1, g2.nh.trans s3, _, xs, rfl, g2.more s3, nl2, s3 _ _ hl2, ?_⟩
      rw [mRows_more, if_neg hg, List.append_nil]
      exact pr
  · subst e
    have hlx := isL_at (R := isNs) nl2 pr
    refine w_end (g2.fix nl2 hl0 hl2) (P := isL isNs (((List.range ((g.length : Nat) : Int).toNat).filter fun x => g.getD x x == x).map (rowOf g))) (by walk_at "nm") ?_
    rw [Int.toNat_natCast]
    rfl
end
end PB
namespace PB
open PySem PySem.Spec PyProof.Rows L2
local macro_rules | `(tactic| walk_at "at") => `(tactic| first | exact at0 _ | exact at1 _ | rfl | assumption)
local macro_rules | `(tactic| walk_at "p") => `(tactic| first | assumption | exact (rfl : (is _).p _ _))
local macro_rules | `(tactic| walk_at "nm") => `(tactic| first
  | exact ev_glob (by assumption) (by first | exact ⟨_, rfl⟩ | rfl)
  | exact ev_nameI (by rfl) rfl (by walk_at "p"))
local macro_rules | `(tactic| walk_at "ev") => `(tactic| first
  | (with_reducible show Ev _ (PySem.Expr.Constant _ _ _) _ _ _); first | exact ev_int | exact ev_non | exact ev_bool | exact ev_str
  | (with_reducible show Ev _ (PySem.Expr.Name _ _) _ _ _); walk_at "nm"
  | (with_reducible show Ev _ (PySem.Expr.Subscript _ _ _) _ _ _); first | exact ev_ixT (by walk_at "ev") (by walk_at "ev") (by walk_at "at") | exact ev_ixL (by walk_at "ev") (by walk_at "ev") (by walk_at "at")
  | (with_reducible show Ev _ (PySem.Expr.Tuple _ _ _) _ _ _); exact ev_tup (by walk_at "ea")
  | (with_reducible show Ev _ (PySem.Expr.UnaryOp PySem.UnaryOp.USub _ _) _ _ _); exact ev_neg (by walk_at "ev")
  | (with_reducible show Ev _ (PySem.Expr.Compare _ [PySem.CmpOp.Eq] _ _) _ _ _); exact ev_eqI (by walk_at "ev") (by walk_at "ev")
  | (with_reducible show Ev _ (PySem.Expr.Compare _ [PySem.CmpOp.NotEq] _ _) _ _ _); exact ev_neI (by walk_at "ev") (by walk_at "ev"))
local macro_rules | `(tactic| walk_at "ea") => `(tactic| first
  | (with_reducible show EvA _ [] _ _ _); exact ea_nil
  | exact ea_cons (by walk_at "ev") (by walk_at "ea"))
local macro_rules | `(tactic| walk_at "et") => `(tactic| first
  | (with_reducible show EvT _ (PySem.Expr.Compare _ [PySem.CmpOp.Eq] _ _) _ _ _); exact evt_eqI (by walk_at "ev") (by walk_at "ev")
  | (with_reducible show EvT _ (PySem.Expr.Compare _ [PySem.CmpOp.NotEq] _ _) _ _ _); exact evt_neI (by walk_at "ev") (by walk_at "ev")
  | (with_reducible show EvT _ (PySem.Expr.Compare _ [PySem.CmpOp.Lt] _ _) _ _ _); exact evt_ltI (by walk_at "ev") (by walk_at "ev")
  | (with_reducible show EvT _ (PySem.Expr.Compare _ [PySem.CmpOp.LtE] _ _) _ _ _); exact evt_leI (by walk_at "ev") (by walk_at "ev")
  | (with_reducible show EvT _ (PySem.Expr.Compare _ [PySem.CmpOp.Gt] _ _) _ _ _); exact evt_gtI (by walk_at "ev") (by walk_at "ev")
  | (with_reducible show EvT _ (PySem.Expr.Compare _ [PySem.CmpOp.GtE] _ _) _ _ _); exact evt_geI (by walk_at "ev") (by walk_at "ev"))
/-! ### Run: the mirror -/
def okTwo (n : Nat) (t : Nat × Nat) : Prop := t.1 < n ∧ t.2 < n
def okJ (n : Nat) (j : MJ) : Prop := okTwo n j.t ∧ (∀ t ∈ j.needs, okTwo n t) ∧ j.needs.length ≤ 2
def okEv (n : Nat) : Piece → Prop
  | .same x y => x < n ∧ y < n
  | .differ x y => x < n ∧ y < n
  | .link x _ y => x < n ∧ y < n
  | .key x _ _ => x < n
  | .single x _ _ => x < n
  | .if_ x y u v => x < n ∧ y < n ∧ u < n ∧ v < n
  | .both x y p q u v => x < n ∧ y < n ∧ p < n ∧ q < n ∧ u < n ∧ v < n
def okEvs (n : Nat) (evs : List Piece) : Prop := ∀ e ∈ evs, okEv n e
def mEvery (evs : List Piece) : List MJ := (List.range evs.length).flatMap (mFrom evs)
def cond (g : List Nat) (j : MJ) : Bool := !Vbkoab.one g j.t.1 j.t.2 && j.needs.all fun t => Vbkoab.one g t.1 t.2
def mRunFrom (every : List MJ) : Nat → List Nat → List MJ → List Nat × List MJ
  | 0, g, l => (g, l)
  | k + 1, g, l => match every.find? (cond g) with
    | none => (g, l)
    | some j => mRunFrom every k (Vbkoab.united g j.t.1 j.t.2) (l ++ [j])
def mRun (n : Nat) (evs : List Piece) : List Nat × List MJ := mRunFrom (mEvery evs) (List.range n).sum (List.range n) []
theorem byOne_ok {n : Nat} {e : Piece} {t : Nat × Nat} (h : okEv n e) (q : byOne e = some t) : okTwo n t := by
  cases e <;> simp [byOne] at q <;> subst q <;> simp [okEv] at h <;> simp [okTwo] <;> omega
theorem byTwo_ok {n : Nat} {a b : Piece} {t : Nat × Nat} (h : okEv n a) (h2 : okEv n b) (q : byTwo a b = some t) : okTwo n t := by
  cases a <;> cases b <;> simp [byTwo] at q
  all_goals
    obtain ⟨_, rfl⟩ := q
    simp [okEv] at h h2
    simp [okTwo]
    omega
theorem conds_ok {n : Nat} {e : Piece} (h : okEv n e) : (∀ t ∈ conds e, okTwo n t) ∧ (conds e).length ≤ 2 := by
  cases e <;> simp [conds, okTwo] <;> simp [okEv] at h <;> omega
theorem evX_ok {n : Nat} {e : Piece} (h : okEv n e) : evX e < n := by
  cases e <;> simp [okEv] at h <;> simp [evX] <;> omega
theorem conds2_ok {n : Nat} {a b : Piece} (h : okEv n a) (h2 : okEv n b) : (∀ t ∈ conds2 a b, okTwo n t) ∧ (conds2 a b).length ≤ 2 := by
  have := evX_ok h2
  cases a <;> simp [conds2, okTwo] <;> simp [okEv] at h <;> omega
theorem mAlone_ok {n : Nat} {evs : List Piece} {i : Nat} {j : MJ} (h : okEvs n evs) (q : mAlone evs i = some j) : okJ n j := by
  unfold mAlone at q
  cases e : evs[i]? with
  | none => rw [e] at q; cases q
  | some a =>
    rw [e] at q
    have ha := h a (List.mem_of_getElem? e)
    have q : (byOne a).map (fun t => (⟨i, -1, t, conds a⟩ : MJ)) = some j := q
    cases r : byOne a with
    | none => rw [r] at q; cases q
    | some t => rw [r] at q; cases q; exact ⟨byOne_ok ha r, conds_ok ha⟩
theorem mTwo_ok {n : Nat} {evs : List Piece} {i k : Nat} {j : MJ} (h : okEvs n evs) (q : mTwo evs i k = some j) : okJ n j := by
  unfold mTwo at q
  cases e : evs[i]? with
  | none => rw [e] at q; cases q
  | some a =>
    cases e2 : evs[k]? with
    | none => rw [e, e2] at q; cases q
    | some b =>
      rw [e, e2] at q
      have ha := h a (List.mem_of_getElem? e)
      have hb := h b (List.mem_of_getElem? e2)
      have q : (byTwo a b).map (fun t => (⟨i, (k : Int), t, conds2 a b⟩ : MJ)) = some j := q
      cases r : byTwo a b with
      | none => rw [r] at q; cases q
      | some t => rw [r] at q; cases q; exact ⟨byTwo_ok ha hb r, conds2_ok ha hb⟩
theorem mFrom_ok {n : Nat} {evs : List Piece} {i : Nat} (h : okEvs n evs) : ∀ j ∈ mFrom evs i, okJ n j := by
  intro j hj
  unfold mFrom at hj
  cases e : evs[i]? with
  | none => rw [e] at hj; cases hj
  | some a =>
    rw [e] at hj
    have hj : j ∈ (if inTwos a = true then (List.range (evs.length - (i + 1))).filterMap (fun k => mTwo evs i (i + 1 + k)) else (mAlone evs i).toList) := hj
    split at hj
    · obtain ⟨k, _, q⟩ := List.mem_filterMap.mp hj
      exact mTwo_ok h q
    · exact mAlone_ok h (Option.mem_toList.mp hj)
theorem mEvery_ok {n : Nat} {evs : List Piece} (h : okEvs n evs) : ∀ j ∈ mEvery evs, okJ n j := by
  intro j hj
  obtain ⟨i, _, q⟩ := List.mem_flatMap.mp hj
  exact mFrom_ok h j q
theorem mFrom_len (evs : List Piece) (i : Nat) : (mFrom evs i).length ≤ evs.length + 1 := by
  unfold mFrom
  cases e : evs[i]? with
  | none => exact Nat.zero_le _
  | some a =>
    show (if inTwos a = true then (List.range (evs.length - (i + 1))).filterMap (fun k => mTwo evs i (i + 1 + k)) else (mAlone evs i).toList).length ≤ _
    split
    · refine Nat.le_trans (List.length_filterMap_le _ _) ?_
      rw [List.length_range]; omega
    · cases mAlone evs i with
      | none => exact Nat.zero_le _
      | some j => show 1 ≤ _; omega
theorem flat_len (evs : List Piece) : ∀ (l : List Nat), (l.flatMap (mFrom evs)).length ≤ l.length * (evs.length + 1)
  | [] => by simp
  | a :: r => by
    rw [List.flatMap_cons, List.length_append, List.length_cons, Nat.succ_mul]
    have := mFrom_len evs a
    have := flat_len evs r
    omega
/-! united makes the sum smaller -/
theorem sum_map_le (f : Nat → Nat) (hf : ∀ z, f z ≤ z) : ∀ l : List Nat, (l.map f).sum ≤ l.sum
  | [] => Nat.le_refl _
  | a :: r => by
    rw [List.map_cons, List.sum_cons, List.sum_cons]
    have := hf a
    have := sum_map_le f hf r
    omega
theorem sum_map_lt (f : Nat → Nat) (hf : ∀ z, f z ≤ z) : ∀ l : List Nat, (∃ z ∈ l, f z < z) → (l.map f).sum < l.sum
  | [], h => by obtain ⟨z, hz, _⟩ := h; cases hz
  | a :: r, h => by
    rw [List.map_cons, List.sum_cons, List.sum_cons]
    obtain ⟨z, hz, hlt⟩ := h
    rcases List.mem_cons.mp hz with rfl | hz
    · have := sum_map_le f hf r
      omega
    · have := hf a
      have := sum_map_lt f hf r ⟨z, hz, hlt⟩
      omega
theorem getD_mem {g : List Nat} {x : Nat} (h : x < g.length) : g.getD x x ∈ g := by
  rw [List.getD_eq_getElem?_getD, List.getElem?_eq_getElem h]
  exact List.getElem_mem h
theorem one_false {g : List Nat} {x y : Nat} (h : Vbkoab.one g x y = false) : g.getD x x ≠ g.getD y y := fun z => by
  unfold Vbkoab.one at h
  rw [z, beq_self_eq_true, Bool.or_true] at h
  cases h
theorem united_sum {g : List Nat} {x y : Nat} (hx : x < g.length) (hy : y < g.length) (h : Vbkoab.one g x y = false) : (Vbkoab.united g x y).sum < g.sum := by
  have ne := one_false h
  unfold Vbkoab.united
  refine sum_map_lt _ (fun z => ?_) g ⟨max (g.getD x x) (g.getD y y), ?_, ?_⟩
  · show (if z = max _ _ then min _ _ else z) ≤ z
    split <;> omega
  · rcases Nat.le_total (g.getD x x) (g.getD y y) with z | z
    · rw [Nat.max_eq_right z]; exact getD_mem hy
    · rw [Nat.max_eq_left z]; exact getD_mem hx
  · show (if max _ _ = max _ _ then min _ _ else _) < _
    rw [if_pos rfl]
    omega
theorem mRunFrom_none {every : List MJ} {k : Nat} {g : List Nat} {l : List MJ} (e : every.find? (cond g) = none) : mRunFrom every k g l = (g, l) := by
  cases k with
  | zero => rfl
  | succ k => show (match every.find? (cond g) with | none => (g, l) | some j => mRunFrom every k (Vbkoab.united g j.t.1 j.t.2) (l ++ [j])) = _; rw [e]
theorem mRunFrom_some {every : List MJ} {k : Nat} {g : List Nat} {l : List MJ} {j : MJ} (e : every.find? (cond g) = some j) : mRunFrom every (k + 1) g l = mRunFrom every k (Vbkoab.united g j.t.1 j.t.2) (l ++ [j]) := by
  show (match every.find? (cond g) with | none => (g, l) | some j => mRunFrom every k (Vbkoab.united g j.t.1 j.t.2) (l ++ [j])) = _
  rw [e]
theorem cond_sum {n : Nat} {every : List MJ} (ok : ∀ j ∈ every, okJ n j) {g : List Nat} {j : MJ} (hn : g.length = n) (e : every.find? (cond g) = some j) : (Vbkoab.united g j.t.1 j.t.2).sum < g.sum := by
  have hj := ok j (List.mem_of_find?_eq_some e)
  have hc : cond g j = true := List.find?_some e
  unfold cond at hc
  rw [Bool.and_eq_true, Bool.not_eq_true'] at hc
  exact united_sum (g := g) (by rw [hn]; exact hj.1.1) (by rw [hn]; exact hj.1.2) hc.1
theorem mRunFrom_more {n : Nat} {every : List MJ} (ok : ∀ j ∈ every, okJ n j) : ∀ (k : Nat) (g : List Nat) (l : List MJ), g.length = n → g.sum ≤ k → ∀ d, mRunFrom every (k + d) g l = mRunFrom every k g l := by
  intro k
  induction k with
  | zero =>
    intro g l hn h d
    cases e : every.find? (cond g) with
    | none => rw [mRunFrom_none e, mRunFrom_none e]
    | some j => exact absurd (cond_sum ok hn e) (by omega)
  | succ k ih =>
    intro g l hn h d
    cases e : every.find? (cond g) with
    | none => rw [mRunFrom_none e, mRunFrom_none e]
    | some j =>
      have := cond_sum ok hn e
      rw [show k + 1 + d = (k + d) + 1 by omega, mRunFrom_some e, mRunFrom_some e]
      exact ih _ _ (by rw [united_len, hn]) (by omega) d
theorem mRunFrom_step {n : Nat} {every : List MJ} (ok : ∀ j ∈ every, okJ n j) {g : List Nat} {l : List MJ} {j : MJ} (hn : g.length = n) (e : every.find? (cond g) = some j) : mRunFrom every g.sum g l = mRunFrom every (Vbkoab.united g j.t.1 j.t.2).sum (Vbkoab.united g j.t.1 j.t.2) (l ++ [j]) := by
  have h := cond_sum ok hn e
  obtain ⟨d, hd⟩ : ∃ d, g.sum = ((Vbkoab.united g j.t.1 j.t.2).sum + d) + 1 := ⟨g.sum - (Vbkoab.united g j.t.1 j.t.2).sum - 1, by omega⟩
  rw [hd, mRunFrom_some e]
  exact mRunFrom_more ok _ _ _ (by rw [united_len, hn]) (Nat.le_refl _) d
/-! ### Run: first_of -/
def jobs (CJ : Addr) (zs : List (V × MJ)) : VP := isL (fun z => PB.both (is z.1) (join CJ z.2)) zs
def pick (zs : List (V × MJ)) (g : List Nat) : V := match zs.find? (fun z => cond g z.2) with
  | some z => z.1
  | none => .non
abbrev sFirst : Stmt := inClass (top 21) 1
theorem scFirst : FnScope ["self", "every", "join"] ["self", "every"] (defScope sFirst) := ⟨rfl, rfl, rfl, by decide +kernel, rfl, by decide +kernel, by decide +kernel⟩
def RFirst (CJ CG CR : Addr) : List VP → VP → Prop := fun Ps P => ∃ a b g zs, Ps = [isIns CR [("pieces", a), ("joins", b), ("groups", groups CG g)], jobs CJ zs] ∧ (∀ z ∈ zs, okJ g.length z.2) ∧ P = is (pick zs g)
section
variable {P : Program} {w : World} {K : PySem.W.Frag} {mg : Str → Option Value} {base : Heap} {CJ CG CR CK : Addr} {f : Addr} {fd : FuncData}
theorem lkR_groups {a b c : VP} : List.lookup ("groups" : Str) [(("pieces" : Str), a), ("joins", b), ("groups", c)] = some c := (lk_past (by decide +kernel)).trans ((lk_past (by decide +kernel)).trans lk_here)
theorem lkR_joins {a b c : VP} : List.lookup ("joins" : Str) [(("pieces" : Str), a), ("joins", b), ("groups", c)] = some b := (lk_past (by decide +kernel)).trans lk_here
theorem lkR_pieces {a b c : VP} : List.lookup ("pieces" : Str) [(("pieces" : Str), a), ("joins", b), ("groups", c)] = some a := lk_here
theorem lkJ_first {j : MJ} : List.lookup ("first" : Str) (joinF j) = some (I (j.e : Int)) := lk_here
theorem lkJ_later {j : MJ} : List.lookup ("later" : Str) (joinF j) = some (I j.e2) := (lk_past (by decide +kernel)).trans lk_here
theorem lkJ_two {j : MJ} : List.lookup ("two" : Str) (joinF j) = some (two j.t) := (lk_past (by decide +kernel)).trans ((lk_past (by decide +kernel)).trans lk_here)
theorem lkJ_needs {j : MJ} : List.lookup ("needs" : Str) (joinF j) = some (isL two j.needs) := (lk_past (by decide +kernel)).trans ((lk_past (by decide +kernel)).trans ((lk_past (by decide +kernel)).trans lk_here))
theorem lkG_m {g : List Nat} {m : Str} (h : (m == ("least" : Str)) = false) : List.lookup m (groupsF g) = none := (lk_past h).trans rfl
theorem ok_first (F : Fun K "first_of" "Run.first_of" sFirst f fd) (T : Txt K mg CJ CG CR CK) (MO : MF P w K mg base CX0 1 CG "are_one" ["self", "two"] (Pure (ROne CG))) (MA : MF P w K mg base CX0 2 CG "all_one" ["self", "twos"] (Pure (RAllOne CG))) :
    FnOk P w K mg base CX0 3 f fd ["self", "every"] (Pure (RFirst CJ CG CR)) := by
  refine pure_ok F scFirst (fun Ps P h => by obtain ⟨a, b, g, zs, rfl, _⟩ := h; rfl) fun cdv A outer s H0 E hr vs Ps P' N H h sm p => ?_
  obtain ⟨a, b, g, zs, rfl, hz, rfl⟩ := h
  obtain ⟨v, v2, rfl, hv, hv2⟩ := paired2 p
  refine b_forL (g := gName 2) (R := fun z => PB.both (is z.1) (join CJ z.2)) (l := zs) (show Ev _ _ _ N (jobs CJ zs) by walk_at "nm") sm (fun N0 i σ1 N1 H1 => ∃ w1, σ1 = [some v, some v2, w1] ∧ Grow N H N1 H1 ∧ (zs.take i).find? (fun z => cond g z.2) = none)
    (fun N0 H1 g1 => ⟨none, rfl, g1, rfl⟩) (fun N0 i z u σ1 N1 H1 s0 hi s1 s2 ⟨w1, e, g1, hf⟩ hu => ?_) (fun N0 σ1 N1 H1 s0 s1 s2 ⟨w1, e, g1, hf⟩ => ?_) PassesOwn.never rfl (pg_name scFirst.nd rfl (Or.inl rfl))
  · subst e
    obtain ⟨hu1, hu2⟩ := hu
    have hu1 : u = z.1 := hu1
    have hj := (join CJ z.2).mono s1 hu2
    have hs := (isIns CR [("pieces", a), ("joins", b), ("groups", groups CG g)]).mono g1.nn hv
    have okz := hz z (List.mem_of_getElem? hi)
    show bB _ _ _ _ _
    refine w_when g1 (t := cond g z.2) (evt_w (evw_and (evt_not (evt_val (ev_meth MO T.gC (hr.mono (by decide)) (fs := groupsF g) (ev_fld T.rC T.rgroups (fs := [("pieces", a), ("joins", b), ("groups", groups CG g)]) (by walk_at "nm") lkR_groups) (lkG_m (by decide +kernel)) (ea_cons (ev_fld T.jC T.jtwo (fs := joinF z.2) (by walk_at "nm") lkJ_two) ea_nil) ⟨g, _, z.2.t, rfl, .inl rfl, okz.1.1, okz.1.2, rfl⟩)))
      fun _ => evw_and1 (evt_val (ev_meth MA T.gC (hr.mono (by decide)) (fs := groupsF g) (ev_fld T.rC T.rgroups (fs := [("pieces", a), ("joins", b), ("groups", groups CG g)]) (by walk_at "nm") lkR_groups) (lkG_m (by decide +kernel)) (ea_cons (ev_fld T.jC T.jneeds (fs := joinF z.2) (by walk_at "nm") lkJ_needs) ea_nil) ⟨g, _, rfl, okz.2.1, by have := okz.2.2; omega, rfl⟩)))) (fun h H2 g2 => ?_) (fun h H2 g2 => ?_)
    · refine w_end g2 (P := is z.1) (ev_name (i := 2) rfl hu1) ?_
      have e : zs.find? (fun z => cond g z.2) = some z := by
        have hlt := (List.getElem?_eq_some_iff.mp hi).1
        have ez := (List.getElem?_eq_some_iff.mp hi).2
        rw [← List.take_append_drop i zs, List.find?_append, hf]
        have ed : zs.drop i = z :: zs.drop (i + 1) := by rw [← ez]; exact List.drop_eq_getElem_cons hlt
        rw [ed, List.find?_cons, h]
        rfl
      show is z.1 = is (pick zs g)
      unfold pick
      rw [e]
    · refine b_nil ⟨N1, s1, g2.nh, _, rfl, g2, ?_⟩
      rw [take_more hi, List.find?_append, hf, List.find?_cons, h]
      rfl
  · subst e
    refine w_end g1 ev_non ?_
    rw [List.take_length] at hf
    show N_ = is (pick zs g)
    unfold pick
    rw [hf]
end
end PB
namespace PB
open PySem PySem.Spec PyProof.Rows L2
local macro_rules | `(tactic| walk_at "at") => `(tactic| first | exact at0 _ | exact at1 _ | rfl | assumption)
local macro_rules | `(tactic| walk_at "p") => `(tactic| first | assumption | exact (rfl : (is _).p _ _))
local macro_rules | `(tactic| walk_at "nm") => `(tactic| first
  | exact ev_glob (by assumption) (by first | exact ⟨_, rfl⟩ | rfl)
  | exact ev_nameI (by rfl) rfl (by walk_at "p"))
local macro_rules | `(tactic| walk_at "ev") => `(tactic| first
  | (with_reducible show Ev _ (PySem.Expr.Constant _ _ _) _ _ _); first | exact ev_int | exact ev_non | exact ev_bool | exact ev_str
  | (with_reducible show Ev _ (PySem.Expr.Name _ _) _ _ _); walk_at "nm"
  | (with_reducible show Ev _ (PySem.Expr.Subscript _ _ _) _ _ _); first | exact ev_ixT (by walk_at "ev") (by walk_at "ev") (by walk_at "at") | exact ev_ixL (by walk_at "ev") (by walk_at "ev") (by walk_at "at")
  | (with_reducible show Ev _ (PySem.Expr.Tuple _ _ _) _ _ _); exact ev_tup (by walk_at "ea")
  | (with_reducible show Ev _ (PySem.Expr.UnaryOp PySem.UnaryOp.USub _ _) _ _ _); exact ev_neg (by walk_at "ev")
  | (with_reducible show Ev _ (PySem.Expr.Compare _ [PySem.CmpOp.Eq] _ _) _ _ _); exact ev_eqI (by walk_at "ev") (by walk_at "ev")
  | (with_reducible show Ev _ (PySem.Expr.Compare _ [PySem.CmpOp.NotEq] _ _) _ _ _); exact ev_neI (by walk_at "ev") (by walk_at "ev"))
local macro_rules | `(tactic| walk_at "ea") => `(tactic| first
  | (with_reducible show EvA _ [] _ _ _); exact ea_nil
  | exact ea_cons (by walk_at "ev") (by walk_at "ea"))
local macro_rules | `(tactic| walk_at "et") => `(tactic| first
  | (with_reducible show EvT _ (PySem.Expr.Compare _ [PySem.CmpOp.Eq] _ _) _ _ _); exact evt_eqI (by walk_at "ev") (by walk_at "ev")
  | (with_reducible show EvT _ (PySem.Expr.Compare _ [PySem.CmpOp.NotEq] _ _) _ _ _); exact evt_neI (by walk_at "ev") (by walk_at "ev")
  | (with_reducible show EvT _ (PySem.Expr.Compare _ [PySem.CmpOp.Lt] _ _) _ _ _); exact evt_ltI (by walk_at "ev") (by walk_at "ev")
  | (with_reducible show EvT _ (PySem.Expr.Compare _ [PySem.CmpOp.LtE] _ _) _ _ _); exact evt_leI (by walk_at "ev") (by walk_at "ev")
  | (with_reducible show EvT _ (PySem.Expr.Compare _ [PySem.CmpOp.Gt] _ _) _ _ _); exact evt_gtI (by walk_at "ev") (by walk_at "ev")
  | (with_reducible show EvT _ (PySem.Expr.Compare _ [PySem.CmpOp.GtE] _ _) _ _ _); exact evt_geI (by walk_at "ev") (by walk_at "ev"))
/-! ### Run.__init__ -/
def runF (CJ CG : Addr) (evs : List Piece) (r : List Nat × List MJ) : List (Str × VP) := [("pieces", isL piece evs), ("joins", isL (join CJ) r.2), ("groups", groups CG r.1)]
def run (CJ CG CR : Addr) (evs : List Piece) (r : List Nat × List MJ) : VP := isIns CR (runF CJ CG evs r)
abbrev sRInit : Stmt := inClass (top 21) 0
theorem scRInit : FnScope ["self", "many", "pieces", "every", "number", "join"] ["self", "many", "pieces"] (defScope sRInit) := ⟨rfl, rfl, rfl, by decide +kernel, rfl, by decide +kernel, by decide +kernel⟩
def RRInit (CJ CG : Addr) : List VP → List (Str × VP) → Prop := fun Ps fs => ∃ n evs, Ps = [I ((n : Nat) : Int), isL piece evs] ∧ n ≤ 100 ∧ evs.length ≤ 100 ∧ okEvs n evs ∧ fs = runF CJ CG evs (mRun n evs)
theorem rf1 {a b : V} : putF "joins" b [(("pieces" : Str), a)] = ([("pieces", a), ("joins", b)] : List (Str × V)) := by rw [put_past (by decide +kernel), put_nil]
theorem rf2 {a b c : V} : putF "groups" c [(("pieces" : Str), a), ("joins", b)] = ([("pieces", a), ("joins", b), ("groups", c)] : List (Str × V)) := by rw [put_past (by decide +kernel), put_past (by decide +kernel), put_nil]
theorem pick_find (zs : List (V × MJ)) (l : List MJ) (h : zs.map (·.2) = l) (g : List Nat) : l.find? (cond g) = (zs.find? fun z => cond g z.2).map (·.2) := by
  subst h
  rw [List.find?_map]
  rfl
theorem flat_more (evs : List Piece) (i : Nat) : (List.range (i + 1)).flatMap (mFrom evs) = (List.range i).flatMap (mFrom evs) ++ mFrom evs i := by
  rw [List.range_succ, List.flatMap_append]
  simp
/-- the state of the while: the run so far, outside the known part the run itself, its joins, its groups -/
structure RSt (CJ CG CR : Addr) (x dx lj ag dg : Addr) (vp : V) (evs : List Piece) (zs : List (V × MJ)) (le : Addr) (Nh H : Hp) (g : List Nat) (l : List MJ) (u pv : V) (js : List V) (N' H' : Hp) : Prop where
  but : But x Nh H N' H'
  nx : N' x = none
  nlj : N' lj = none
  nag : N' ag = none
  xl : x ≠ lj
  xa : x ≠ ag
  la : lj ≠ ag
  ex : H' x = some (.ins CR dx [("pieces", pv), ("joins", .ref lj), ("groups", .ref ag)])
  el : H' lj = some (.lst js)
  ea : H' ag = some (.ins CG dg [("least", u)])
  pu : (isNs g).p u N'
  pp : (isL piece evs).p pv N'
  pj : Paired (fun v y => (join CJ y).p v N') js l
  pz : (jobs CJ zs).p (.ref le) N'
theorem But.trans2 {x y : Addr} {N H N1 H1 N2 H2 : Hp} (a : But x N H N1 H1) (hy : H y = none) (b : But y N1 H1 N2 H2) : But x N H N2 H2 :=
  ⟨fun c o hc e => b.hb c o (ne_of_none e hy) (a.hb c o hc e), a.nn.trans b.nn, b.nh, fun c hc hk => b.nw c (a.nw c hc hk) (a.dm c hk), fun c hk => b.dm c (a.dm c hk)⟩
theorem sum_range (n : Nat) : (List.range n).sum ≤ n * n := by
  induction n with
  | zero => simp
  | succ n ih =>
    rw [List.range_succ, List.sum_append]
    have e : [n].sum = n := by simp
    rw [e]
    have : (n + 1) * (n + 1) = n * n + n + n + 1 := by rw [Nat.add_mul, Nat.mul_add]; omega
    omega
section
variable {P : Program} {w : World} {K : PySem.W.Frag} {mg : Str → Option Value} {base : Heap} {CJ CG CR CK : Addr} {f : Addr} {fd : FuncData}
/-- self and its groups known for a while -/
def RSt.kn (x dx lj ag dg : Addr) (CG CR : Addr) (u pv : V) (N' : Hp) : Hp := upd (upd N' ag (.ins CG dg [("least", u)])) x (.ins CR dx [("pieces", pv), ("joins", .ref lj), ("groups", .ref ag)])
theorem RSt.same {x dx lj ag dg le : Addr} {vp u pv : V} {evs : List Piece} {zs : List (V × MJ)} {Nh H : Hp} {g : List Nat} {l : List MJ} {js : List V} {N' H' : Hp} (S : RSt CJ CG CR x dx lj ag dg vp evs zs le Nh H g l u pv js N' H') : Same (RSt.kn x dx lj ag dg CG CR u pv N') H' := same_put (same_put S.but.nh S.ea) S.ex
theorem RSt.up {x dx lj ag dg le : Addr} {vp u pv : V} {evs : List Piece} {zs : List (V × MJ)} {Nh H : Hp} {g : List Nat} {l : List MJ} {js : List V} {N' H' : Hp} (S : RSt CJ CG CR x dx lj ag dg vp evs zs le Nh H g l u pv js N' H') : Same N' (RSt.kn x dx lj ag dg CG CR u pv N') := (same_new S.nag).trans (same_new (by rw [upd_ne S.xa]; exact S.nx))
theorem RSt.self {x dx lj ag dg le : Addr} {vp u pv : V} {evs : List Piece} {zs : List (V × MJ)} {Nh H : Hp} {g : List Nat} {l : List MJ} {js : List V} {N' H' : Hp} (S : RSt CJ CG CR x dx lj ag dg vp evs zs le Nh H g l u pv js N' H') :
    (isIns CR [("pieces", is pv), ("joins", is (.ref lj)), ("groups", groups CG g)]).p (.ref x) (RSt.kn x dx lj ag dg CG CR u pv N') :=
  ⟨x, dx, _, rfl, upd_same, .cons ⟨rfl, rfl⟩ (.cons ⟨rfl, rfl⟩ (.cons ⟨rfl, ag, dg, [("least", u)], rfl, by unfold RSt.kn; rw [upd_ne (Ne.symm S.xa)]; exact upd_same, .cons ⟨rfl, (isNs g).mono S.up S.pu⟩ .nil⟩ .nil))⟩
theorem RSt.selfr {x dx lj ag dg le : Addr} {vp u pv : V} {evs : List Piece} {zs : List (V × MJ)} {Nh H : Hp} {g : List Nat} {l : List MJ} {js : List V} {N' H' : Hp} (S : RSt CJ CG CR x dx lj ag dg vp evs zs le Nh H g l u pv js N' H') :
    (isIns CR [("pieces", is pv), ("joins", is (.ref lj)), ("groups", is (.ref ag))]).p (.ref x) (RSt.kn x dx lj ag dg CG CR u pv N') :=
  ⟨x, dx, _, rfl, upd_same, .cons ⟨rfl, rfl⟩ (.cons ⟨rfl, rfl⟩ (.cons ⟨rfl, rfl⟩ .nil))⟩
theorem RSt.more {x dx lj ag dg le : Addr} {vp u pv : V} {evs : List Piece} {zs : List (V × MJ)} {Nh H : Hp} {g : List Nat} {l : List MJ} {js : List V} {N' H' H2 : Hp} (S : RSt CJ CG CR x dx lj ag dg vp evs zs le Nh H g l u pv js N' H') (s : Same H' H2) : RSt CJ CG CR x dx lj ag dg vp evs zs le Nh H g l u pv js N' H2 :=
  ⟨S.but.more s, S.nx, S.nlj, S.nag, S.xl, S.xa, S.la, s _ _ S.ex, s _ _ S.el, s _ _ S.ea, S.pu, S.pp, S.pj, S.pz⟩
theorem ok_rInit (F : Fun K "__init__" "Run.__init__" sRInit f fd) (T : Txt K mg CJ CG CR CK) (GFr : GF P w K mg base CX0 4 "joins_from" ["pieces", "number"] (Pure (RFrom CJ))) (MG : CF P w K mg base CX0 1 "Groups" CG ["self", "many"] (Init CG RGInit))
    (MFst : MF P w K mg base CX0 3 CR "first_of" ["self", "every"] (Pure (RFirst CJ CG CR))) (MP : MF P w K mg base CX0 1 CG "put_together" ["self", "two"] (SpPut CG)) : FnOk P w K mg base CX0 5 f fd ["self", "many", "pieces"] (Init CR (RRInit CJ CG)) := by
  refine init_ok F scRInit (fun Ps P h => by obtain ⟨n, evs, rfl, _⟩ := h; rfl) fun cdv A outer s H0 E hr x dx args Ps fs Nh H h nx sm hx p => ?_
  obtain ⟨n, evs, rfl, hn, hl, hok, rfl⟩ := h
  obtain ⟨vm, vp, rfl, rfl, hvp⟩ := paired2 p
  have hrange := T.nrange
  have hlen := T.nlen
  refine b_fld (P := PB.both (is vp) (isL piece evs)) (N2 := Nh) hx (by show 0 < 1000; decide) T.rC T.rpieces (ev_name (i := 2) rfl ⟨rfl, hvp⟩) sm (by walk_at "nm") sm (fun pv N1 H1 g1 hpv hx1 => ?_)
  obtain ⟨e1, hpv⟩ := hpv
  have e1 : pv = vp := e1
  subst e1
  have n1x : N1 x = none := g1.nw x nx (by rw [hx]; simp)
  have b1 := (But.of (x := x) g1).trans (But.put (o := .ins CR dx (putF "pieces" pv [])) g1.nh n1x)
  refine b_fldM (N2 := N1) (fs := [("pieces", pv)]) upd_same (by show 1 < 1000; decide) T.rC T.rjoins (by walk_at "nm") b1.nh (fun lj H2 nlj s2 hlj hx2 => ?_)
  rw [rf1]
  have xlj : x ≠ lj := fun z => by rw [← z, upd_same] at nlj; cases nlj
  have n1lj : N1 lj = none := b1.nh.free nlj
  have hlj0 : H lj = none := by
    cases q : H lj with
    | none => rfl
    | some o => exact absurd nlj (b1.dm lj (by rw [q]; simp))
  have b2 := (b1.more s2).trans (But.put (o := .ins CR dx [("pieces", pv), ("joins", .ref lj)]) (b1.nh.trans s2) n1x)
  have hx3 : (upd H2 x (.ins CR dx [("pieces", pv), ("joins", .ref lj)])) x = some (.ins CR dx [("pieces", pv), ("joins", .ref lj)]) := upd_same
  have hlj3 : (upd H2 x (.ins CR dx [("pieces", pv), ("joins", .ref lj)])) lj = some (.lst []) := by rw [upd_ne (Ne.symm xlj)]; exact hlj
  generalize (upd H2 x (.ins CR dx [("pieces", pv), ("joins", .ref lj)])) = H3 at b2 hx3 hlj3
  refine b_fldMake (N2 := N1) (fs := groupsF (List.range n)) hx3 (by show 2 < 1000; decide) T.rC T.rgroups (evm_make MG (hr.mono (by decide)) (ea_cons (by walk_at "nm") ea_nil) ⟨n, rfl, by omega, rfl⟩) b2.nh (by walk_at "nm") b2.nh (fun ag dg gv N4 H4 nag3 nag4 g4 hag4 hgv hx4 => ?_)
  rw [rf2]
  obtain ⟨u, rfl, hu⟩ : ∃ u, gv = [(("least" : Str), u)] ∧ (isNs (List.range n)).p u N4 := by
    cases hgv with
    | cons r t =>
      cases t
      rename_i y
      obtain ⟨y1, y2⟩ := y
      obtain ⟨r1, r2⟩ := r
      have r1 : y1 = "least" := r1
      subst r1
      exact ⟨y2, rfl, r2⟩
  have xag : x ≠ ag := fun z => by rw [← z, hx3] at nag3; cases nag3
  have lag : lj ≠ ag := fun z => by rw [← z, hlj3] at nag3; cases nag3
  have b4 := (b2.trans (But.of g4)).trans (But.put (o := .ins CR dx [("pieces", pv), ("joins", .ref lj), ("groups", .ref ag)]) g4.nh (g4.nw x n1x (by rw [hx3]; simp)))
  have n4x := g4.nw x n1x (by rw [hx3]; simp)
  have n4lj := g4.nw lj n1lj (by rw [hlj3]; simp)
  have hag0 : H ag = none := by
    cases q : H ag with
    | none => rfl
    | some o => exact absurd nag3 (b2.dm ag (by rw [q]; simp))
  have hx5 : (upd H4 x (.ins CR dx [("pieces", pv), ("joins", .ref lj), ("groups", .ref ag)])) x = some (.ins CR dx [("pieces", pv), ("joins", .ref lj), ("groups", .ref ag)]) := upd_same
  have hlj5 : (upd H4 x (.ins CR dx [("pieces", pv), ("joins", .ref lj), ("groups", .ref ag)])) lj = some (.lst []) := by rw [upd_ne (Ne.symm xlj)]; exact g4.hh _ _ hlj3
  have hag5 : (upd H4 x (.ins CR dx [("pieces", pv), ("joins", .ref lj), ("groups", .ref ag)])) ag = some (.ins CG dg [("least", u)]) := by rw [upd_ne (Ne.symm xag)]; exact hag4
  generalize (upd H4 x (.ins CR dx [("pieces", pv), ("joins", .ref lj), ("groups", .ref ag)])) = H5 at b4 hx5 hlj5 hag5
  have hpv4 := (isL piece evs).mono g4.nn hpv
  refine b_asgM (i := 3) (fun le H6 nle s6 hle => ?_) scRInit.nd
  have hle0 : H le = none := by
    cases q : H le with
    | none => rfl
    | some o => exact absurd nle (b4.dm le (by rw [q]; simp))
  have n4le : N4 le = none := b4.nh.free nle
  have b6 := b4.more s6
  have mk : ∀ (xs : List V) (N7 H7 : Hp), But x Nh H N7 H7 → N7 x = none → N7 lj = none → N7 ag = none → Same N4 N7 → H7 x = some (.ins CR dx [("pieces", pv), ("joins", .ref lj), ("groups", .ref ag)]) → H7 lj = some (.lst []) → H7 ag = some (.ins CG dg [("least", u)]) → N7 le = some (.lst xs) → ∀ zs : List (V × MJ), (jobs CJ zs).p (.ref le) N7 →
      RSt CJ CG CR x dx lj ag dg pv evs zs le Nh H (List.range n) [] u pv [] N7 H7 := fun xs N7 H7 b nx7 nl7 na7 s47 e1 e2 e3 e4 zs pz => ⟨b, nx7, nl7, na7, xlj, xag, lag, e1, e2, e3, (isNs _).mono s47 hu, (isL piece evs).mono s47 hpv4, .nil, pz⟩
  refine b_forR (g := gName 4) (lo := 0) (n := ((evs.length : Nat) : Int).toNat) (N := N4) (evi_1 hrange (ev_lenL (R := piece) (l := evs) hlen (by walk_at "nm")) (by omega)) (b4.nh.trans s6)
    (fun i σ1 N7 H7 => ∃ w1 xs, σ1 = [some (.ref x), some (.int n), some pv, some (.ref le), w1, none] ∧ But x Nh H N7 H7 ∧ N7 x = none ∧ N7 lj = none ∧ N7 ag = none ∧ N7 le = none ∧ H7 x = some (.ins CR dx [("pieces", pv), ("joins", .ref lj), ("groups", .ref ag)]) ∧ H7 lj = some (.lst []) ∧ H7 ag = some (.ins CG dg [("least", u)]) ∧ H7 le = some (.lst xs) ∧
      Paired (fun v y => (join CJ y).p v N7) xs ((List.range i).flatMap (mFrom evs)))
    (fun H7 s7 => ⟨none, [], rfl, b6.more s7, n4x, n4lj, nag4, n4le, s7 _ _ (s6 _ _ hx5), s7 _ _ (s6 _ _ hlj5), s7 _ _ (s6 _ _ hag5), s7 _ _ hle, .nil⟩)
    (fun i σ1 N7 H7 hi s47 s77 ⟨w1, xs, e, b7, n7x, n7l, n7a, n7e, h7x, h7l, h7a, h7e, pr⟩ => ?_) (fun σ1 N7 H7 s47 s77 ⟨w1, xs, e, b7, n7x, n7l, n7a, n7e, h7x, h7l, h7a, h7e, pr⟩ => ?_) PassesOwn.never rfl (pg_name scRInit.nd rfl (Or.inl rfl))
  · subst e
    have e0 : (0 : Int) + (i : Nat) = (i : Nat) := by omega
    show bB _ _ _ _ _
    rw [e0]
    have hp7 := (isL piece evs).mono s47 hpv4
    have hlen7 : xs.length + (mFrom evs i).length ≤ 1000000 := by
      have h1 := paired_len pr
      have h2 := flat_len evs (List.range i)
      have h3 := mFrom_len evs i
      rw [List.length_range] at h2
      have h4 : i * (evs.length + 1) ≤ 100 * 101 := Nat.mul_le_mul (by omega) (by omega)
      omega
    refine b_extend (N2 := N7) (S := join CJ) (m := mFrom evs i) h7e hlen7 (by walk_at "nm") s77 (ev_call GFr (hr.mono (by decide)) (ea_cons (P := isL piece evs) (by walk_at "nm") (ea_cons (by walk_at "nm") ea_nil)) ⟨evs, i, rfl, by omega, by omega, rfl⟩) s77 (fun ys N8 H8 g8 py h8e => b_nil ?_)
    have b8 := b7.trans (But.of g8)
    have n8e := g8.nw le n7e (by rw [h7e]; simp)
    refine ⟨N8, s47.trans g8.nn, fun b o e => by rw [upd_ne (ne_of_none e n8e)]; exact g8.nh b o e, _, xs ++ ys, rfl, b8.new n8e hle0, g8.nw x n7x (by rw [h7x]; simp), g8.nw lj n7l (by rw [h7l]; simp), g8.nw ag n7a (by rw [h7a]; simp), n8e, ?_, ?_, ?_, upd_same, ?_⟩
    · rw [upd_ne (ne_of (g8.hh _ _ h7x) h8e (by intro z; cases z))]; exact g8.hh _ _ h7x
    · rw [upd_ne (fun z => by rw [z] at hlj5; rw [nle] at hlj5; cases hlj5)]; exact g8.hh _ _ h7l
    · rw [upd_ne (ne_of (g8.hh _ _ h7a) h8e (by intro z; cases z))]; exact g8.hh _ _ h7a
    · rw [flat_more]
      exact paired_app (paired_mono pr fun v y z => (join CJ y).mono g8.nn z) py
  · subst e
    rw [Int.toNat_natCast] at pr
    have b9 := b7.fix n7e hle0 h7e
    obtain ⟨zs, ez2, ez1, pz⟩ := zip_of pr
    have ez2 : zs.map (·.2) = mEvery evs := ez2
    have pz9 : (jobs CJ zs).p (.ref le) (upd N7 le (.lst xs)) := ⟨le, xs, rfl, upd_same, paired_mono pz fun v z h => ⟨h.1, (join CJ z.2).mono (same_new n7e) h.2⟩⟩
    have xle : x ≠ le := ne_of h7x h7e (by intro z; cases z)
    have ale : ag ≠ le := ne_of h7a h7e (by intro z; cases z)
    have lle : lj ≠ le := fun z => by rw [z] at hlj5; rw [nle] at hlj5; cases hlj5
    have S0 := mk xs (upd N7 le (.lst xs)) H7 b9 (by rw [upd_ne xle]; exact n7x) (by rw [upd_ne lle]; exact n7l) (by rw [upd_ne ale]; exact n7a) (s47.trans (same_new n7e)) h7x h7l h7a upd_same zs pz9
    have okz : ∀ z ∈ zs, okJ n z.2 := fun z hz => mEvery_ok hok z.2 (by rw [← ez2]; exact List.mem_map.mpr ⟨z, hz, rfl⟩)
    -- join = self.first_of(every)
    refine b_asgV (i := 5) (v := pick zs (List.range n)) (N := RSt.kn x dx lj ag dg CG CR u pv (upd N7 le (.lst xs))) (ev_meth MFst T.rC (hr.mono (by decide)) (fs := [("pieces", is pv), ("joins", is (.ref lj)), ("groups", groups CG (List.range n))]) (ev_name (i := 0) rfl S0.self) ((lk_past (by decide +kernel)).trans ((lk_past (by decide +kernel)).trans ((lk_past (by decide +kernel)).trans rfl))) (ea_cons (ev_name (i := 3) rfl ((jobs CJ zs).mono S0.up S0.pz)) ea_nil) ⟨_, _, _, zs, rfl, by rw [List.length_range]; exact okz, rfl⟩) S0.same (fun H8 s8 => ?_) scRInit.nd
    refine b_while (fun m σ2 H9 => ∃ g l u1 js N9, m = g.sum ∧ g.length = n ∧ l.length + g.sum ≤ (List.range n).sum ∧ σ2 = [some (.ref x), some (.int n), some pv, some (.ref le), w1, some (pick zs g)] ∧ RSt CJ CG CR x dx lj ag dg pv evs zs le Nh H g l u1 pv js N9 H9 ∧ mRunFrom (mEvery evs) g.sum g l = mRun n evs) (List.range n).sum ⟨List.range n, [], u, [], _, rfl, List.length_range, by simp, rfl, S0.more s8, rfl⟩ (fun m σ2 H9 ⟨g, l, u1, js, N9, em, eg, esum, es, S, er⟩ => ?_) PassesOwn.never
    subst es
    refine ⟨!decide (pick zs g = .non), N9, evt_notN (ev_name (i := 5) (P := is (pick zs g)) rfl rfl) is_non, S.but.nh, fun ht H10 s10 => ?_, fun ht H10 s10 => b_nil ?_⟩
    · have S := S.more s10
      have eqf := pick_find zs _ ez2 g
      cases qf : zs.find? (fun z => cond g z.2) with
      | none =>
        have : pick zs g = .non := by unfold pick; rw [qf]
        rw [this] at ht; cases ht
      | some z =>
        have epk : pick zs g = z.1 := by unfold pick; rw [qf]
        rw [qf] at eqf
        have eqf : (mEvery evs).find? (cond g) = some z.2 := eqf
        have hzm : z ∈ zs := List.mem_of_find?_eq_some qf
        have pjz : (join CJ z.2).p z.1 N9 := by
          obtain ⟨a, ys, ea, hla, py⟩ := S.pz
          obtain ⟨i, hi⟩ := List.getElem?_of_mem hzm
          obtain ⟨v, hv, pv1, pv2⟩ := paired_get py hi
          have pv1 : v = z.1 := pv1
          rw [pv1] at pv2; exact pv2
        rw [epk]
        have okj := okz z hzm
        have hjl : js.length < 1000000 := by
          rw [paired_len S.pj]
          have h1 := sum_range n
          have h2 : n * n ≤ 100 * 100 := Nat.mul_le_mul hn hn
          omega
        refine b_append (N2 := RSt.kn x dx lj ag dg CG CR u1 pv N9) (N := N9) (P := join CJ z.2) S.el hjl (ev_fld T.rC T.rjoins (fs := [("pieces", is pv), ("joins", is (.ref lj)), ("groups", is (.ref ag))]) (ev_name (i := 0) rfl S.selfr) lkR_joins) S.same (ev_name (i := 5) rfl pjz) S.but.nh (fun v N11 H11 g11 hv h11 => ?_)
        have n11x := g11.nw x S.nx (by rw [S.ex]; simp)
        have n11l := g11.nw lj S.nlj (by rw [S.el]; simp)
        have n11a := g11.nw ag S.nag (by rw [S.ea]; simp)
        have S1 : RSt CJ CG CR x dx lj ag dg pv evs zs le Nh H g (l ++ [z.2]) u1 pv (js ++ [v]) N11 (upd H11 lj (.lst (js ++ [v]))) :=
          ⟨(S.but.trans (But.of g11)).new n11l hlj0, n11x, n11l, n11a, xlj, xag, lag, by rw [upd_ne xlj]; exact g11.hh _ _ S.ex, upd_same, by rw [upd_ne (Ne.symm lag)]; exact g11.hh _ _ S.ea, (isNs g).mono g11.nn S.pu, (isL piece evs).mono g11.nn S.pp, paired_app (paired_mono S.pj fun v y q => (join CJ y).mono g11.nn q) (.cons hv .nil), (jobs CJ zs).mono g11.nn S.pz⟩
        refine b_callM (N2 := RSt.kn x dx lj ag dg CG CR u1 pv N11) (N := N11) (P := two z.2.t) MP T.gC (hr.mono (by decide)) pass0 (ev_fld T.rC T.rgroups (fs := [("pieces", is pv), ("joins", is (.ref lj)), ("groups", is (.ref ag))]) (ev_name (i := 0) rfl S1.selfr) lkR_groups) S1.same S1.ea ((lk_past (by decide +kernel)).trans rfl) (ev_fld T.jC T.jtwo (fs := joinF z.2) (ev_name (i := 5) rfl ((join CJ z.2).mono g11.nn pjz)) lkJ_two) S1.but.nh (fun v2 N12 H12 g12 hv2 => ?_)
        have n12a := g12.nw ag S1.nag (by rw [S1.ea]; simp)
        refine ⟨ag, dg, u1, v2, g, z.2.t, N12, rfl, n12a, g12.nh, g12.hh _ _ S1.ea, (isNs g).mono g12.nn S1.pu, hv2, by rw [eg]; exact okj.1.1, by rw [eg]; exact okj.1.2, by omega, fun N13 H13 u2 b13 e13 hu2 => ?_⟩
        have S2 : RSt CJ CG CR x dx lj ag dg pv evs zs le Nh H (Vbkoab.united g z.2.t.1 z.2.t.2) (l ++ [z.2]) u2 pv (js ++ [v]) N13 H13 :=
          ⟨(S1.but.trans (But.of g12)).trans2 hag0 b13, b13.nw x (g12.nw x n11x (by rw [S1.ex]; simp)) (by rw [g12.hh _ _ S1.ex]; simp), b13.nw lj (g12.nw lj n11l (by rw [S1.el]; simp)) (by rw [g12.hh _ _ S1.el]; simp), b13.nw ag n12a (by rw [g12.hh _ _ S1.ea]; simp), xlj, xag, lag,
            b13.hb x _ xag (g12.hh _ _ S1.ex), b13.hb lj _ lag (g12.hh _ _ S1.el), e13, hu2, (isL piece evs).mono (g12.nn.trans b13.nn) S1.pp, paired_mono S1.pj fun v y q => (join CJ y).mono (g12.nn.trans b13.nn) q, (jobs CJ zs).mono (g12.nn.trans b13.nn) S1.pz⟩
        have eg2 : (Vbkoab.united g z.2.t.1 z.2.t.2).length = n := by rw [united_len, eg]
        have hlt := cond_sum (mEvery_ok hok) eg eqf
        refine b_asgV (i := 5) (v := pick zs (Vbkoab.united g z.2.t.1 z.2.t.2)) (N := RSt.kn x dx lj ag dg CG CR u2 pv N13) (ev_meth MFst T.rC (hr.mono (by decide)) (fs := [("pieces", is pv), ("joins", is (.ref lj)), ("groups", groups CG (Vbkoab.united g z.2.t.1 z.2.t.2))]) (ev_name (i := 0) rfl S2.self) ((lk_past (by decide +kernel)).trans ((lk_past (by decide +kernel)).trans ((lk_past (by decide +kernel)).trans rfl))) (ea_cons (ev_name (i := 3) rfl ((jobs CJ zs).mono S2.up S2.pz)) ea_nil) ⟨_, _, _, zs, rfl, by rw [eg2]; exact okz, rfl⟩) S2.same (fun H14 s14 => b_nil ?_) scRInit.nd
        refine ⟨_, by rw [em]; exact hlt, _, _, u2, _, N13, rfl, eg2, by rw [List.length_append]; show l.length + 1 + _ ≤ _; omega, rfl, S2.more s14, ?_⟩
        rw [← er]
        exact (mRunFrom_step (mEvery_ok hok) eg eqf).symm
    · have S := S.more s10
      have eqf := pick_find zs _ ez2 g
      have enone : (mEvery evs).find? (cond g) = none := by
        cases qf : zs.find? (fun z => cond g z.2) with
        | none => rw [qf] at eqf; exact eqf
        | some z =>
          have epk : pick zs g = z.1 := by unfold pick; rw [qf]
          obtain ⟨a, ys, ea, hla, py⟩ := S.pz
          obtain ⟨i, hi⟩ := List.getElem?_of_mem (List.mem_of_find?_eq_some qf)
          obtain ⟨v, hv, pv1, pv2⟩ := paired_get py hi
          have pv1 : v = z.1 := pv1
          have := isIns_non _ _ pv2
          rw [epk, ← pv1, this] at ht
          cases ht
      have eres : mRun n evs = (g, l) := er.symm.trans (mRunFrom_none enone)
      rw [eres]
      have b1 := S.but.fix S.nlj hlj0 S.el
      have b2 := b1.fix (l := ag) (o := .ins CG dg [("least", u1)]) (by rw [upd_ne (Ne.symm lag)]; exact S.nag) hag0 S.ea
      have s9 : Same N9 (upd (upd N9 lj (.lst js)) ag (.ins CG dg [("least", u1)])) := (same_new S.nlj).trans (same_new (by rw [upd_ne (Ne.symm lag)]; exact S.nag))
      refine ⟨_, _, b2, S.ex, .cons ⟨rfl, (isL piece evs).mono s9 S.pp⟩ (.cons ⟨rfl, lj, js, rfl, by rw [upd_ne lag]; exact upd_same, paired_mono S.pj fun v y q => (join CJ y).mono s9 q⟩ (.cons ⟨rfl, ag, dg, _, rfl, upd_same, .cons ⟨rfl, (isNs g).mono s9 S.pu⟩ .nil⟩ .nil))⟩
end
end PB
namespace PB
open PySem PySem.Spec PyProof.Rows L2
local macro_rules | `(tactic| walk_at "at") => `(tactic| first | exact at0 _ | exact at1 _ | rfl | assumption)
local macro_rules | `(tactic| walk_at "p") => `(tactic| first | assumption | exact (rfl : (is _).p _ _))
local macro_rules | `(tactic| walk_at "nm") => `(tactic| first
  | exact ev_glob (by assumption) (by first | exact ⟨_, rfl⟩ | rfl)
  | exact ev_nameI (by rfl) rfl (by walk_at "p"))
local macro_rules | `(tactic| walk_at "ev") => `(tactic| first
  | (with_reducible show Ev _ (PySem.Expr.Constant _ _ _) _ _ _); first | exact ev_int | exact ev_non | exact ev_bool | exact ev_str
  | (with_reducible show Ev _ (PySem.Expr.Name _ _) _ _ _); walk_at "nm"
  | (with_reducible show Ev _ (PySem.Expr.Subscript _ _ _) _ _ _); first | exact ev_ixT (by walk_at "ev") (by walk_at "ev") (by walk_at "at") | exact ev_ixL (by walk_at "ev") (by walk_at "ev") (by walk_at "at")
  | (with_reducible show Ev _ (PySem.Expr.Tuple _ _ _) _ _ _); exact ev_tup (by walk_at "ea")
  | (with_reducible show Ev _ (PySem.Expr.UnaryOp PySem.UnaryOp.USub _ _) _ _ _); exact ev_neg (by walk_at "ev")
  | (with_reducible show Ev _ (PySem.Expr.Compare _ [PySem.CmpOp.Eq] _ _) _ _ _); exact ev_eqI (by walk_at "ev") (by walk_at "ev")
  | (with_reducible show Ev _ (PySem.Expr.Compare _ [PySem.CmpOp.NotEq] _ _) _ _ _); exact ev_neI (by walk_at "ev") (by walk_at "ev"))
local macro_rules | `(tactic| walk_at "ea") => `(tactic| first
  | (with_reducible show EvA _ [] _ _ _); exact ea_nil
  | exact ea_cons (by walk_at "ev") (by walk_at "ea"))
local macro_rules | `(tactic| walk_at "et") => `(tactic| first
  | (with_reducible show EvT _ (PySem.Expr.Compare _ [PySem.CmpOp.Eq] _ _) _ _ _); exact evt_eqI (by walk_at "ev") (by walk_at "ev")
  | (with_reducible show EvT _ (PySem.Expr.Compare _ [PySem.CmpOp.NotEq] _ _) _ _ _); exact evt_neI (by walk_at "ev") (by walk_at "ev")
  | (with_reducible show EvT _ (PySem.Expr.Compare _ [PySem.CmpOp.Lt] _ _) _ _ _); exact evt_ltI (by walk_at "ev") (by walk_at "ev")
  | (with_reducible show EvT _ (PySem.Expr.Compare _ [PySem.CmpOp.LtE] _ _) _ _ _); exact evt_leI (by walk_at "ev") (by walk_at "ev")
  | (with_reducible show EvT _ (PySem.Expr.Compare _ [PySem.CmpOp.Gt] _ _) _ _ _); exact evt_gtI (by walk_at "ev") (by walk_at "ev")
  | (with_reducible show EvT _ (PySem.Expr.Compare _ [PySem.CmpOp.GtE] _ _) _ _ _); exact evt_geI (by walk_at "ev") (by walk_at "ev"))
/-! ### Run: the clash -/
structure MC where
  e : Nat
  e2 : Int
  t : Nat × Nat
  deriving DecidableEq
def clashV (c : MC) : VP := isT [I (c.e : Int), I c.e2, two c.t]
def mClashTwo (evs : List Piece) (g : List Nat) (n : Nat) (a : Piece) (m : Nat) : Option MC := match evs[m]? with
  | some b => if (disag a b && Vbkoab.one g (evX a) (evX b)) = true then some ⟨n, (m : Int), (evX a, evX b)⟩ else none
  | none => none
def mClashFrom (evs : List Piece) (g : List Nat) (n : Nat) : Option MC := match evs[n]? with
  | some (.differ x y) => if Vbkoab.one g x y = true then some ⟨n, -1, (x, y)⟩ else none
  | some (.single x k v) => (List.range (evs.length - (n + 1))).findSome? fun i => mClashTwo evs g n (.single x k v) (n + 1 + i)
  | _ => none
def mClash (evs : List Piece) (g : List Nat) : Option MC := (List.range evs.length).findSome? (mClashFrom evs g)
abbrev sCFrom : Stmt := inClass (top 21) 2
theorem scCFrom : FnScope ["self", "number", "piece", "later", "other"] ["self", "number"] (defScope sCFrom) := ⟨rfl, rfl, rfl, by decide +kernel, rfl, by decide +kernel, by decide +kernel⟩
def RCFrom (CJ CG CR : Addr) : List VP → VP → Prop := fun Ps P => ∃ evs r n, Ps = [run CJ CG CR evs r, I ((n : Nat) : Int)] ∧ n < evs.length ∧ okEvs r.1.length evs ∧ evs.length ≤ 100 ∧ P = isO clashV (mClashFrom evs r.1 n)
abbrev sClash : Stmt := inClass (top 21) 3
theorem scClash : FnScope ["self", "number", "found"] ["self"] (defScope sClash) := ⟨rfl, rfl, rfl, by decide +kernel, rfl, by decide +kernel, by decide +kernel⟩
def RClash (CJ CG CR : Addr) : List VP → VP → Prop := fun Ps P => ∃ evs r, Ps = [run CJ CG CR evs r] ∧ okEvs r.1.length evs ∧ evs.length ≤ 100 ∧ P = isO clashV (mClash evs r.1)
section
variable {P : Program} {w : World} {K : PySem.W.Frag} {mg : Str → Option Value} {base : Heap} {CJ CG CR CK : Addr} {f : Addr} {fd : FuncData}
theorem lkR_m {evs : List Piece} {r : List Nat × List MJ} {m : Str} (h1 : (m == ("pieces" : Str)) = false) (h2 : (m == ("joins" : Str)) = false) (h3 : (m == ("groups" : Str)) = false) : List.lookup m (runF CJ CG evs r) = none := (lk_past h1).trans ((lk_past h2).trans ((lk_past h3).trans rfl))
theorem clash_non : ∀ (c : MC) v N, (clashV c).p v N → decide (v = .non) = false := fun c v N h => isT_non v N h
theorem findSome_more {α : Type} (f : Nat → Option α) (i : Nat) (h : (List.range i).findSome? f = none) : (List.range (i + 1)).findSome? f = f i := by
  rw [List.range_succ, List.findSome?_append, h]
  cases hh : f i <;> simp [hh]
theorem findSome_at {α : Type} (f : Nat → Option α) (i n : Nat) (hi : i < n) (h : (List.range i).findSome? f = none) {a : α} (e : f i = some a) : (List.range n).findSome? f = some a := by
  have : (List.range n).findSome? f = ((List.range (i + 1)).findSome? f).or (((List.range (n - (i + 1))).map fun k => i + 1 + k).findSome? f) := by
    rw [← List.findSome?_append, ← List.range_add]
    congr 2
    omega
  rw [this, findSome_more f i h, e]
  rfl
theorem ok_cFrom (F : Fun K "clash_from" "Run.clash_from" sCFrom f fd) (T : Txt K mg CJ CG CR CK) (MO : MF P w K mg base CX0 1 CG "are_one" ["self", "two"] (Pure (ROne CG))) (GD : GF P w K mg base CX0 1 "disagree" ["piece", "later"] (Pure RDis)) :
    FnOk P w K mg base CX0 2 f fd ["self", "number"] (Pure (RCFrom CJ CG CR)) := by
  refine pure_ok F scCFrom (fun Ps P h => by obtain ⟨a, b, n, rfl, _⟩ := h; rfl) fun cdv A outer s H0 E hr vs Ps P' N H h sm p => ?_
  obtain ⟨evs, r, n, rfl, hn, hok, hl, rfl⟩ := h
  obtain ⟨v, v2, rfl, hv, hv2⟩ := paired2 p
  cases hv2
  obtain ⟨t2, g2⟩ := T.cDIFFER
  obtain ⟨t5, g5⟩ := T.cSINGLE
  obtain ⟨tA, gA⟩ := T.cALONE
  have hrange := T.nrange
  have hlen := T.nlen
  have he : evs[n]? = some evs[n] := List.getElem?_eq_getElem hn
  have hat := at_ix he
  have hoe := hok _ (List.mem_of_getElem? he)
  refine w_asg (i := 2) (.refl sm) (P := piece evs[n]) (ev_ixL (R := piece) (ev_fld T.rC T.rpieces (fs := runF CJ CG evs r) (by walk_at "nm") lkR_pieces) (by walk_at "nm") hat) (fun pv N1 H1 g s1 hpv => ?_) scCFrom.nd
  have hv1 := (run CJ CG CR evs r).mono s1 hv
  generalize hev : evs[n] = ev at he hat hoe hpv
  by_cases k2 : kind ev = 2
  · obtain ⟨x, y, rfl⟩ := kind2 k2
    have em : mClashFrom evs r.1 n = if Vbkoab.one r.1 x y = true then some ⟨n, -1, (x, y)⟩ else none := by unfold mClashFrom; rw [he]
    refine w_when g (t := Vbkoab.one r.1 x y) ((evt_w (evw_and (c := true) (d := Vbkoab.one r.1 x y) (EvT.to (by walk_at "et") (decide_eq_true k2)) fun _ => evw_and1 (evt_val (ev_meth MO T.gC (hr.mono (by decide)) (fs := groupsF r.1) (ev_fld T.rC T.rgroups (fs := runF CJ CG evs r) (by walk_at "nm") lkR_groups) (lkG_m (by decide +kernel)) (ea_cons (P := two (x, y)) (ev_slT (l := (Vbkoab.evNums (.differ x y)).map I) (by walk_at "nm") (eo_some (i := 1) ev_int) eo_none (by show ¬ (HT.sIx 3 0 (some 1) = 0 ∧ HT.sIx 3 3 none = 3); decide)) ea_nil) ⟨r.1, _, (x, y), rfl, .inl rfl, hoe.1, hoe.2, rfl⟩))))) (fun h H2 g => ?_) (fun h H2 g => ?_)
    · refine w_end g (P := clashV ⟨n, -1, (x, y)⟩) (ev_tup (ea_cons (by walk_at "nm") (ea_cons (by walk_at "nm") (ea_cons (P := two (x, y)) (by walk_at "ev") ea_nil)))) ?_
      rw [em, if_pos h]
      rfl
    · refine w_when g (t := false) (EvT.to (by walk_at "et") (decide_eq_false (by rw [k2]; decide))) (fun h5 H3 g => ?_) (fun h5 H3 g => ?_)
      · cases h5
      · refine w_end g ev_non ?_
        rw [em, if_neg (by rw [h]; decide)]
        rfl
  · refine w_when g (t := false) (evt_w (EvW.to (evw_and (d := false) (by walk_at "et") fun z => absurd (of_decide_eq_true z) k2) (by rw [Bool.and_false]))) (fun h H2 g => ?_) (fun h H2 g => ?_)
    · cases h
    · by_cases k5 : kind ev = 5
      · obtain ⟨x, k, y, rfl⟩ := kind5 k5
        have em : mClashFrom evs r.1 n = (List.range (evs.length - (n + 1))).findSome? fun i => mClashTwo evs r.1 n (.single x k y) (n + 1 + i) := by unfold mClashFrom; rw [he]
        have el : ((evs.length : Int) - ((n : Int) + 1)).toNat = evs.length - (n + 1) := by omega
        refine w_when g (t := true) (EvT.to (by walk_at "et") (decide_eq_true k5)) (fun h5 H3 g => ?_) (fun h5 H3 g => ?_)
        · refine b_forR (g := gName 3) (lo := (n : Int) + 1) (n := ((evs.length : Int) - ((n : Int) + 1)).toNat) (evi_2 hrange (ev_add (by walk_at "nm") ev_int) (ev_lenL (R := piece) hlen (ev_fld T.rC T.rpieces (fs := runF CJ CG evs r) (by walk_at "nm") lkR_pieces)) (by omega) (by omega)) g.nh
            (fun i σ1 N2 H4 => ∃ w3 w4, σ1 = [some v, some (.int n), some pv, w3, w4] ∧ Grow N H N2 H4 ∧ (List.range i).findSome? (fun i => mClashTwo evs r.1 n (.single x k y) (n + 1 + i)) = none)
            (fun H4 s4 => ⟨none, none, rfl, g.more s4, rfl⟩) (fun i σ1 N2 H4 hi s12 s24 ⟨w3, w4, e, gg, hf⟩ => ?_) (fun σ1 N2 H4 s12 s24 ⟨w3, w4, e, gg, hf⟩ => b_nil ?_) PassesOwn.never rfl (pg_name scCFrom.nd rfl (Or.inl rfl))
          · subst e
            have hm : n + 1 + i < evs.length := by omega
            have he2 : evs[n + 1 + i]? = some evs[n + 1 + i] := List.getElem?_eq_getElem hm
            have ei : (n : Int) + 1 + (i : Nat) = ((n + 1 + i : Nat) : Int) := by omega
            have hat2 := at_ix he2
            have hv2 := (run CJ CG CR evs r).mono s12 hv1
            have hpv2 := (piece (.single x k y)).mono s12 hpv
            have ob := hok _ (List.mem_of_getElem? he2)
            have e2m : mClashTwo evs r.1 n (.single x k y) (n + 1 + i) = if (disag (.single x k y) evs[n + 1 + i] && Vbkoab.one r.1 x (evX evs[n + 1 + i])) = true then some ⟨n, ((n + 1 + i : Nat) : Int), (x, evX evs[n + 1 + i])⟩ else none := by
              unfold mClashTwo; rw [he2]; rfl
            show bB _ _ _ _ _
            rw [ei]
            refine w_asg (i := 4) gg (P := piece evs[n + 1 + i]) (ev_ixL (R := piece) (ev_fld T.rC T.rpieces (fs := runF CJ CG evs r) (by walk_at "nm") lkR_pieces) (by walk_at "nm") hat2) (fun ov N3 H5 g s23 hov => ?_) scCFrom.nd
            have hv3 := (run CJ CG CR evs r).mono s23 hv2
            have hpv3 := (piece (.single x k y)).mono s23 hpv2
            refine w_when g (t := disag (.single x k y) evs[n + 1 + i] && Vbkoab.one r.1 x (evX evs[n + 1 + i])) (evt_w (evw_and (evt_val (ev_call GD (hr.mono (by decide)) (ea_cons (P := piece (.single x k y)) (by walk_at "nm") (ea_cons (P := piece evs[n + 1 + i]) (by walk_at "nm") ea_nil)) ⟨_, _, rfl, rfl⟩))
              fun _ => evw_and1 (evt_val (ev_meth MO T.gC (hr.mono (by decide)) (fs := groupsF r.1) (ev_fld T.rC T.rgroups (fs := runF CJ CG evs r) (by walk_at "nm") lkR_groups) (lkG_m (by decide +kernel)) (ea_cons (P := two (x, evX evs[n + 1 + i])) (by walk_at "ev") ea_nil) ⟨r.1, _, (x, evX evs[n + 1 + i]), rfl, .inl rfl, hoe, evX_ok ob, rfl⟩)))) (fun h H6 g => ?_) (fun h H6 g => ?_)
            · refine w_end g (P := clashV ⟨n, ((n + 1 + i : Nat) : Int), (x, evX evs[n + 1 + i])⟩) (ev_tup (ea_cons (by walk_at "nm") (ea_cons (by walk_at "nm") (ea_cons (P := two (x, evX evs[n + 1 + i])) (by walk_at "ev") ea_nil)))) ?_
              rw [em, findSome_at _ i _ (by omega) hf (e2m.trans (if_pos h))]
              rfl
            · refine b_nil ⟨N3, s12.trans s23, g.nh, _, _, rfl, g, ?_⟩
              rw [findSome_more _ i hf, e2m, if_neg (by rw [h]; decide)]
          · subst e
            refine w_end gg ev_non ?_
            rw [em, ← el, hf]
            rfl
        · cases h5
      · refine w_when g (t := false) (EvT.to (by walk_at "et") (decide_eq_false k5)) (fun h5 H3 g => ?_) (fun h5 H3 g => ?_)
        · cases h5
        · refine w_end g ev_non ?_
          have em : mClashFrom evs r.1 n = none := by
            unfold mClashFrom
            rw [he]
            cases ev <;> first | rfl | exact absurd rfl k2 | exact absurd rfl k5
          rw [em]
          rfl
theorem ok_clash (F : Fun K "clash" "Run.clash" sClash f fd) (T : Txt K mg CJ CG CR CK) (MCF : MF P w K mg base CX0 2 CR "clash_from" ["self", "number"] (Pure (RCFrom CJ CG CR))) : FnOk P w K mg base CX0 3 f fd ["self"] (Pure (RClash CJ CG CR)) := by
  refine pure_ok F scClash (fun Ps P h => by obtain ⟨a, b, rfl, _⟩ := h; rfl) fun cdv A outer s H0 E hr vs Ps P' N H h sm p => ?_
  obtain ⟨evs, r, rfl, hok, hl, rfl⟩ := h
  obtain ⟨v, rfl, hv⟩ := paired1 p
  have hrange := T.nrange
  have hlen := T.nlen
  refine b_forR (g := gName 1) (lo := 0) (n := ((evs.length : Nat) : Int).toNat) (evi_1 hrange (ev_lenL (R := piece) hlen (ev_fld T.rC T.rpieces (fs := runF CJ CG evs r) (by walk_at "nm") lkR_pieces)) (by omega)) sm
    (fun i σ1 N2 H4 => ∃ w1 w2, σ1 = [some v, w1, w2] ∧ Grow N H N2 H4 ∧ (List.range i).findSome? (mClashFrom evs r.1) = none)
    (fun H4 s4 => ⟨none, none, rfl, .keep sm s4, rfl⟩) (fun i σ1 N2 H4 hi s12 s24 ⟨w1, w2, e, g, hf⟩ => ?_) (fun σ1 N2 H4 s12 s24 ⟨w1, w2, e, g, hf⟩ => ?_) PassesOwn.never rfl (pg_name scClash.nd rfl (Or.inl rfl))
  · subst e
    have e0 : (0 : Int) + (i : Nat) = (i : Nat) := by omega
    show bB _ _ _ _ _
    rw [e0]
    have hv2 := (run CJ CG CR evs r).mono s12 hv
    refine w_asg (i := 2) g (P := isO clashV (mClashFrom evs r.1 i)) (ev_meth MCF T.rC (hr.mono (by decide)) (fs := runF CJ CG evs r) (by walk_at "nm") (lkR_m (by decide +kernel) (by decide +kernel) (by decide +kernel)) (ea_cons (by walk_at "nm") ea_nil) ⟨evs, r, i, rfl, by omega, hok, hl, rfl⟩) (fun u N3 H5 g s3 hu => ?_) scClash.nd
    refine w_when g (evt_notN (by walk_at "nm") (isO_non clash_non)) (fun h H6 g => ?_) (fun h H6 g => ?_)
    · refine w_end g (P := isO clashV (mClashFrom evs r.1 i)) (by walk_at "nm") ?_
      cases q : mClashFrom evs r.1 i with
      | none => rw [q] at h; cases h
      | some c =>
        have : mClash evs r.1 = some c := findSome_at _ i _ (by omega) hf q
        rw [this]
    · refine b_nil ⟨N3, s12.trans s3, g.nh, _, _, rfl, g, ?_⟩
      rw [findSome_more _ i hf]
      cases q : mClashFrom evs r.1 i with
      | none => rfl
      | some c => rw [q] at h; cases h
  · subst e
    refine w_end g ev_non ?_
    rw [Int.toNat_natCast] at hf
    have : mClash evs r.1 = none := hf
    rw [this]
    rfl
end
end PB
namespace PB
/-! ### joins as edges -/
def Adj (js : List MJ) (S : Nat → Prop) (a b : Nat) : Prop := ∃ i j, js[i]? = some j ∧ S i ∧ ((j.t.1 = a ∧ j.t.2 = b) ∨ (j.t.1 = b ∧ j.t.2 = a))
inductive Conn (js : List MJ) (S : Nat → Prop) : Nat → Nat → Prop
  | refl (a : Nat) : Conn js S a a
  | step {a b c : Nat} : Adj js S a b → Conn js S b c → Conn js S a c
section
variable {js : List MJ} {S S' : Nat → Prop} {a b c : Nat}
theorem Adj.symm (h : Adj js S a b) : Adj js S b a := by
  obtain ⟨i, j, h1, h2, h3⟩ := h
  exact ⟨i, j, h1, h2, h3.symm⟩
theorem Conn.trans (h : Conn js S a b) (k : Conn js S b c) : Conn js S a c := by
  induction h with
  | refl _ => exact k
  | step e _ ih => exact .step e (ih k)
theorem Conn.one (h : Adj js S a b) : Conn js S a b := .step h (.refl _)
theorem Conn.symm (h : Conn js S a b) : Conn js S b a := by
  induction h with
  | refl _ => exact .refl _
  | step e _ ih => exact ih.trans (.one e.symm)
theorem Conn.mono (h : Conn js S a b) (k : ∀ i, S i → S' i) : Conn js S' a b := by
  induction h with
  | refl _ => exact .refl _
  | step e _ ih =>
    obtain ⟨i, j, h1, h2, h3⟩ := e
    exact .step ⟨i, j, h1, k i h2, h3⟩ ih
end
/-- i parts the two -/
def Sep (js : List MJ) (t : Nat × Nat) (i : Nat) : Prop := i < js.length ∧ ¬ Conn js (fun k => k ≠ i) t.1 t.2
def Forest (js : List MJ) : Prop := ∀ i j, js[i]? = some j → ¬ Conn js (fun k => k ≠ i) j.t.1 j.t.2
/-! ### what is come by -/
abbrev Came := List (Nat × Option (Nat × Nat))
def look (c : Came) (y : Nat) : Option (Option (Nat × Nat)) := (c.find? fun e => decide (e.1 = y)).map (·.2)
theorem look_app {c d : Came} {y : Nat} {o : Option (Nat × Nat)} (h : look c y = some o) : look (c ++ d) y = some o := by
  unfold look at h ⊢
  rw [List.find?_append]
  cases q : c.find? (fun e => decide (e.1 = y)) with
  | none => rw [q] at h; cases h
  | some e => rw [q] at h; exact h
theorem look_new {c : Came} {y : Nat} {o : Option (Nat × Nat)} (h : look c y = none) : look (c ++ [(y, o)]) y = some o := by
  unfold look at h ⊢
  rw [List.find?_append]
  cases q : c.find? (fun e => decide (e.1 = y)) with
  | none => simp
  | some e => rw [q] at h; cases h
theorem look_other {c : Came} {y z : Nat} {o : Option (Nat × Nat)} (hz : z ≠ y) : look (c ++ [(y, o)]) z = look c z := by
  unfold look
  rw [List.find?_append]
  cases q : c.find? (fun e => decide (e.1 = z)) with
  | none =>
    have : ¬ y = z := fun e => hz e.symm
    simp [this]
  | some e => rfl
theorem look_some_iff {c : Came} {y : Nat} : look c y ≠ none ↔ y ∈ c.map (·.1) := by
  unfold look
  cases q : c.find? (fun e => decide (e.1 = y)) with
  | none =>
    rw [List.find?_eq_none] at q
    constructor
    · intro h; exact absurd rfl h
    · intro h
      obtain ⟨e, he, ey⟩ := List.mem_map.mp h
      exact absurd (decide_eq_true ey) (q e he)
  | some e =>
    constructor
    · intro _
      have h1 := List.find?_some q
      exact List.mem_map.mpr ⟨e, List.mem_of_find?_eq_some q, of_decide_eq_true h1⟩
    · intro _ h; cases h
inductive Tree (js : List MJ) (x : Nat) : Came → Prop
  | root : Tree js x [(x, none)]
  | more {c : Came} {p y i : Nat} {j : MJ} : Tree js x c → look c p ≠ none → look c y = none → js[i]? = some j → ((j.t.1 = p ∧ j.t.2 = y) ∨ (j.t.1 = y ∧ j.t.2 = p)) → Tree js x (c ++ [(y, some (p, i))])
inductive Chain (c : Came) : Nat → List Nat → Prop
  | root {y : Nat} : look c y = some none → Chain c y []
  | step {y p i : Nat} {l : List Nat} : look c y = some (some (p, i)) → Chain c p l → Chain c y (i :: l)
section
variable {js : List MJ} {x : Nat} {c : Came}
theorem Chain.app {d : Came} {y : Nat} {l : List Nat} (h : Chain c y l) : Chain (c ++ d) y l := by
  induction h with
  | root e => exact .root (look_app e)
  | step e _ ih => exact .step (look_app e) ih
theorem Tree.par (h : Tree js x c) : ∀ {z p i : Nat}, look c z = some (some (p, i)) → look c p ≠ none := by
  induction h with
  | root =>
    intro z p i e
    unfold look at e
    by_cases hx : x = z
    · simp [hx] at e
    · simp [hx] at e
  | @more c p y i j h hp hy hj ht ih =>
    intro z p' i' e
    by_cases hz : z = y
    · subst hz
      rw [look_new hy] at e
      cases e
      intro k
      cases q : look c p with
      | none => exact hp q
      | some o => rw [look_app q] at k; cases k
    · rw [look_other hz] at e
      intro k
      cases q : look c p' with
      | none => exact ih e q
      | some o => rw [look_app q] at k; cases k
theorem Tree.back (h : Tree js x c) {y : Nat} {o : Option (Nat × Nat)} (hy : look c y = none) {z : Nat} {l : List Nat} (k : Chain (c ++ [(y, o)]) z l) : look c z ≠ none → Chain c z l := by
  induction k with
  | @root z e =>
    intro hz
    have : z ≠ y := fun q => hz (by rw [q]; exact hy)
    rw [look_other this] at e
    exact .root e
  | @step z p i l e _ ih =>
    intro hz
    have : z ≠ y := fun q => hz (by rw [q]; exact hy)
    rw [look_other this] at e
    exact .step e (ih (h.par e))
theorem Tree.chain (h : Tree js x c) : ∀ {z : Nat}, look c z ≠ none → ∃ l, Chain c z l := by
  induction h with
  | root =>
    intro z hz
    by_cases hx : x = z
    · subst hx
      exact ⟨[], .root (by unfold look; simp)⟩
    · exfalso; apply hz; unfold look; simp [hx]
  | @more c p y i j h hp hy hj ht ih =>
    intro z hz
    by_cases hzy : z = y
    · subst hzy
      obtain ⟨l, hl⟩ := ih hp
      exact ⟨i :: l, .step (look_new hy) hl.app⟩
    · rw [look_other hzy] at hz
      obtain ⟨l, hl⟩ := ih hz
      exact ⟨l, hl.app⟩
theorem Tree.keys (h : Tree js x c) : (c.map (·.1)).Nodup := by
  induction h with
  | root => simp
  | @more c p y i j h hp hy hj ht ih =>
    rw [List.map_append, List.nodup_append]
    refine ⟨ih, by simp, fun a ha b hb => ?_⟩
    have : b = y := by simpa using hb
    subst this
    intro e
    subst e
    exact absurd hy (look_some_iff.mpr ha)
theorem Tree.lt {n : Nat} (h : Tree js x c) (hx : x < n) (ok : ∀ j ∈ js, okTwo n j.t) : ∀ y ∈ c.map (·.1), y < n := by
  induction h with
  | root => intro y hy; simp at hy; omega
  | @more c p y i j h hp hy hj ht ih =>
    intro z hz
    rw [List.map_append] at hz
    rcases List.mem_append.mp hz with q | q
    · exact ih z q
    · have e : z = y := by simpa using q
      subst e
      have o := ok j (List.mem_of_getElem? hj)
      rcases ht with t | t
      · rw [← t.2]; exact o.2
      · rw [← t.1]; exact o.1
theorem nodup_len : ∀ (n : Nat) (l : List Nat), l.Nodup → (∀ x ∈ l, x < n) → l.length ≤ n
  | 0, l, _, h => by
    cases l with
    | nil => exact Nat.le_refl _
    | cons a r => exact absurd (h a (by simp)) (by omega)
  | n + 1, l, hn, h => by
    have h1 := nodup_len n (l.erase n) (hn.erase n) (fun x hx => by
      have h2 := (hn.mem_erase_iff).mp hx
      have := h x h2.2
      omega)
    have h2 : l.length ≤ (l.erase n).length + 1 := by
      rw [List.length_erase]
      split <;> omega
    omega
/-- the way of a tree in a forest: those who part the two -/
theorem Tree.sep (hf : Forest js) (h : Tree js x c) : ∀ {z : Nat} {l : List Nat}, Chain c z l → Conn js (· ∈ l) x z ∧ (∀ i ∈ l, Sep js (x, z) i) ∧ ∀ i ∈ l, ∃ j, js[i]? = some j ∧ look c j.t.1 ≠ none ∧ look c j.t.2 ≠ none := by
  induction h with
  | root =>
    intro z l k
    have hz : x = z := by
      by_cases hx : x = z
      · exact hx
      · exfalso
        cases k with
        | root e => unfold look at e; simp [hx] at e
        | step e _ => unfold look at e; simp [hx] at e
    subst hz
    cases k with
    | root e => exact ⟨.refl _, fun i hi => (nomatch hi), fun i hi => (nomatch hi)⟩
    | step e _ => unfold look at e; simp at e
  | @more c p y i j h hp hy hj ht ih =>
    have lift : ∀ {z : Nat}, look c z ≠ none → look (c ++ [(y, some (p, i))]) z ≠ none := fun {z} hz k => by
      cases q : look c z with
      | none => exact hz q
      | some o => rw [look_app q] at k; cases k
    intro z l k
    by_cases hz : z = y
    · subst hz
      cases k with
      | root e => rw [look_new hy] at e; cases e
      | @step _ p' i' l0 e k0 =>
        rw [look_new hy] at e
        cases e
        obtain ⟨hA, hB, hC⟩ := ih (h.back hy k0 hp)
        have hil : i ∉ l0 := fun q => by
          obtain ⟨j', hj', k1, k2⟩ := hC i q
          rw [hj] at hj'
          cases hj'
          rcases ht with t | t
          · exact k2 (by rw [t.2]; exact hy)
          · exact k1 (by rw [t.1]; exact hy)
        have hi : i < js.length := (List.getElem?_eq_some_iff.mp hj).1
        refine ⟨?_, fun m hm => ?_, fun m hm => ?_⟩
        · exact (hA.mono fun m hm => List.mem_cons.mpr (.inr hm)).trans (.one ⟨i, j, hj, List.mem_cons.mpr (.inl rfl), ht⟩)
        · rcases List.mem_cons.mp hm with rfl | hm
          · refine ⟨hi, fun q => ?_⟩
            have h1 : Conn js (fun k => k ≠ m) x p := hA.mono fun k hk e => hil (by rw [← e]; exact hk)
            have h2 : Conn js (fun k => k ≠ m) p z := h1.symm.trans q
            rcases ht with t | t
            · exact hf m j hj (by rw [t.1, t.2]; exact h2)
            · exact hf m j hj (by rw [t.1, t.2]; exact h2.symm)
          · have hs := hB m hm
            refine ⟨hs.1, fun q => hs.2 ?_⟩
            have hmi : i ≠ m := fun e => hil (by rw [e]; exact hm)
            exact q.trans (.one ⟨i, j, hj, hmi, ht.symm⟩)
        · rcases List.mem_cons.mp hm with rfl | hm
          · refine ⟨j, hj, ?_, ?_⟩
            · rcases ht with t | t
              · rw [t.1]; exact lift hp
              · rw [t.1, look_new hy]; intro e; cases e
            · rcases ht with t | t
              · rw [t.2, look_new hy]; intro e; cases e
              · rw [t.2]; exact lift hp
          · obtain ⟨j', a1, a2, a3⟩ := hC m hm
            exact ⟨j', a1, lift a2, lift a3⟩
    · have hzc : look c z ≠ none := by
        cases k with
        | root e => rw [look_other hz] at e; rw [e]; intro q; cases q
        | step e _ => rw [look_other hz] at e; rw [e]; intro q; cases q
      obtain ⟨hA, hB, hC⟩ := ih (h.back hy k hzc)
      exact ⟨hA, hB, fun m hm => by
        obtain ⟨j', a1, a2, a3⟩ := hC m hm
        exact ⟨j', a1, lift a2, lift a3⟩⟩
theorem Tree.way (hf : Forest js) (h : Tree js x c) {z : Nat} {l : List Nat} (k : Chain c z l) (i : Nat) : i ∈ l ↔ Sep js (x, z) i := by
  obtain ⟨hA, hB, _⟩ := h.sep hf k
  exact ⟨hB i, fun q => by
    by_cases hi : i ∈ l
    · exact hi
    · exact absurd (hA.mono (S' := fun k => k ≠ i) fun k hk (e : k = i) => hi (by rw [← e]; exact hk)) q.2⟩
theorem Tree.chain_len (h : Tree js x c) : ∀ {z : Nat} {l : List Nat}, Chain c z l → l.length + 1 ≤ c.length := by
  induction h with
  | root =>
    intro z l k
    cases k with
    | root _ => exact Nat.le_refl _
    | step e _ =>
      exfalso
      unfold look at e
      by_cases hx : x = z
      · simp [hx] at e
      · simp [hx] at e
  | @more c p y i j h hp hy hj ht ih =>
    intro z l k
    rw [List.length_append]
    by_cases hz : z = y
    · subst hz
      cases k with
      | root e => rw [look_new hy] at e; cases e
      | @step _ p' i' l0 e k0 =>
        rw [look_new hy] at e
        cases e
        have := ih (h.back hy k0 hp)
        rw [List.length_cons]
        show l0.length + 1 + 1 ≤ c.length + 1
        omega
    · have hzc : look c z ≠ none := by
        cases k with
        | root e => rw [look_other hz] at e; rw [e]; intro q; cases q
        | step e _ => rw [look_other hz] at e; rw [e]; intro q; cases q
      have := ih (h.back hy k hzc)
      show _ ≤ c.length + 1
      omega
theorem Tree.root_in (h : Tree js x c) : look c x ≠ none := by
  induction h with
  | root => unfold look; simp
  | @more c p y i j h hp hy hj ht ih =>
    intro k
    cases q : look c x with
    | none => exact ih q
    | some o => rw [look_app q] at k; cases k
/-- all who are reached -/
def Closed (js : List MJ) (c : Came) (at_ : Nat) : Prop := ∀ k e, k < at_ → c[k]? = some e → ∀ (i : Nat) (j : MJ), js[i]? = some j → (j.t.1 = e.1 → look c j.t.2 ≠ none) ∧ (j.t.2 = e.1 → look c j.t.1 ≠ none)
theorem Closed.reach (h : Closed js c c.length) {a y : Nat} (k : Conn js (fun _ => True) a y) : look c a ≠ none → look c y ≠ none := by
  induction k with
  | refl _ => exact id
  | @step a b c' e _ ih =>
    intro ha
    refine ih ?_
    obtain ⟨i, j, hj, _, t⟩ := e
    have hm := look_some_iff.mp ha
    obtain ⟨e, he, ea⟩ := List.mem_map.mp hm
    obtain ⟨k, hk⟩ := List.getElem?_of_mem he
    have hc := h k e (List.getElem?_eq_some_iff.mp hk).1 hk i j hj
    rcases t with t | t
    · have := hc.1 (by rw [t.1, ea]); rw [t.2] at this; exact this
    · have := hc.2 (by rw [t.2, ea]); rw [t.1] at this; exact this
end
end PB
namespace PB
/-! ### what a joining needs -/
inductive Need (js : List MJ) : Nat × Nat → Nat → Prop
  | way {t : Nat × Nat} {i : Nat} : Sep js t i → Need js t i
  | deep {t s : Nat × Nat} {k i : Nat} {j : MJ} : Sep js t k → js[k]? = some j → s ∈ j.needs → Need js s i → Need js t i
open Classical in
noncomputable def mNeeded (js : List MJ) (t : Nat × Nat) : List Nat := (List.range js.length).filter fun i => decide (Need js t i)
theorem Need.lt {js : List MJ} {t : Nat × Nat} {i : Nat} (h : Need js t i) : i < js.length := by
  induction h with
  | way h => exact h.1
  | deep _ _ _ _ ih => exact ih
open Classical in
theorem mem_needed {js : List MJ} {t : Nat × Nat} {i : Nat} : i ∈ mNeeded js t ↔ Need js t i := by
  unfold mNeeded
  rw [List.mem_filter, List.mem_range]
  exact ⟨fun h => of_decide_eq_true h.2, fun h => ⟨h.lt, decide_eq_true h⟩⟩
theorem needed_asc (js : List MJ) (t : Nat × Nat) : (mNeeded js t).Pairwise (· < ·) := List.Pairwise.filter _ List.pairwise_lt_range
/-- all that are needed are found -/
theorem need_all {js : List MJ} {fs : List Nat} {Pd : List (Nat × Nat)} (h3 : ∀ s ∈ Pd, ∀ i, Sep js s i → i ∈ fs) (h5 : ∀ k ∈ fs, ∀ j, js[k]? = some j → ∀ s ∈ j.needs, s ∈ Pd) {t : Nat × Nat} {i : Nat} (h : Need js t i) : t ∈ Pd → i ∈ fs := by
  induction h with
  | way h => intro ht; exact h3 _ ht _ h
  | deep h hj hs _ ih => intro ht; exact ih (h5 _ (h3 _ ht _ h) _ hj _ hs)
theorem perm_needed {js : List MJ} {t : Nat × Nat} {fs : List Nat} (hn : fs.Nodup) (h : ∀ i, i ∈ fs ↔ Need js t i) : fs.Perm (mNeeded js t) := by
  refine (List.perm_ext_iff_of_nodup hn ((needed_asc js t).imp fun h => Nat.ne_of_lt h)).mpr fun i => ?_
  rw [h, mem_needed]
end PB
namespace PB
open PySem PySem.Spec PyProof.Rows L2
local macro_rules | `(tactic| walk_at "at") => `(tactic| first | exact at0 _ | exact at1 _ | rfl | assumption)
local macro_rules | `(tactic| walk_at "p") => `(tactic| first | assumption | exact (rfl : (is _).p _ _))
local macro_rules | `(tactic| walk_at "nm") => `(tactic| first
  | exact ev_glob (by assumption) (by first | exact ⟨_, rfl⟩ | rfl)
  | exact ev_nameI (by rfl) rfl (by walk_at "p"))
local macro_rules | `(tactic| walk_at "ev") => `(tactic| first
  | (with_reducible show Ev _ (PySem.Expr.Constant _ _ _) _ _ _); first | exact ev_int | exact ev_non | exact ev_bool | exact ev_str
  | (with_reducible show Ev _ (PySem.Expr.Name _ _) _ _ _); walk_at "nm"
  | (with_reducible show Ev _ (PySem.Expr.Subscript _ _ _) _ _ _); first | exact ev_ixT (by walk_at "ev") (by walk_at "ev") (by walk_at "at") | exact ev_ixL (by walk_at "ev") (by walk_at "ev") (by walk_at "at")
  | (with_reducible show Ev _ (PySem.Expr.Tuple _ _ _) _ _ _); exact ev_tup (by walk_at "ea")
  | (with_reducible show Ev _ (PySem.Expr.UnaryOp PySem.UnaryOp.USub _ _) _ _ _); exact ev_neg (by walk_at "ev")
  | (with_reducible show Ev _ (PySem.Expr.Compare _ [PySem.CmpOp.Eq] _ _) _ _ _); exact ev_eqI (by walk_at "ev") (by walk_at "ev")
  | (with_reducible show Ev _ (PySem.Expr.Compare _ [PySem.CmpOp.NotEq] _ _) _ _ _); exact ev_neI (by walk_at "ev") (by walk_at "ev"))
local macro_rules | `(tactic| walk_at "ea") => `(tactic| first
  | (with_reducible show EvA _ [] _ _ _); exact ea_nil
  | exact ea_cons (by walk_at "ev") (by walk_at "ea"))
local macro_rules | `(tactic| walk_at "et") => `(tactic| first
  | (with_reducible show EvT _ (PySem.Expr.Compare _ [PySem.CmpOp.Eq] _ _) _ _ _); exact evt_eqI (by walk_at "ev") (by walk_at "ev")
  | (with_reducible show EvT _ (PySem.Expr.Compare _ [PySem.CmpOp.NotEq] _ _) _ _ _); exact evt_neI (by walk_at "ev") (by walk_at "ev")
  | (with_reducible show EvT _ (PySem.Expr.Compare _ [PySem.CmpOp.Lt] _ _) _ _ _); exact evt_ltI (by walk_at "ev") (by walk_at "ev")
  | (with_reducible show EvT _ (PySem.Expr.Compare _ [PySem.CmpOp.LtE] _ _) _ _ _); exact evt_leI (by walk_at "ev") (by walk_at "ev")
  | (with_reducible show EvT _ (PySem.Expr.Compare _ [PySem.CmpOp.Gt] _ _) _ _ _); exact evt_gtI (by walk_at "ev") (by walk_at "ev")
  | (with_reducible show EvT _ (PySem.Expr.Compare _ [PySem.CmpOp.GtE] _ _) _ _ _); exact evt_geI (by walk_at "ev") (by walk_at "ev"))
/-! ### Run.way -/
structure GoodJ (n : Nat) (js : List MJ) : Prop where
  n100 : n ≤ 100
  len : js.length ≤ 60
  ok : ∀ j ∈ js, okJ n j
  forest : Forest js
  conn : ∀ j ∈ js, ∀ s ∈ j.needs, Conn js (fun _ => True) s.1 s.2
section
variable {X : Cx} {a : Expr} {pos p : Pos} {σ : L2.St} {N : Hp} {q : VP} {t : Nat × Nat}
theorem ev_two0 {j} (h : Twoish q t) (ha : Ev X a σ N q) : Ev X (.Subscript a (.Constant (.int 0) j p) pos) σ N (I (t.1 : Int)) := by
  rcases h with rfl | rfl
  · exact ev_ixT (Ps := [I (t.1 : Int), I (t.2 : Int)]) ha ev_int rfl
  · exact ev_ixL (R := fun n : Nat => I (n : Int)) (l := [t.1, t.2]) (x := t.1) ha ev_int rfl
theorem ev_two1 {j} (h : Twoish q t) (ha : Ev X a σ N q) : Ev X (.Subscript a (.Constant (.int 1) j p) pos) σ N (I (t.2 : Int)) := by
  rcases h with rfl | rfl
  · exact ev_ixT (Ps := [I (t.1 : Int), I (t.2 : Int)]) ha ev_int rfl
  · exact ev_ixL (R := fun n : Nat => I (n : Int)) (l := [t.1, t.2]) (x := t.2) ha ev_int rfl
end
abbrev CameP (N : Hp) (kvs : List (Key × V)) (c : Came) : Prop := Paired (fun (kv : Key × V) (e : Nat × Option (Nat × Nat)) => kv.1 = Sum.inl (e.1 : Int) ∧ (isO two e.2).p kv.2 N) kvs c
theorem camep_mono {N N' : Hp} (s : Same N N') {kvs : List (Key × V)} {c : Came} (h : CameP N kvs c) : CameP N' kvs c := Paired.mapP h fun kv e z => ⟨z.1, (isO two e.2).mono s z.2⟩
theorem camep_val {N : Hp} : ∀ {kvs : List (Key × V)} {c : Came} {y : Nat}, CameP N kvs c → (∀ o, look c y = some o → ∃ v, valV kvs (Sum.inl (y : Int)) = some v ∧ (isO two o).p v N) ∧ (look c y = none → valV kvs (Sum.inl (y : Int)) = none)
  | _, _, y, .nil => ⟨fun o h => (nomatch h), fun _ => rfl⟩
  | (k, v) :: kvs, (z, o) :: c, y, .cons r t => by
    obtain ⟨e, pv⟩ := r
    have e : k = Sum.inl (z : Int) := e
    subst e
    obtain ⟨ih1, ih2⟩ := camep_val (y := y) t
    by_cases h : z = y
    · subst h
      constructor
      · intro o' h
        have : look ((z, o) :: c) z = some o := by unfold look; simp
        rw [this] at h
        cases h
        exact ⟨v, valV_pos rfl, pv⟩
      · intro h
        have : look ((z, o) :: c) z = some o := by unfold look; simp
        rw [this] at h; cases h
    · have e1 : look ((z, o) :: c) y = look c y := by unfold look; simp [h]
      have e2 : valV ((Sum.inl (z : Int), v) :: kvs) (Sum.inl (y : Int)) = valV kvs (Sum.inl (y : Int)) := valV_neg fun q => h (Int.ofNat.inj (Sum.inl.inj q))
      rw [e1, e2]
      exact ⟨ih1, ih2⟩
abbrev sWay : Stmt := inClass (top 21) 4
theorem scWay : FnScope ["self", "two", "came", "row", "at", "one", "number", "join", "other", "found", "step"] ["self", "two"] (defScope sWay) := ⟨rfl, rfl, rfl, by decide +kernel, rfl, by decide +kernel, by decide +kernel⟩
def RWay (CJ CG CR : Addr) : List VP → VP → Prop := fun Ps P => ∃ evs r q t n, Ps = [run CJ CG CR evs r, q] ∧ Twoish q t ∧ GoodJ n r.2 ∧ t.1 < n ∧ Conn r.2 (fun _ => True) t.1 t.2 ∧ P = exV (fun l : List Nat => ∀ i, i ∈ l ↔ Sep r.2 t i) isNs
/-- what the search has come by so far -/
structure BSt (js : List MJ) (n x dc rl : Addr) (Nh H : Hp) (c : Came) (kvs : List (Key × V)) (N' H' : Hp) : Prop where
  g : Grow Nh H N' H'
  nd : N' dc = none
  nr : N' rl = none
  hd : H' dc = some (.dK kvs)
  hr : H' rl = some (.lst (c.map fun e => V.int (e.1 : Int)))
  pc : CameP N' kvs c
  tr : Tree js x c
  len : c.length ≤ n
theorem BSt.more {js : List MJ} {n x dc rl : Addr} {Nh H : Hp} {c : Came} {kvs : List (Key × V)} {N' H' H2 : Hp} (B : BSt js n x dc rl Nh H c kvs N' H') (s : Same H' H2) : BSt js n x dc rl Nh H c kvs N' H2 :=
  ⟨B.g.more s, B.nd, B.nr, s _ _ B.hd, s _ _ B.hr, B.pc, B.tr, B.len⟩
/-- the joins of one of those come by, the first i looked at -/
def Near (js : List MJ) (c : Came) (z i : Nat) : Prop := ∀ (k : Nat) (j : MJ), k < i → js[k]? = some j → (j.t.1 = z → look c j.t.2 ≠ none) ∧ (j.t.2 = z → look c j.t.1 ≠ none)
theorem look_grow {c d : Came} {y : Nat} (h : look c y ≠ none) : look (c ++ d) y ≠ none := fun k => by
  cases q : look c y with
  | none => exact h q
  | some o => rw [look_app q] at k; cases k
section
variable {P : Program} {w : World} {K : PySem.W.Frag} {mg : Str → Option Value} {base : Heap} {CJ CG CR CK : Addr} {f : Addr} {fd : FuncData}
theorem paired_keys {N : Hp} : ∀ (c : Came), Paired (fun v (y : Int) => (I y).p v N) (c.map fun e => V.int (e.1 : Int)) (c.map fun e => (e.1 : Int))
  | [] => .nil
  | _ :: r => .cons rfl (paired_keys r)
theorem ok_way (F : Fun K "way" "Run.way" sWay f fd) (T : Txt K mg CJ CG CR CK) : FnOk P w K mg base CX0 1 f fd ["self", "two"] (Pure (RWay CJ CG CR)) := by
  refine pure_ok F scWay (fun Ps P h => by obtain ⟨a, b, c, d, e, rfl, _⟩ := h; rfl) fun cdv A outer s H0 E hr vs Ps P' N H h sm p => ?_
  obtain ⟨evs, r, q, t, n, rfl, hq, G, htn, hcon, rfl⟩ := h
  obtain ⟨v, v2, rfl, hv, hv2⟩ := paired2 p
  have hlen := T.nlen
  have henum := T.nenum
  have hunit : (A.deeper (envOfC "Run.way" (defScope sWay) s.heap.objs.size f cdv)).units + 1 < cLine := hu_of hr
  refine b_asgD1 (n := 2) (i := (t.1 : Int)) (ev_two0 hq (by walk_at "nm")) sm (fun dc H1 hdc s1 hd1 => ?_) scWay.nd
  refine b_asgM1 (n := 3) (P := I (t.1 : Int)) (N := N) (ev_two0 hq (by walk_at "nm")) (sm.trans s1) (fun rl w1 N1 H2a H2 hrl nrl g1 pw s2 s2' hr2 => ?_) scWay.nd
  cases pw
  have s12 : Same H1 H2 := g1.hh.trans s2
  have hrl0 : H rl = none := s1.free hrl
  have dr : dc ≠ rl := fun z => by rw [← z, hd1] at hrl; cases hrl
  refine b_asgV (i := 4) (v := .int 0) ev_int (sm.trans (s1.trans s12)) (fun H3 s3 => ?_) scWay.nd
  have B0 : BSt r.2 n t.1 dc rl N H [(t.1, none)] [(Sum.inl (t.1 : Int), .non)] N H3 :=
    ⟨.keep sm (s1.trans (s12.trans s3)), sm.free hdc, sm.free hrl0, s3 _ _ (s12 _ _ hd1), s3 _ _ hr2, .cons ⟨rfl, rfl⟩ .nil, .root, by show 1 ≤ n; omega⟩
  refine b_while (fun m σ1 H4 => ∃ at_ c kvs N4 w5 w6 w7 w8, m = n - at_ ∧ σ1 = [some v, some v2, some (.ref dc), some (.ref rl), some (.int ((at_ : Nat) : Int)), w5, w6, w7, w8, none, none] ∧ BSt r.2 n t.1 dc rl N H c kvs N4 H4 ∧ at_ ≤ c.length ∧ Closed r.2 c at_) n
    ⟨0, _, _, N, none, none, none, none, rfl, rfl, B0, Nat.zero_le _, fun k e h => absurd h (by omega)⟩ (fun m σ1 H4 ⟨at_, c, kvs, N4, w5, w6, w7, w8, em, e, B4, hat, hcl⟩ => ?_) PassesOwn.never
  subst e
  have kn : Same (upd N4 rl (.lst (c.map fun e => V.int (e.1 : Int)))) H4 := same_put B4.g.nh B4.hr
  have prow : (isI (c.map fun e => (e.1 : Int))).p (.ref rl) (upd N4 rl (.lst (c.map fun e => V.int (e.1 : Int)))) := ⟨rl, _, rfl, upd_same, paired_keys c⟩
  refine ⟨decide (((at_ : Nat) : Int) < ((c.map fun e => (e.1 : Int)).length : Int)), _, evt_ltI (by walk_at "nm") (ev_lenL (R := I) hlen (ev_name (i := 3) rfl prow)), kn, fun ht H5 s5 => ?_, fun ht H5 s5 => ?_⟩
  · have ht := of_decide_eq_true ht
    rw [List.length_map] at ht
    have hlt : at_ < c.length := by omega
    have hce : c[at_]? = some c[at_] := List.getElem?_eq_getElem hlt
    have ha : atI (c.map fun e => (e.1 : Int)) ((at_ : Nat) : Int) = some (c[at_].1 : Int) := at_ix (by rw [List.getElem?_map, hce]; rfl)
    have B5 := B4.more s5
    refine b_asgV (i := 5) (v := .int (c[at_].1 : Int)) (ev_ixL (R := I) (ev_name (i := 3) rfl prow) (by walk_at "nm") ha) (kn.trans s5) (fun H6 s6 => ?_) scWay.nd
    refine b_augI (n := 4) rfl ev_int (B4.g.nh.trans (s5.trans s6)) (fun H7 s7 => ?_) scWay.nd
    have B7 := B5.more (s6.trans s7)
    have hv4 := (run CJ CG CR evs r).mono B4.g.nn hv
    have hz0 : look c c[at_].1 ≠ none := look_some_iff.mpr (List.mem_map.mpr ⟨c[at_], List.getElem_mem hlt, rfl⟩)
    generalize hz : c[at_].1 = z at hz0
    refine b_forE (i1 := 6) (i2 := 7) (R := join CJ) (l := r.2) henum (ev_fld T.rC T.rjoins (fs := runF CJ CG evs r) (by walk_at "nm") lkR_joins) B7.g.nh
      (fun N0 i σ2 N8 H8 => ∃ c8 kvs8 w6 w7 w8, σ2 = [some v, some v2, some (.ref dc), some (.ref rl), some (.int ((at_ : Nat) + 1 : Int)), some (.int (z : Int)), w6, w7, w8, none, none] ∧ BSt r.2 n t.1 dc rl N H (c ++ c8) kvs8 N8 H8 ∧ Near r.2 (c ++ c8) z i)
      (fun N0 H8 g8 => ⟨[], kvs, w6, w7, w8, rfl, ?_, fun k j hk => absurd hk (by omega)⟩)
      (fun N0 i j u σ2 N8 H8 s0 hij s08 s88 ⟨c8, kvs8, w6, w7, w8, e, B8, near⟩ hu H9 s9 => ?_) (fun N0 σ2 N8 H8 s0 s08 s88 ⟨c8, kvs8, w6, w7, w8, e, B8, near⟩ => b_nil ?_) PassesOwn.never rfl (pg_tup rfl (pgs_cons (pg_name scWay.nd rfl (Or.inl rfl)) (pgs_cons (pg_name scWay.nd rfl (Or.inl rfl)) pgs_nil)))
    · rw [List.append_nil]
      have g' : Grow N H N0 H8 := B7.g.trans g8
      exact ⟨g', g8.nw dc B7.nd (by rw [B7.hd]; simp), g8.nw rl B7.nr (by rw [B7.hr]; simp), g8.hh _ _ B7.hd, g8.hh _ _ B7.hr, camep_mono g8.nn B7.pc, B7.tr, B7.len⟩
    · subst e
      have huj := (join CJ j).mono s08 hu
      have okj := G.ok j (List.mem_of_getElem? hij)
      have hzl : look (c ++ c8) z ≠ none := look_grow hz0
      have B9 := B8.more s9
      have hN9 := B9.g.nh
      have hi60 : i < 60 := by have := (List.getElem?_eq_some_iff.mp hij).1; have := G.len; omega
      refine b_when (t := decide ((z : Int) ∈ [(j.t.1 : Int), (j.t.2 : Int)])) (evt_inT (Ps := [I (j.t.1 : Int), I (j.t.2 : Int)]) (by walk_at "nm") (ev_fld T.jC T.jtwo (fs := joinF j) (by walk_at "nm") lkJ_two) rfl) hN9 (fun h H10 s10 => ?_) (fun h H10 s10 => b_nil ⟨N8, s08, hN9.trans s10, c8, kvs8, _, _, _, rfl, B9.more s10, fun k j' hk hj' => ?_⟩)
      · have h := of_decide_eq_true h
        have B10 := B9.more s10
        obtain ⟨o, eo, ho⟩ : ∃ o : Nat, (j.t.1 : Int) + (j.t.2 : Int) - (z : Int) = (o : Int) ∧ ((j.t.1 = z ∧ j.t.2 = o) ∨ (j.t.1 = o ∧ j.t.2 = z)) := by
          rcases List.mem_cons.mp h with q1 | q1
          · exact ⟨j.t.2, by omega, .inl ⟨(Int.ofNat.inj q1).symm, rfl⟩⟩
          · have q1 := List.mem_singleton.mp q1
            exact ⟨j.t.1, by omega, .inr ⟨rfl, (Int.ofNat.inj q1).symm⟩⟩
        have nearI : ∀ c9 : Came, look (c ++ c8 ++ c9) o ≠ none → Near r.2 (c ++ c8 ++ c9) z (i + 1) := fun c9 hlo k j' hk hj' => by
          by_cases hki : k < i
          · obtain ⟨a1, a2⟩ := near k j' hki hj'
            exact ⟨fun q1 => look_grow (a1 q1), fun q1 => look_grow (a2 q1)⟩
          · have : k = i := by omega
            subst this
            rw [hij] at hj'
            cases hj'
            rcases ho with ⟨b1, b2⟩ | ⟨b1, b2⟩
            · exact ⟨fun _ => by rw [b2]; exact hlo, fun _ => by rw [b1]; exact look_grow hzl⟩
            · exact ⟨fun _ => by rw [b2]; exact look_grow hzl, fun _ => by rw [b1]; exact hlo⟩
        refine b_asgV (i := 8) (v := .int ((j.t.1 : Int) + (j.t.2 : Int) - (z : Int))) (ev_sub (ev_add (ev_ixT (Ps := [I (j.t.1 : Int), I (j.t.2 : Int)]) (ev_fld T.jC T.jtwo (fs := joinF j) (by walk_at "nm") lkJ_two) ev_int rfl) (ev_ixT (Ps := [I (j.t.1 : Int), I (j.t.2 : Int)]) (ev_fld T.jC T.jtwo (fs := joinF j) (by walk_at "nm") lkJ_two) ev_int rfl)) (by walk_at "nm")) (hN9.trans s10) (fun H11 s11 => ?_) scWay.nd
        rw [eo]
        have B11 := B10.more s11
        have sd : Same (upd N8 dc (.dK kvs8)) H11 := same_put B11.g.nh B11.hd
        obtain ⟨cv1, cv2⟩ := camep_val (y := o) B11.pc
        refine b_when (t := !(valV kvs8 (Sum.inl (o : Int))).isSome) (evt_dnotin (N := upd N8 dc (.dK kvs8)) hunit (by walk_at "nm") (by walk_at "nm") upd_same) sd (fun h2 H12 s12 => ?_) (fun h2 H12 s12 => b_nil ?_)
        · have hlo : look (c ++ c8) o = none := by
            cases q1 : look (c ++ c8) o with
            | none => rfl
            | some o' =>
              obtain ⟨v', e1, _⟩ := cv1 o' q1
              rw [e1] at h2; cases h2
          have hval := cv2 hlo
          have B12 := B11.more s12
          have hkl : kvs8.length < 1000000 := by rw [paired_len B12.pc]; have := B12.len; have := G.n100; omega
          refine b_dput (N := N8) (N2 := N8) (N3 := N8) (P := two (z, i)) (kvs := kvs8) hunit B12.hd hkl (by walk_at "nm") B12.g.nh (by walk_at "nm") B12.g.nh (ev_tup (ea_cons (by walk_at "nm") (ea_cons (by walk_at "nm") ea_nil))) B12.g.nh (fun v13 N13 H13 g13 hv13 hd13 => ?_)
          rw [putK_new v13 hval]
          have n13d := g13.nw dc B12.nd (by rw [B12.hd]; simp)
          have n13r := g13.nw rl B12.nr (by rw [B12.hr]; simp)
          have s13 : Same N13 (upd H13 dc (.dK (kvs8 ++ [(Sum.inl (o : Int), v13)]))) := fun b u e => by rw [upd_ne (ne_of_none e n13d)]; exact g13.nh b u e
          refine b_append (N := N13) (N2 := N13) (P := I (o : Int)) (l := rl) (xs := (c ++ c8).map fun e => V.int (e.1 : Int)) (by rw [upd_ne (Ne.symm dr)]; exact g13.hh _ _ B12.hr) (by rw [List.length_map]; have := B12.len; have := G.n100; omega) (by walk_at "nm") s13 (by walk_at "nm") s13 (fun v14 N14 H14 g14 hv14 h14 => b_nil (b_nil (b_nil ?_)))
          cases hv14
          have n14d := g14.nw dc n13d (by rw [upd_same]; simp)
          have n14r := g14.nw rl n13r (by rw [upd_ne (Ne.symm dr), g13.hh _ _ B12.hr]; simp)
          have tr' : Tree r.2 t.1 (c ++ c8 ++ [(o, some (z, i))]) := .more B12.tr hzl hlo hij (by rcases ho with ⟨b1, b2⟩ | ⟨b1, b2⟩; exact .inl ⟨b1, b2⟩; exact .inr ⟨b1, b2⟩)
          have gfin : Grow N H N14 (upd H14 rl (.lst ((c ++ c8).map (fun e => V.int (e.1 : Int)) ++ [V.int (o : Int)]))) := (((B12.g.trans g13).put n13d hdc).trans g14).put n14r hrl0
          refine ⟨N14, (s08.trans g13.nn).trans g14.nn, gfin.nh, c8 ++ [(o, some (z, i))], kvs8 ++ [(Sum.inl (o : Int), v13)], _, _, _, rfl, ?_, ?_⟩
          · rw [← List.append_assoc]
            refine ⟨gfin, n14d, n14r, ?_, ?_, ?_, tr', ?_⟩
            · rw [upd_ne dr]; exact g14.hh _ _ upd_same
            · rw [upd_same, List.map_append (l₁ := c ++ c8)]; rfl
            · exact paired_app (camep_mono (g13.nn.trans g14.nn) B12.pc) (.cons ⟨rfl, (two (z, i)).mono g14.nn hv13⟩ .nil)
            · have h1 := nodup_len n _ tr'.keys (tr'.lt htn fun j hj => (G.ok j hj).1)
              rw [List.length_map] at h1
              exact h1
          · rw [← List.append_assoc]
            exact nearI _ (by rw [look_new hlo]; intro q1; cases q1)
        · have hlo : look (c ++ c8) o ≠ none := fun q1 => by rw [cv2 q1] at h2; cases h2
          refine b_nil ⟨N8, s08, B11.g.nh.trans s12, c8, kvs8, _, _, _, rfl, B11.more s12, ?_⟩
          have := nearI [] (by rw [List.append_nil]; exact hlo)
          rw [List.append_nil] at this
          exact this
      · have h := of_decide_eq_false h
        by_cases hki : k < i
        · exact near k j' hki hj'
        · have : k = i := by omega
          subst this
          rw [hij] at hj'
          cases hj'
          exact ⟨fun q1 => absurd (List.mem_cons.mpr (.inl (by rw [q1]))) h, fun q1 => absurd (List.mem_cons.mpr (.inr (List.mem_singleton.mpr (by rw [q1])))) h⟩
    · subst e
      refine ⟨n - (at_ + 1), by have := B4.len; omega, at_ + 1, c ++ c8, kvs8, N8, _, _, _, _, rfl, rfl, B8, by rw [List.length_append]; omega, fun k e hk he i j hj => ?_⟩
      have hkc : k < c.length := by omega
      rw [List.getElem?_append_left hkc] at he
      by_cases hka : k < at_
      · obtain ⟨a1, a2⟩ := hcl k e hka he i j hj
        exact ⟨fun q1 => look_grow (a1 q1), fun q1 => look_grow (a2 q1)⟩
      · have : k = at_ := by omega
        subst this
        rw [hce] at he
        have ez : e.1 = z := by rw [← hz]; exact congrArg (·.1) (Option.some.inj he).symm
        rw [ez]
        exact near i j (List.getElem?_eq_some_iff.mp hj).1 hj
  · have ht := of_decide_eq_false ht
    rw [List.length_map] at ht
    have hall : at_ = c.length := by omega
    subst hall
    have B5 := B4.more s5
    refine b_asgM (i := 9) (fun fl H6 hfl s6 hf6 => ?_) scWay.nd
    have B6 := B5.more s6
    have n4f : N4 fl = none := B5.g.nh.free hfl
    have hf0 : H fl = none := B5.g.hh.free hfl
    have df : dc ≠ fl := fun z => by rw [← z, B5.hd] at hfl; cases hfl
    have hreach : look c t.2 ≠ none := hcl.reach hcon B4.tr.root_in
    obtain ⟨o0, ho0⟩ : ∃ o, look c t.2 = some o := by
      cases q1 : look c t.2 with
      | none => exact absurd q1 hreach
      | some o => exact ⟨o, rfl⟩
    obtain ⟨vo, hvo, pvo⟩ := (camep_val (y := t.2) B6.pc).1 o0 ho0
    have knd : ∀ H', Same N4 H' → H' dc = some (.dK kvs) → Same (upd N4 dc (.dK kvs)) H' := fun H' s e => same_put s e
    have hv2' := q.mono (B4.g.nn.trans (same_new B4.nd : Same N4 (upd N4 dc (.dK kvs)))) hv2
    refine b_asgV (i := 10) (v := vo) (N := upd N4 dc (.dK kvs)) (ev_dget (P := is vo) hunit (by walk_at "nm") (ev_two1 hq (ev_name (i := 1) rfl hv2')) upd_same hvo rfl) (knd _ B6.g.nh B6.hd) (fun H7 s7 => ?_) scWay.nd
    obtain ⟨l0, hl0⟩ := B4.tr.chain hreach
    refine b_while (fun m σ2 H8 => ∃ zc l l' o vo, m = l'.length ∧ σ2 = [some v, some v2, some (.ref dc), some (.ref rl), some (.int ((c.length : Nat) : Int)), w5, w6, w7, w8, some (.ref fl), some vo] ∧ Grow N H N4 H8 ∧ H8 dc = some (.dK kvs) ∧ H8 fl = some (.lst (l.map fun k : Nat => V.int (k : Int))) ∧ look c zc = some o ∧ (isO two o).p vo N4 ∧ Chain c zc l' ∧ (∀ l'', Chain c zc l'' → Chain c t.2 (l ++ l'')) ∧ l.length + l'.length ≤ l0.length)
      l0.length ⟨t.2, [], l0, o0, vo, rfl, rfl, B6.g.more s7, s7 _ _ B6.hd, s7 _ _ hf6, ho0, pvo, hl0, fun l'' h => h, by simp⟩ (fun m σ2 H8 ⟨zc, l, l', o, vo, em2, e2, g8, hd8, hf8, hlk, pv8, ch, chs, hll⟩ => ?_) PassesOwn.never
    subst e2
    have hll0 : l0.length ≤ 100 := by have h1 := B4.tr.chain_len hl0; have h2 := B4.len; have h3 := G.n100; omega
    refine ⟨!decide (vo = .non), N4, evt_notN (P := is vo) (by walk_at "nm") is_non, g8.nh, fun ht2 H9 s9 => ?_, fun ht2 H9 s9 => ?_⟩
    · cases o with
      | none =>
        have : vo = .non := pv8
        rw [this] at ht2; cases ht2
      | some pi =>
        obtain ⟨p1, i1⟩ := pi
        have pv8 : (two (p1, i1)).p vo N4 := pv8
        obtain ⟨l1, el1, ch1⟩ : ∃ l1, l' = i1 :: l1 ∧ Chain c p1 l1 := by
          cases ch with
          | root e => rw [hlk] at e; cases e
          | step e k => rw [hlk] at e; cases e; exact ⟨_, rfl, k⟩
        subst el1
        refine b_append (N := N4) (N2 := N4) (P := I (i1 : Int)) (l := fl) (xs := l.map fun k : Nat => V.int (k : Int)) (s9 _ _ hf8) (by rw [List.length_map]; rw [List.length_cons] at hll; omega) (by walk_at "nm") (g8.nh.trans s9) (ev_ixT (Ps := [I (p1 : Int), I (i1 : Int)]) (by walk_at "nm") ev_int rfl) (g8.nh.trans s9) (fun v10 N10 H10 g10 hv10 hf10 => ?_)
        cases hv10
        have hpar := B4.tr.par hlk
        obtain ⟨o1, ho1⟩ : ∃ o, look c p1 = some o := by
          cases q1 : look c p1 with
          | none => exact absurd q1 hpar
          | some o => exact ⟨o, rfl⟩
        obtain ⟨vo1, hvo1, pvo1⟩ := (camep_val (y := p1) B6.pc).1 o1 ho1
        have g11 : Grow N H N4 (upd H10 fl (.lst (l.map (fun k : Nat => V.int (k : Int)) ++ [V.int (i1 : Int)]))) := ((g8.more s9).more g10.hh).put n4f hf0
        have hd11 : (upd H10 fl (.lst (l.map (fun k : Nat => V.int (k : Int)) ++ [V.int (i1 : Int)]))) dc = some (.dK kvs) := by rw [upd_ne df]; exact g10.hh _ _ (s9 _ _ hd8)
        have pv9 := (two (p1, i1)).mono (same_new B4.nd : Same N4 (upd N4 dc (.dK kvs))) pv8
        refine b_asgV (i := 10) (v := vo1) (N := upd N4 dc (.dK kvs)) (ev_dget (P := is vo1) hunit (by walk_at "nm") (ev_ixT (Ps := [I (p1 : Int), I (i1 : Int)]) (by walk_at "nm") ev_int rfl) upd_same hvo1 rfl) (knd _ g11.nh hd11) (fun H12 s12 => b_nil ?_) scWay.nd
        refine ⟨l1.length, by rw [em2, List.length_cons]; omega, p1, l ++ [i1], l1, o1, vo1, rfl, rfl, g11.more s12, s12 _ _ hd11, ?_, ho1, pvo1, ch1, fun l'' h => ?_, by rw [List.length_append]; rw [List.length_cons] at hll; simp; omega⟩
        · rw [s12 _ _ upd_same, List.map_append]; rfl
        · rw [List.append_assoc]
          exact chs _ (.step hlk h)
    · have hvn : vo = .non := by
        cases q1 : decide (vo = .non) with
        | true => exact of_decide_eq_true q1
        | false => rw [q1] at ht2; cases ht2
      have ho : o = none := by
        cases o with
        | none => rfl
        | some pi =>
          have := isT_non _ _ (show (two pi).p vo N4 from pv8)
          rw [hvn] at this; cases this
      subst ho
      have hch := chs [] (.root hlk)
      rw [List.append_nil] at hch
      have pns : (isNs l).p (.ref fl) (upd N4 fl (.lst (l.map fun k : Nat => V.int (k : Int)))) := by
        refine ⟨fl, _, rfl, upd_same, ?_⟩
        have : ∀ (l : List Nat) (H : Hp), Paired (fun v (y : Nat) => (I (y : Int)).p v H) (l.map fun i => V.int (i : Nat)) l := by
          intro l H
          induction l with
          | nil => exact .nil
          | cons x r ih => exact .cons rfl ih
        exact this l _
      exact w_end ((g8.more s9).fix n4f hf0 (s9 _ _ hf8)) (P := exV (fun l : List Nat => ∀ i, i ∈ l ↔ Sep r.2 t i) isNs) (ev_name (i := 9) rfl ⟨l, fun i => B4.tr.way G.forest hch i, pns⟩)
end
end PB
namespace PB
open PySem PySem.Spec PyProof.Rows L2
local macro_rules | `(tactic| walk_at "at") => `(tactic| first | exact at0 _ | exact at1 _ | rfl | assumption)
local macro_rules | `(tactic| walk_at "p") => `(tactic| first | assumption | exact (rfl : (is _).p _ _))
local macro_rules | `(tactic| walk_at "nm") => `(tactic| first
  | exact ev_glob (by assumption) (by first | exact ⟨_, rfl⟩ | rfl)
  | exact ev_nameI (by rfl) rfl (by walk_at "p"))
local macro_rules | `(tactic| walk_at "ev") => `(tactic| first
  | (with_reducible show Ev _ (PySem.Expr.Constant _ _ _) _ _ _); first | exact ev_int | exact ev_non | exact ev_bool | exact ev_str
  | (with_reducible show Ev _ (PySem.Expr.Name _ _) _ _ _); walk_at "nm"
  | (with_reducible show Ev _ (PySem.Expr.Subscript _ _ _) _ _ _); first | exact ev_ixT (by walk_at "ev") (by walk_at "ev") (by walk_at "at") | exact ev_ixL (by walk_at "ev") (by walk_at "ev") (by walk_at "at")
  | (with_reducible show Ev _ (PySem.Expr.Tuple _ _ _) _ _ _); exact ev_tup (by walk_at "ea")
  | (with_reducible show Ev _ (PySem.Expr.UnaryOp PySem.UnaryOp.USub _ _) _ _ _); exact ev_neg (by walk_at "ev")
  | (with_reducible show Ev _ (PySem.Expr.Compare _ [PySem.CmpOp.Eq] _ _) _ _ _); exact ev_eqI (by walk_at "ev") (by walk_at "ev")
  | (with_reducible show Ev _ (PySem.Expr.Compare _ [PySem.CmpOp.NotEq] _ _) _ _ _); exact ev_neI (by walk_at "ev") (by walk_at "ev"))
local macro_rules | `(tactic| walk_at "ea") => `(tactic| first
  | (with_reducible show EvA _ [] _ _ _); exact ea_nil
  | exact ea_cons (by walk_at "ev") (by walk_at "ea"))
local macro_rules | `(tactic| walk_at "et") => `(tactic| first
  | (with_reducible show EvT _ (PySem.Expr.Compare _ [PySem.CmpOp.Eq] _ _) _ _ _); exact evt_eqI (by walk_at "ev") (by walk_at "ev")
  | (with_reducible show EvT _ (PySem.Expr.Compare _ [PySem.CmpOp.NotEq] _ _) _ _ _); exact evt_neI (by walk_at "ev") (by walk_at "ev")
  | (with_reducible show EvT _ (PySem.Expr.Compare _ [PySem.CmpOp.Lt] _ _) _ _ _); exact evt_ltI (by walk_at "ev") (by walk_at "ev")
  | (with_reducible show EvT _ (PySem.Expr.Compare _ [PySem.CmpOp.LtE] _ _) _ _ _); exact evt_leI (by walk_at "ev") (by walk_at "ev")
  | (with_reducible show EvT _ (PySem.Expr.Compare _ [PySem.CmpOp.Gt] _ _) _ _ _); exact evt_gtI (by walk_at "ev") (by walk_at "ev")
  | (with_reducible show EvT _ (PySem.Expr.Compare _ [PySem.CmpOp.GtE] _ _) _ _ _); exact evt_geI (by walk_at "ev") (by walk_at "ev"))
/-! ### Run.needed -/
/-- what waits: a list (true) or a tuple of two -/
def eV (e : Bool × (Nat × Nat)) : VP := if e.1 = true then isNs [e.2.1, e.2.2] else two e.2
def eD (e : Bool × (Nat × Nat)) : PyData := if e.1 = true then .list [.int (e.2.1 : Int), .int (e.2.2 : Int)] else twoD e.2
theorem eV_two (e : Bool × (Nat × Nat)) : Twoish (eV e) e.2 := by
  unfold eV
  split
  · exact .inr rfl
  · exact .inl rfl
theorem isd_eV (e : Bool × (Nat × Nat)) : IsD (eV e) (eD e) := by
  unfold eV eD
  split
  · exact isd_lst (R := fun n : Nat => I (n : Int)) (f := fun n : Nat => PyData.int (n : Int)) (fun a => isd_int) (l := [e.2.1, e.2.2])
  · exact isd_two e.2
theorem flat_eD (e : Bool × (Nat × Nat)) : Flat 2 (eD e) := by
  unfold eD
  split
  · exact flat_lst (k := 1) fun d hd => by
      rcases List.mem_cons.mp hd with rfl | hd
      · exact flat_int
      · rcases List.mem_cons.mp hd with rfl | hd
        · exact flat_int
        · cases hd
  · exact flat_two e.2
abbrev sNeeded : Stmt := inClass (top 21) 5
theorem scNeeded : FnScope ["self", "two", "found", "waiting", "number"] ["self", "two"] (defScope sNeeded) := ⟨rfl, rfl, rfl, by decide +kernel, rfl, by decide +kernel, by decide +kernel⟩
def RNeeded (CJ CG CR : Addr) : List VP → VP → Prop := fun Ps P => ∃ evs r q t n, Ps = [run CJ CG CR evs r, q] ∧ (q = two t ∨ q = isNs [t.1, t.2]) ∧ GoodJ n r.2 ∧ t.1 < n ∧ Conn r.2 (fun _ => True) t.1 t.2 ∧ P = isNs (mNeeded r.2 t)
section
variable {X : Cx} {a : Expr} {pos p : Pos} {σ : L2.St} {N : Hp}
theorem evt_neNil {α : Type} {R : α → VP} {l : List α} {f : α → PyData} {k : Nat} (hu : X.A.units + 64 < cLine) (ha : Ev X a σ N (isL R l)) (h1 : ∀ a, IsD (R a) (f a)) (h2 : ∀ a, Flat k (f a)) (hk : k < 64) : EvT X (.Compare a [.NotEq] [.List [] p] pos) σ N (!l.isEmpty) := by
  refine (evt_neD (d := .list (l.map f)) (d2 := .list []) hu ha (ev_lst (R := I) (l := []) ea_nil .nil) (isd_lst h1) (by have := isd_lst (R := I) (f := PyData.int) (fun a => isd_int) (l := []); exact this) (flat_shaped (flat_lst (k := k) fun d hd => ?_) hk) (flat_shaped (flat_lst (k := 1) fun d hd => by cases hd) (by decide))).to ?_
  · obtain ⟨y, _, rfl⟩ := List.mem_map.mp hd
    exact h2 y
  · rw [eqv_nil]
    cases l <;> rfl
end
/-- the numbers found and what waits, in the words of the joins -/
structure NSt (js : List MJ) (n : Nat) (t : Nat × Nat) (fs : List Nat) (W : List (Bool × (Nat × Nat))) (Pd : List (Nat × Nat)) : Prop where
  nd : fs.Nodup
  snd : ∀ i ∈ fs, Need js t i
  ws : ∀ e ∈ W, (∀ i, Need js e.2 i → Need js t i) ∧ Conn js (fun _ => True) e.2.1 e.2.2 ∧ e.2.1 < n
  pd : ∀ s ∈ Pd, ∀ i, Sep js s i → i ∈ fs
  st : t ∈ Pd ∨ ∃ e ∈ W, e.2 = t
  cl : ∀ k ∈ fs, ∀ j, js[k]? = some j → ∀ s ∈ j.needs, s ∈ Pd ∨ ∃ e ∈ W, e.2 = s
abbrev FoundP (kvs : List (Key × V)) (fs : List Nat) : Prop := kvs.map (·.1) = fs.map fun k : Nat => (Sum.inl (k : Int) : Key)
theorem found_none {kvs : List (Key × V)} {fs : List Nat} (h : FoundP kvs fs) {k : Nat} : (valV kvs (Sum.inl (k : Int))).isSome = decide (k ∈ fs) := by
  rw [← valV_any]
  by_cases hk : k ∈ fs
  · rw [decide_eq_true hk, List.any_eq_true]
    have : (Sum.inl (k : Int) : Key) ∈ kvs.map (·.1) := by rw [h]; exact List.mem_map.mpr ⟨k, hk, rfl⟩
    obtain ⟨kv, h1, h2⟩ := List.mem_map.mp this
    exact ⟨kv, h1, decide_eq_true h2⟩
  · rw [decide_eq_false hk]
    cases q : kvs.any (fun kv => decide (kv.1 = (Sum.inl (k : Int) : Key))) with
    | false => rfl
    | true =>
      obtain ⟨kv, h1, h2⟩ := List.any_eq_true.mp q
      have : (Sum.inl (k : Int) : Key) ∈ kvs.map (·.1) := List.mem_map.mpr ⟨kv, h1, of_decide_eq_true h2⟩
      rw [h] at this
      obtain ⟨k', h3, h4⟩ := List.mem_map.mp this
      have : k' = k := Int.ofNat.inj (Sum.inl.inj h4)
      rw [this] at h3
      exact absurd h3 hk
theorem paired_last {α β : Type} {F : α → β → Prop} {xs : List α} {ys : List β} (h : Paired F xs ys) (hy : ys ≠ []) : ∃ x y, xs[xs.length - 1]? = some x ∧ ys[ys.length - 1]? = some y ∧ F x y ∧ ys = ys.dropLast ++ [y] := by
  have hl : ys.length - 1 < ys.length := by
    cases ys with
    | nil => exact absurd rfl hy
    | cons a r => simp
  obtain ⟨x, hx, f⟩ := paired_get h (List.getElem?_eq_getElem hl)
  refine ⟨x, _, by rw [paired_len h]; exact hx, List.getElem?_eq_getElem hl, f, ?_⟩
  have := List.dropLast_concat_getLast hy
  rw [List.getLast_eq_getElem] at this
  exact this.symm
theorem paired_dropLast {α β : Type} {F : α → β → Prop} : ∀ {xs : List α} {ys : List β}, Paired F xs ys → Paired F xs.dropLast ys.dropLast
  | _, _, .nil => .nil
  | _, _, .cons _ .nil => .nil
  | _, _, .cons r (.cons r2 t) => .cons r (paired_dropLast (.cons r2 t))
section
variable {P : Program} {w : World} {K : PySem.W.Frag} {mg : Str → Option Value} {base : Heap} {CJ CG CR CK : Addr} {f : Addr} {fd : FuncData}
theorem ok_needed (F : Fun K "needed" "Run.needed" sNeeded f fd) (T : Txt K mg CJ CG CR CK) (MW : MF P w K mg base CX0 1 CR "way" ["self", "two"] (Pure (RWay CJ CG CR))) : FnOk P w K mg base CX0 2 f fd ["self", "two"] (Pure (RNeeded CJ CG CR)) := by
  refine pure_ok F scNeeded (fun Ps P h => by obtain ⟨a, b, c, d, e, rfl, _⟩ := h; rfl) fun cdv A outer s H0 E hr vs Ps P' N H h sm p => ?_
  obtain ⟨evs, r, q, t, n, rfl, hq, G, htn, hcon, rfl⟩ := h
  obtain ⟨v, v2, rfl, hv, hv2⟩ := paired2 p
  have hlen := T.nlen
  have hunit : (A.deeper (envOfC "Run.needed" (defScope sNeeded) s.heap.objs.size f cdv)).units + 1 < cLine := hu_of hr
  obtain ⟨e0, he0, he0t⟩ : ∃ e0 : Bool × (Nat × Nat), eV e0 = q ∧ e0.2 = t := by
    rcases hq with rfl | rfl
    · exact ⟨(false, t), rfl, rfl⟩
    · exact ⟨(true, t), rfl, rfl⟩
  refine b_asgD0 (n := 2) (fun dc H1 hdc s1 hd1 => ?_) scNeeded.nd
  refine b_asgM1 (n := 3) (P := q) (N := N) (by walk_at "nm") (sm.trans s1) (fun wl w1 N1 H2a H2 hwl nwl g1 pw s2 s2' hw2 => ?_) scNeeded.nd
  have g1' : Grow N H N1 H2 := ((Grow.keep sm s1).trans g1).more s2
  have n1d : N1 dc = none := g1.nw dc (sm.free hdc) (by rw [hd1]; simp)
  have hwl0 : H wl = none := s1.free hwl
  have dw : dc ≠ wl := fun z => by rw [← z, hd1] at hwl; cases hwl
  have w0 : ∀ i, Need r.2 e0.2 i → Need r.2 t i := fun i h => by rw [he0t] at h; exact h
  refine b_while (fun m σ1 H4 => ∃ N4 kvs fs ws W Pd w4, m = 3 * (r.2.length - fs.length) + W.length ∧ σ1 = [some v, some v2, some (.ref dc), some (.ref wl), w4] ∧ Grow N H N4 H4 ∧ N4 dc = none ∧ N4 wl = none ∧ H4 dc = some (.dK kvs) ∧ H4 wl = some (.lst ws) ∧ FoundP kvs fs ∧ Paired (fun v e => (eV e).p v N4) ws W ∧ NSt r.2 n t fs W Pd ∧ W.length ≤ 1 + 2 * fs.length)
    (3 * r.2.length + 1) ⟨N1, [], [], [w1], [e0], [], none, by simp, rfl, g1', n1d, nwl, s2 _ _ (g1.hh _ _ hd1), hw2, rfl, .cons (by rw [he0]; exact pw) .nil, ⟨List.nodup_nil, fun i h => (nomatch h), fun e he => by
      have : e = e0 := by simpa using he
      subst this
      exact ⟨w0, by rw [he0t]; exact hcon, by rw [he0t]; exact htn⟩, fun s h => (nomatch h), .inr ⟨e0, by simp, he0t⟩, fun k h => (nomatch h)⟩, by show 1 ≤ 1 + 2 * 0; decide⟩ (fun m σ1 H4 ⟨N4, kvs, fs, ws, W, Pd, w4, em, e, g4, n4d, n4w, h4d, h4w, hfk, pws, S, hW⟩ => ?_) PassesOwn.never
  subst e
  have kn : Same (upd N4 wl (.lst ws)) H4 := same_put g4.nh h4w
  have pwl : (isL eV W).p (.ref wl) (upd N4 wl (.lst ws)) := ⟨wl, ws, rfl, upd_same, paired_mono pws fun v e z => (eV e).mono (same_new n4w) z⟩
  refine ⟨!W.isEmpty, _, evt_neNil (R := eV) (f := eD) (units_of hr) (ev_name (i := 3) rfl pwl) isd_eV flat_eD (by decide), kn, fun ht H5 s5 => ?_, fun ht H5 s5 => ?_⟩
  · have hne : W ≠ [] := fun z => by rw [z] at ht; cases ht
    obtain ⟨u, e, hu, he, pu, eW⟩ := paired_last pws hne
    have heW : e ∈ W := List.mem_of_getElem? he
    obtain ⟨ws1, ws2, ws3⟩ := S.ws e heW
    have hv4 := (run CJ CG CR evs r).mono g4.nn hv
    refine b_forPop (g := gName 4) (φ := fun l : List Nat => ∀ i, i ∈ l ↔ Sep r.2 e.2 i) (R := fun n : Nat => I (n : Int)) (N := N4) (N2 := N4) (xs := ws) (v := u) (Pv := eV e) (w := wl) MW T.rC (hr.mono (by decide)) (s5 _ _ h4w) hu (fs := runF CJ CG evs r) (by walk_at "nm") (lkR_m (by decide +kernel) (by decide +kernel) (by decide +kernel)) (g4.nh.trans s5) n4w (by walk_at "nm") (g4.nh.trans s5) pu ⟨evs, r, _, e.2, n, rfl, eV_two e, G, ws3, ws2, rfl⟩
      (fun l N0 i σ2 N8 H8 => ∃ kvs8 fs8 ws8 W8 w8, σ2 = [some v, some v2, some (.ref dc), some (.ref wl), w8] ∧ Grow N H N8 H8 ∧ N8 dc = none ∧ N8 wl = none ∧ H8 dc = some (.dK kvs8) ∧ H8 wl = some (.lst ws8) ∧ FoundP kvs8 fs8 ∧ Paired (fun v e => (eV e).p v N8) ws8 W8 ∧ fs8.Nodup ∧ (∀ i ∈ fs8, Need r.2 t i) ∧ (∀ e ∈ W8, (∀ i, Need r.2 e.2 i → Need r.2 t i) ∧ Conn r.2 (fun _ => True) e.2.1 e.2.2 ∧ e.2.1 < n) ∧
        (∀ i ∈ fs, i ∈ fs8) ∧ (∀ k ∈ l.take i, k ∈ fs8) ∧ (∀ e ∈ W.dropLast, e ∈ W8) ∧ (∀ k ∈ fs8, ∀ j, r.2[k]? = some j → ∀ s ∈ j.needs, s ∈ Pd ∨ s = e.2 ∨ ∃ e ∈ W8, e.2 = s) ∧ 3 * (r.2.length - fs8.length) + W8.length < m ∧ W8.length ≤ 1 + 2 * fs8.length) ?_ ?_ ?_ PassesOwn.never rfl (pg_name scNeeded.nd rfl (Or.inl rfl))
    · intro l hl N0 H6 sN sH hoth hw6 nw6
      have g5 := g4.more s5
      have g6 : Grow N H N0 H6 := ⟨fun b o e => hoth b o (ne_of_none e hwl0) (g5.hh b o e), g5.nn.trans sN, sH, fun b hb hk => nw6 b (g5.nw b hb hk) (same_dom g5.hh b hk)⟩
      have hWl : W.length = W.dropLast.length + 1 := by
        have := congrArg List.length eW
        rw [List.length_append] at this
        exact this
      refine ⟨kvs, fs, ws.dropLast, W.dropLast, w4, rfl, g6, nw6 dc n4d (by rw [s5 _ _ h4d]; simp), nw6 wl n4w (by rw [s5 _ _ h4w]; simp), hoth dc _ dw (s5 _ _ h4d), hw6, hfk, paired_dropLast (paired_mono pws fun v e z => (eV e).mono sN z), S.nd, S.snd, fun e' he' => S.ws e' (List.dropLast_subset W he'), fun i h => h, fun k h => by simp at h, fun e' h => h, fun k hk j hj s hs => ?_, by rw [em]; omega, by omega⟩
      rcases S.cl k hk j hj s hs with h | ⟨e', h1, h2⟩
      · exact .inl h
      · rw [eW] at h1
        rcases List.mem_append.mp h1 with h3 | h3
        · exact .inr (.inr ⟨e', h3, h2⟩)
        · have : e' = e := by simpa using h3
          exact .inr (.inl (by rw [← h2, this]))
    · rintro l hl N0 i y vv σ2 N8 H8 sN0 hi s08 s88 ⟨kvs8, fs8, ws8, W8, w8, e2, g8, n8d, n8w, h8d, h8w, hfk8, pw8, c1, c2, c3, c4, c5, c6, c7, c8, c9⟩ hu8
      subst e2
      cases hu8
      have hsep : Sep r.2 e.2 y := (hl y).mp (List.mem_of_getElem? hi)
      have hylt : y < r.2.length := hsep.1
      have hjy : r.2[y]? = some r.2[y] := List.getElem?_eq_getElem hsep.1
      have hv8 := (run CJ CG CR evs r).mono g8.nn hv
      have hfl : fs8.length ≤ r.2.length := nodup_len r.2.length fs8 c1 fun i hi => (c2 i hi).lt
      have hG := G.len
      have hjm : r.2[y] ∈ r.2 := List.getElem_mem hsep.1
      have okj := G.ok _ hjm
      have hat := at_ix hjy
      show bB _ _ _ _ _
      refine b_when (t := !(valV kvs8 (Sum.inl (y : Int))).isSome) (evt_dnotin (N := upd N8 dc (.dK kvs8)) hunit (by walk_at "nm") (by walk_at "nm") upd_same) (same_put s88 h8d) (fun h2 H9 s9 => ?_) (fun h2 H9 s9 => b_nil ⟨N8, s08, s88.trans s9, kvs8, fs8, ws8, W8, _, rfl, g8.more s9, n8d, n8w, s9 _ _ h8d, s9 _ _ h8w, hfk8, pw8, c1, c2, c3, c4, fun k hk => ?_, c6, c7, c8, c9⟩)
      · rw [found_none hfk8] at h2
        have hy : y ∉ fs8 := fun z => by rw [decide_eq_true z] at h2; cases h2
        have hval : valV kvs8 (Sum.inl (y : Int)) = none := by
          have := found_none hfk8 (k := y)
          rw [decide_eq_false hy] at this
          cases q1 : valV kvs8 (Sum.inl (y : Int)) with
          | none => rfl
          | some o => rw [q1] at this; cases this
        have hkl : kvs8.length < 1000000 := by
          have := congrArg List.length hfk8
          rw [List.length_map, List.length_map] at this
          omega
        refine b_dput (N := N8) (N2 := N8) (N3 := N8) (P := B true) (kvs := kvs8) hunit (s9 _ _ h8d) hkl (by walk_at "nm") (s88.trans s9) (by walk_at "nm") (s88.trans s9) ev_bool (s88.trans s9) (fun v10 N10 H10 g10 hv10 h10d => ?_)
        rw [putK_new v10 hval]
        have n10d := g10.nw dc n8d (by rw [s9 _ _ h8d]; simp)
        have n10w := g10.nw wl n8w (by rw [s9 _ _ h8w]; simp)
        have g10' : Grow N H N10 H10 := (g8.more s9).trans g10
        have g11 : Grow N H N10 (upd H10 dc (.dK (kvs8 ++ [(Sum.inl (y : Int), v10)]))) := g10'.put n10d hdc
        have h11w : (upd H10 dc (.dK (kvs8 ++ [(Sum.inl (y : Int), v10)]))) wl = some (.lst ws8) := by rw [upd_ne (Ne.symm dw)]; exact g10.hh _ _ (s9 _ _ h8w)
        have hv10' := (run CJ CG CR evs r).mono g10.nn hv8
        have hwl8 : ws8.length = W8.length := paired_len pw8
        have hnl := okj.2.2
        refine b_extend (N := N10) (N2 := N10) (S := two) (m := r.2[y].needs) (l := wl) (xs := ws8) h11w (by omega) (by walk_at "nm") g11.nh (ev_fld T.jC T.jneeds (fs := joinF r.2[y]) (ev_ixL (R := join CJ) (ev_fld T.rC T.rjoins (fs := runF CJ CG evs r) (by walk_at "nm") lkR_joins) (by walk_at "nm") hat) lkJ_needs) g11.nh (fun ys N12 H12 g12 py h12w => b_nil (b_nil ?_))
        have n12d := g12.nw dc n10d (by rw [upd_same]; simp)
        have n12w := g12.nw wl n10w (by rw [h11w]; simp)
        have gfin : Grow N H N12 (upd H12 wl (.lst (ws8 ++ ys))) := (g11.trans g12).put n12w hwl0
        have pys : Paired (fun v e => (eV e).p v N12) ys (r.2[y].needs.map fun s => (false, s)) := by
          have : ∀ {ys : List V} {l : List (Nat × Nat)}, Paired (fun v s => (two s).p v N12) ys l → Paired (fun v e => (eV e).p v N12) ys (l.map fun s => (false, s)) := by
            intro ys l h
            induction h with
            | nil => exact .nil
            | cons r _ ih => exact .cons r ih
          exact this py
        refine ⟨N12, (s08.trans g10.nn).trans g12.nn, gfin.nh, kvs8 ++ [(Sum.inl (y : Int), v10)], fs8 ++ [y], ws8 ++ ys, W8 ++ r.2[y].needs.map (fun s => (false, s)), _, rfl, gfin, n12d, n12w, by rw [upd_ne dw]; exact g12.hh _ _ upd_same, upd_same, ?_, paired_app (paired_mono pw8 fun v e z => (eV e).mono (g10.nn.trans g12.nn) z) pys, ?_, ?_, ?_, fun i h => List.mem_append.mpr (.inl (c4 i h)), ?_, fun e' h => List.mem_append.mpr (.inl (c6 e' h)), ?_, ?_, ?_⟩
        · show (kvs8 ++ [_]).map _ = _
          rw [List.map_append, List.map_append, hfk8]
          rfl
        · rw [List.nodup_append]
          exact ⟨c1, by simp, fun a ha b hb e => hy (by have : b = y := (by simpa using hb); rw [← this, ← e]; exact ha)⟩
        · intro i hi'
          rcases List.mem_append.mp hi' with h | h
          · exact c2 i h
          · have : i = y := by simpa using h
            rw [this]; exact ws1 y (.way hsep)
        · intro e' he'
          rcases List.mem_append.mp he' with h | h
          · exact c3 e' h
          · obtain ⟨s, hs, rfl⟩ := List.mem_map.mp h
            exact ⟨fun i hn => ws1 i (.deep hsep hjy hs hn), G.conn _ hjm s hs, (okj.2.1 s hs).1⟩
        · intro k hk
          rw [take_more hi] at hk
          rcases List.mem_append.mp hk with h | h
          · exact List.mem_append.mpr (.inl (c5 k h))
          · exact List.mem_append.mpr (.inr h)
        · intro k hk j hj s hs
          rcases List.mem_append.mp hk with h | h
          · rcases c7 k h j hj s hs with h1 | h1 | ⟨e', h1, h2⟩
            · exact .inl h1
            · exact .inr (.inl h1)
            · exact .inr (.inr ⟨e', List.mem_append.mpr (.inl h1), h2⟩)
          · have : k = y := by simpa using h
            subst this
            rw [hjy] at hj
            cases hj
            exact .inr (.inr ⟨(false, s), List.mem_append.mpr (.inr (List.mem_map.mpr ⟨s, hs, rfl⟩)), rfl⟩)
        · have h1 : (fs8 ++ [y]).length ≤ r.2.length := nodup_len r.2.length _ (by
            rw [List.nodup_append]
            exact ⟨c1, by simp, fun a ha b hb e => hy (by have : b = y := (by simpa using hb); rw [← this, ← e]; exact ha)⟩) fun i hi' => by
            rcases List.mem_append.mp hi' with h | h
            · exact (c2 i h).lt
            · have : i = y := by simpa using h
              rw [this]; exact hsep.1
          rw [List.length_append] at h1 ⊢
          rw [List.length_append, List.length_map]
          have e1 : [y].length = 1 := rfl
          rw [e1] at h1 ⊢
          omega
        · rw [List.length_append, List.length_map, List.length_append]
          have e1 : [y].length = 1 := rfl
          rw [e1]
          omega
      · rw [found_none hfk8] at h2
        rw [take_more hi] at hk
        rcases List.mem_append.mp hk with h | h
        · exact c5 k h
        · have : k = y := by simpa using h
          rw [this]
          by_cases hy : y ∈ fs8
          · exact hy
          · rw [decide_eq_false hy] at h2; cases h2
    · rintro l hl N0 σ2 N8 H8 sN0 s08 s88 ⟨kvs8, fs8, ws8, W8, w8, e2, g8, n8d, n8w, h8d, h8w, hfk8, pw8, c1, c2, c3, c4, c5, c6, c7, c8, c9⟩
      subst e2
      rw [List.take_length] at c5
      refine b_nil ⟨_, c8, N8, kvs8, fs8, ws8, W8, e.2 :: Pd, _, rfl, rfl, g8, n8d, n8w, h8d, h8w, hfk8, pw8, ⟨c1, c2, c3, fun s hs i hi => ?_, ?_, fun k hk j hj s hs => ?_⟩, c9⟩
      · rcases List.mem_cons.mp hs with rfl | hs
        · exact c5 i ((hl i).mpr hi)
        · exact c4 i (S.pd s hs i hi)
      · rcases S.st with h | ⟨e', h1, h2⟩
        · exact .inl (List.mem_cons.mpr (.inr h))
        · rw [eW] at h1
          rcases List.mem_append.mp h1 with h3 | h3
          · exact .inr ⟨e', c6 e' h3, h2⟩
          · have : e' = e := by simpa using h3
            exact .inl (List.mem_cons.mpr (.inl (by rw [← h2, this])))
      · rcases c7 k hk j hj s hs with h1 | h1 | h1
        · exact .inl (List.mem_cons.mpr (.inr h1))
        · exact .inl (List.mem_cons.mpr (.inl h1))
        · exact .inr h1
  · have hW0 : W = [] := by
      cases W with
      | nil => rfl
      | cons a r => cases ht
    subst hW0
    have hall : ∀ i, i ∈ fs ↔ Need r.2 t i := fun i => ⟨S.snd i, fun h => need_all S.pd (fun k hk j hj s hs => by
      rcases S.cl k hk j hj s hs with h | ⟨e, h, _⟩
      · exact h
      · cases h) h (by
      rcases S.st with h | ⟨e, h, _⟩
      · exact h
      · cases h)⟩
    have hperm := perm_needed S.nd hall
    refine w_end (g4.more s5 |>.fix n4d hdc (s5 _ _ h4d)) (P := isI ((mNeeded r.2 t).map fun k : Nat => (k : Int))) (ev_sortedD (kvs := kvs) (ad := dc) (ks := fs.map fun k : Nat => (k : Int)) rfl T.nsorted (ev_name (i := 2) rfl ⟨rfl, upd_same⟩) (by rw [hfk, List.map_map]; rfl) ?_ ?_) ?_
    · rw [List.length_map]
      have h1 := nodup_len r.2.length fs S.nd fun i hi => (S.snd i hi).lt
      have := G.len
      omega
    · intro ys h1 h2
      refine PySem.W.ksm_same (h1.trans (hperm.map _)) h2 ?_
      exact List.pairwise_map.mpr ((needed_asc r.2 t).imp fun h => by omega)
    · exact isL_map
end
end PB
namespace PB
open PySem PySem.Spec PyProof.Rows L2
local macro_rules | `(tactic| walk_at "at") => `(tactic| first | exact at0 _ | exact at1 _ | rfl | assumption)
local macro_rules | `(tactic| walk_at "p") => `(tactic| first | assumption | exact (rfl : (is _).p _ _))
local macro_rules | `(tactic| walk_at "nm") => `(tactic| first
  | exact ev_glob (by assumption) (by first | exact ⟨_, rfl⟩ | rfl)
  | exact ev_nameI (by rfl) rfl (by walk_at "p"))
local macro_rules | `(tactic| walk_at "ev") => `(tactic| first
  | (with_reducible show Ev _ (PySem.Expr.Constant _ _ _) _ _ _); first | exact ev_int | exact ev_non | exact ev_bool | exact ev_str
  | (with_reducible show Ev _ (PySem.Expr.Name _ _) _ _ _); walk_at "nm"
  | (with_reducible show Ev _ (PySem.Expr.Subscript _ _ _) _ _ _); first | exact ev_ixT (by walk_at "ev") (by walk_at "ev") (by walk_at "at") | exact ev_ixL (by walk_at "ev") (by walk_at "ev") (by walk_at "at")
  | (with_reducible show Ev _ (PySem.Expr.Tuple _ _ _) _ _ _); exact ev_tup (by walk_at "ea")
  | (with_reducible show Ev _ (PySem.Expr.UnaryOp PySem.UnaryOp.USub _ _) _ _ _); exact ev_neg (by walk_at "ev")
  | (with_reducible show Ev _ (PySem.Expr.Compare _ [PySem.CmpOp.Eq] _ _) _ _ _); exact ev_eqI (by walk_at "ev") (by walk_at "ev")
  | (with_reducible show Ev _ (PySem.Expr.Compare _ [PySem.CmpOp.NotEq] _ _) _ _ _); exact ev_neI (by walk_at "ev") (by walk_at "ev"))
local macro_rules | `(tactic| walk_at "ea") => `(tactic| first
  | (with_reducible show EvA _ [] _ _ _); exact ea_nil
  | exact ea_cons (by walk_at "ev") (by walk_at "ea"))
local macro_rules | `(tactic| walk_at "et") => `(tactic| first
  | (with_reducible show EvT _ (PySem.Expr.Compare _ [PySem.CmpOp.Eq] _ _) _ _ _); exact evt_eqI (by walk_at "ev") (by walk_at "ev")
  | (with_reducible show EvT _ (PySem.Expr.Compare _ [PySem.CmpOp.NotEq] _ _) _ _ _); exact evt_neI (by walk_at "ev") (by walk_at "ev")
  | (with_reducible show EvT _ (PySem.Expr.Compare _ [PySem.CmpOp.Lt] _ _) _ _ _); exact evt_ltI (by walk_at "ev") (by walk_at "ev")
  | (with_reducible show EvT _ (PySem.Expr.Compare _ [PySem.CmpOp.LtE] _ _) _ _ _); exact evt_leI (by walk_at "ev") (by walk_at "ev")
  | (with_reducible show EvT _ (PySem.Expr.Compare _ [PySem.CmpOp.Gt] _ _) _ _ _); exact evt_gtI (by walk_at "ev") (by walk_at "ev")
  | (with_reducible show EvT _ (PySem.Expr.Compare _ [PySem.CmpOp.GtE] _ _) _ _ _); exact evt_geI (by walk_at "ev") (by walk_at "ev"))
/-! ### run_of, with_same, verdict, is_so, core -/
theorem mRunFrom_len {every : List MJ} : ∀ (k : Nat) (g : List Nat) (l : List MJ), (mRunFrom every k g l).1.length = g.length
  | 0, g, l => rfl
  | k + 1, g, l => by
    cases e : every.find? (cond g) with
    | none => rw [mRunFrom_none e]
    | some j => rw [mRunFrom_some e, mRunFrom_len k, united_len]
theorem mRun_len (n : Nat) (evs : List Piece) : (mRun n evs).1.length = n := by unfold mRun; rw [mRunFrom_len, List.length_range]
abbrev sRunOf : Stmt := top 22
theorem scRunOf : FnScope ["many", "pieces"] ["many", "pieces"] (defScope sRunOf) := ⟨rfl, rfl, rfl, by decide +kernel, rfl, by decide +kernel, by decide +kernel⟩
def RRunOf (CJ CG CR : Addr) : List VP → VP → Prop := fun Ps P => ∃ n evs, Ps = [I ((n : Nat) : Int), isL piece evs] ∧ n ≤ 100 ∧ evs.length ≤ 100 ∧ okEvs n evs ∧ P = run CJ CG CR evs (mRun n evs)
abbrev sSame : Stmt := top 25
theorem scSame : FnScope ["many", "pieces", "two"] ["many", "pieces", "two"] (defScope sSame) := ⟨rfl, rfl, rfl, by decide +kernel, rfl, by decide +kernel, by decide +kernel⟩
def withSame (evs : List Piece) (t : Nat × Nat) : List Piece := evs ++ [.same t.1 t.2]
def RSame (CJ CG CR : Addr) : List VP → VP → Prop := fun Ps P => ∃ n evs q t, Ps = [I ((n : Nat) : Int), isL piece evs, q] ∧ Twoish q t ∧ okTwo n t ∧ n ≤ 100 ∧ evs.length ≤ 99 ∧ okEvs n evs ∧ P = run CJ CG CR (withSame evs t) (mRun n (withSame evs t))
abbrev sVerd : Stmt := top 23
theorem scVerd : FnScope ["many", "pieces", "two", "run"] ["many", "pieces", "two"] (defScope sVerd) := ⟨rfl, rfl, rfl, by decide +kernel, rfl, by decide +kernel, by decide +kernel⟩
def mVerdict (n : Nat) (evs : List Piece) (t : Nat × Nat) : Int := if (mClash evs (mRun n evs).1).isSome = true then 0 else if Vbkoab.one (mRun n evs).1 t.1 t.2 = true then 1 else if (mClash (withSame evs t) (mRun n (withSame evs t)).1).isSome = true then 2 else 3
def RVerd : List VP → VP → Prop := fun Ps P => ∃ n evs q t, Ps = [I ((n : Nat) : Int), isL piece evs, q] ∧ Twoish q t ∧ okTwo n t ∧ n ≤ 100 ∧ evs.length ≤ 99 ∧ okEvs n evs ∧ P = I (mVerdict n evs t)
abbrev sIsSo : Stmt := top 29
theorem scIsSo : FnScope ["many", "pieces", "two", "run"] ["many", "pieces", "two"] (defScope sIsSo) := ⟨rfl, rfl, rfl, by decide +kernel, rfl, by decide +kernel, by decide +kernel⟩
def mSo (n : Nat) (evs : List Piece) : Option (Nat × Nat) → Bool
  | none => (mClash evs (mRun n evs).1).isSome
  | some t => Vbkoab.one (mRun n evs).1 t.1 t.2
/-- none, or a list of two -/
def optTwo : Option (Nat × Nat) → VP
  | none => N_
  | some t => isNs [t.1, t.2]
def okOpt (n : Nat) : Option (Nat × Nat) → Prop
  | none => True
  | some t => okTwo n t
def RIsSo : List VP → VP → Prop := fun Ps P => ∃ n evs o, Ps = [I ((n : Nat) : Int), isL piece evs, optTwo o] ∧ okOpt n o ∧ n ≤ 100 ∧ evs.length ≤ 100 ∧ okEvs n evs ∧ P = B (mSo n evs o)
abbrev sCore : Stmt := top 30
theorem scCore : FnScope ["many", "pieces", "two", "kept", "number", "fewer", "one"] ["many", "pieces", "two"] (defScope sCore) := ⟨rfl, rfl, rfl, by decide +kernel, rfl, by decide +kernel, by decide +kernel⟩
def mCore (n : Nat) (evs : List Piece) (o : Option (Nat × Nat)) : Option (List Nat) := if mSo n evs o = true then some (Vbkoab.core evs fun es => mSo n es o) else none
def RCore : List VP → VP → Prop := fun Ps P => ∃ n evs o, Ps = [I ((n : Nat) : Int), isL piece evs, optTwo o] ∧ okOpt n o ∧ n ≤ 100 ∧ evs.length ≤ 100 ∧ okEvs n evs ∧ P = isO isNs (mCore n evs o)
theorem optTwo_non {o : Option (Nat × Nat)} : ∀ v N, (optTwo o).p v N → decide (v = .non) = o.isNone := by
  intro v N h
  cases o with
  | none => have h : v = .non := h; subst h; rfl
  | some t => exact isL_non v N h
section
variable {P : Program} {w : World} {K : PySem.W.Frag} {mg : Str → Option Value} {base : Heap} {CJ CG CR CK : Addr} {f : Addr} {fd : FuncData}
theorem ok_runOf (F : Fun K "run_of" "run_of" sRunOf f fd) (MR : CF P w K mg base CX0 5 "Run" CR ["self", "many", "pieces"] (Init CR (RRInit CJ CG))) : FnOk P w K mg base CX0 7 f fd ["many", "pieces"] (Pure (RRunOf CJ CG CR)) := by
  refine pure_ok F scRunOf (fun Ps P h => by obtain ⟨a, b, rfl, _⟩ := h; rfl) fun cdv A outer s H0 E hr vs Ps P' N H h sm p => ?_
  obtain ⟨n, evs, rfl, hn, hl, hok, rfl⟩ := h
  obtain ⟨v, v2, rfl, hv, hv2⟩ := paired2 p
  exact w_end (.refl sm) (P := isIns CR (runF CJ CG evs (mRun n evs))) (ev_make MR hr (ea_cons (P := I (n : Int)) (by walk_at "nm") (ea_cons (P := isL piece evs) (by walk_at "nm") ea_nil)) ⟨n, evs, rfl, hn, hl, hok, rfl⟩) rfl
theorem okEvs_same {n : Nat} {evs : List Piece} {t : Nat × Nat} (h : okEvs n evs) (ht : okTwo n t) : okEvs n (withSame evs t) := fun e he => by
  rcases List.mem_append.mp he with q | q
  · exact h e q
  · have : e = .same t.1 t.2 := by simpa using q
    subst this; exact ht
theorem same_len (evs : List Piece) (t : Nat × Nat) : (withSame evs t).length = evs.length + 1 := by unfold withSame; rw [List.length_append]; rfl
theorem ok_same (F : Fun K "with_same" "with_same" sSame f fd) (GR : GF P w K mg base CX0 7 "run_of" ["many", "pieces"] (Pure (RRunOf CJ CG CR))) : FnOk P w K mg base CX0 8 f fd ["many", "pieces", "two"] (Pure (RSame CJ CG CR)) := by
  refine pure_ok F scSame (fun Ps P h => by obtain ⟨a, b, c, d, rfl, _⟩ := h; rfl) fun cdv A outer s H0 E hr vs Ps P' N H h sm p => ?_
  obtain ⟨n, evs, q, t, rfl, hq, ht, hn, hl, hok, rfl⟩ := h
  obtain ⟨v, v2, v3, rfl, hv, hv2, hv3⟩ := paired3 p
  exact w_end (.refl sm) (ev_call GR hr (ea_cons (P := I (n : Int)) (by walk_at "nm") (ea_cons (P := isL piece (withSame evs t)) (ev_catL (R := piece) (l := evs) (m := [.same t.1 t.2]) (by walk_at "nm") (ev_lst (ea_cons (ev_tup (ea_cons ev_int (ea_cons (ev_two0 hq (by walk_at "nm")) (ea_cons (ev_two1 hq (by walk_at "nm")) ea_nil)))) ea_nil) (.cons (fun _ _ z => z) .nil)) (by show evs.length + 1 ≤ 1000000; omega)) ea_nil)) ⟨n, _, rfl, hn, by rw [same_len]; omega, okEvs_same hok ht, rfl⟩)
theorem ok_verd (F : Fun K "verdict" "verdict" sVerd f fd) (T : Txt K mg CJ CG CR CK) (GR : GF P w K mg base CX0 7 "run_of" ["many", "pieces"] (Pure (RRunOf CJ CG CR))) (GS : GF P w K mg base CX0 8 "with_same" ["many", "pieces", "two"] (Pure (RSame CJ CG CR))) (MC_ : MF P w K mg base CX0 3 CR "clash" ["self"] (Pure (RClash CJ CG CR)))
    (MO : MF P w K mg base CX0 1 CG "are_one" ["self", "two"] (Pure (ROne CG))) : FnOk P w K mg base CX0 9 f fd ["many", "pieces", "two"] (Pure RVerd) := by
  refine pure_ok F scVerd (fun Ps P h => by obtain ⟨a, b, c, d, rfl, _⟩ := h; rfl) fun cdv A outer s H0 E hr vs Ps P' N H h sm p => ?_
  obtain ⟨n, evs, q, t, rfl, hq, ht, hn, hl, hok, rfl⟩ := h
  obtain ⟨v, v2, v3, rfl, hv, hv2, hv3⟩ := paired3 p
  have hlen := mRun_len n evs
  have hlen2 := mRun_len n (withSame evs t)
  refine w_asg (i := 3) (.refl sm) (P := run CJ CG CR evs (mRun n evs)) (ev_call GR (hr.mono (by decide)) (ea_cons (P := I (n : Int)) (by walk_at "nm") (ea_cons (P := isL piece evs) (by walk_at "nm") ea_nil)) ⟨n, evs, rfl, hn, by omega, hok, rfl⟩) (fun u N1 H1 g s1 hu => ?_) scVerd.nd
  have hv1 := (I (n : Int)).mono s1 hv
  have hv2 := (isL piece evs).mono s1 hv2
  have hv3 := q.mono s1 hv3
  refine w_when g (evt_notN (ev_meth0 MC_ T.rC (hr.mono (by decide)) (fs := runF CJ CG evs (mRun n evs)) (by walk_at "nm") (lkR_m (by decide +kernel) (by decide +kernel) (by decide +kernel)) ⟨evs, _, rfl, by rw [hlen]; exact hok, by omega, rfl⟩) (isO_non clash_non)) (fun h H2 g => ?_) (fun h H2 g => ?_)
  · refine w_end g ev_int ?_
    have : (mClash evs (mRun n evs).1).isSome = true := by cases q1 : mClash evs (mRun n evs).1 <;> rw [q1] at h <;> first | rfl | cases h
    unfold mVerdict
    rw [if_pos this]
  · have hc : ¬ (mClash evs (mRun n evs).1).isSome = true := by
      cases q1 : mClash evs (mRun n evs).1 with
      | none => intro z; cases z
      | some c => rw [q1] at h; cases h
    refine w_when g (evt_val (ev_meth MO T.gC (hr.mono (by decide)) (fs := groupsF (mRun n evs).1) (ev_fld T.rC T.rgroups (fs := runF CJ CG evs (mRun n evs)) (by walk_at "nm") lkR_groups) (lkG_m (by decide +kernel)) (ea_cons (by walk_at "nm") ea_nil) ⟨_, q, t, rfl, hq, by rw [hlen]; exact ht.1, by rw [hlen]; exact ht.2, rfl⟩)) (fun h2 H3 g => ?_) (fun h2 H3 g => ?_)
    · refine w_end g ev_int ?_
      unfold mVerdict
      rw [if_neg hc, if_pos h2]
    · refine w_when g (evt_notN (ev_meth0 MC_ T.rC (hr.mono (by decide)) (fs := runF CJ CG (withSame evs t) (mRun n (withSame evs t))) (ev_call GS (hr.mono (by decide)) (ea_cons (P := I (n : Int)) (by walk_at "nm") (ea_cons (P := isL piece evs) (by walk_at "nm") (ea_cons (P := q) (by walk_at "nm") ea_nil))) ⟨n, evs, q, t, rfl, hq, ht, hn, hl, hok, rfl⟩) (lkR_m (by decide +kernel) (by decide +kernel) (by decide +kernel)) ⟨withSame evs t, _, rfl, by rw [hlen2]; exact okEvs_same hok ht, by rw [same_len]; omega, rfl⟩) (isO_non clash_non)) (fun h3 H4 g => ?_) (fun h3 H4 g => ?_)
      · refine w_end g ev_int ?_
        have : (mClash (withSame evs t) (mRun n (withSame evs t)).1).isSome = true := by cases q1 : mClash (withSame evs t) (mRun n (withSame evs t)).1 <;> rw [q1] at h3 <;> first | rfl | cases h3
        unfold mVerdict
        rw [if_neg hc, if_neg (by rw [h2]; decide), if_pos this]
      · refine w_end g ev_int ?_
        have : ¬ (mClash (withSame evs t) (mRun n (withSame evs t)).1).isSome = true := by
          cases q1 : mClash (withSame evs t) (mRun n (withSame evs t)).1 with
          | none => intro z; cases z
          | some c => rw [q1] at h3; cases h3
        unfold mVerdict
        rw [if_neg hc, if_neg (by rw [h2]; decide), if_neg this]
theorem ok_isSo (F : Fun K "is_so" "is_so" sIsSo f fd) (T : Txt K mg CJ CG CR CK) (GR : GF P w K mg base CX0 7 "run_of" ["many", "pieces"] (Pure (RRunOf CJ CG CR))) (MC_ : MF P w K mg base CX0 3 CR "clash" ["self"] (Pure (RClash CJ CG CR)))
    (MO : MF P w K mg base CX0 1 CG "are_one" ["self", "two"] (Pure (ROne CG))) : FnOk P w K mg base CX0 8 f fd ["many", "pieces", "two"] (Pure RIsSo) := by
  refine pure_ok F scIsSo (fun Ps P h => by obtain ⟨a, b, c, rfl, _⟩ := h; rfl) fun cdv A outer s H0 E hr vs Ps P' N H h sm p => ?_
  obtain ⟨n, evs, o, rfl, ho, hn, hl, hok, rfl⟩ := h
  obtain ⟨v, v2, v3, rfl, hv, hv2, hv3⟩ := paired3 p
  have hlen := mRun_len n evs
  refine w_asg (i := 3) (.refl sm) (P := run CJ CG CR evs (mRun n evs)) (ev_call GR (hr.mono (by decide)) (ea_cons (P := I (n : Int)) (by walk_at "nm") (ea_cons (P := isL piece evs) (by walk_at "nm") ea_nil)) ⟨n, evs, rfl, hn, by omega, hok, rfl⟩) (fun u N1 H1 g s1 hu => ?_) scIsSo.nd
  have hv3 := (optTwo o).mono s1 hv3
  refine w_when g (evt_isN (by walk_at "nm") optTwo_non) (fun h H2 g => ?_) (fun h H2 g => ?_)
  · cases o with
    | some t => cases h
    | none =>
      refine w_end g (ev_notN (ev_meth0 MC_ T.rC (hr.mono (by decide)) (fs := runF CJ CG evs (mRun n evs)) (by walk_at "nm") (lkR_m (by decide +kernel) (by decide +kernel) (by decide +kernel)) ⟨evs, _, rfl, by rw [hlen]; exact hok, by omega, rfl⟩) (isO_non clash_non)) ?_
      show B _ = B (mClash evs (mRun n evs).1).isSome
      cases mClash evs (mRun n evs).1 <;> rfl
  · cases o with
    | none => cases h
    | some t =>
      exact w_end g (ev_meth MO T.gC (hr.mono (by decide)) (fs := groupsF (mRun n evs).1) (ev_fld T.rC T.rgroups (fs := runF CJ CG evs (mRun n evs)) (by walk_at "nm") lkR_groups) (lkG_m (by decide +kernel)) (ea_cons (P := isNs [t.1, t.2]) (by walk_at "nm") ea_nil) ⟨_, _, t, rfl, .inr rfl, by rw [hlen]; exact ho.1, by rw [hlen]; exact ho.2, rfl⟩)
theorem ok_core (F : Fun K "core" "core" sCore f fd) (T : Txt K mg CJ CG CR CK) (GI : GF P w K mg base CX0 8 "is_so" ["many", "pieces", "two"] (Pure RIsSo)) : FnOk P w K mg base CX0 9 f fd ["many", "pieces", "two"] (Pure RCore) := by
  refine pure_ok F scCore (fun Ps P h => by obtain ⟨a, b, c, rfl, _⟩ := h; rfl) fun cdv A outer s H0 E hr vs Ps P' N H h sm p => ?_
  obtain ⟨n, evs, o, rfl, ho, hn, hl, hok, rfl⟩ := h
  obtain ⟨v, v2, v3, rfl, hv, hv2, hv3⟩ := paired3 p
  refine w_when (.refl sm) (evt_not (evt_val (ev_call GI (hr.mono (by decide)) (ea_cons (P := I (n : Int)) (by walk_at "nm") (ea_cons (P := isL piece evs) (by walk_at "nm") (ea_cons (P := optTwo o) (by walk_at "nm") ea_nil))) ⟨n, evs, o, rfl, ho, hn, hl, hok, rfl⟩))) (fun h H1 g => ?_) (fun h H1 g => ?_)
  · refine w_end g ev_non ?_
    have h : mSo n evs o = false := by simpa using h
    unfold mCore
    rw [if_neg (by rw [h]; decide)]
    rfl
  · have h : mSo n evs o = true := by simpa using h
    refine w_asg (i := 3) g (P := isNs (List.range evs.length)) (ev_listR rfl T.nrange T.nlist (by omega) (ev_lenL (R := piece) T.nlen (by walk_at "nm"))) (fun u N1 H2 g1 s1 hu => ?_) scCore.nd
    have em : mCore n evs o = some (Vbkoab.core evs fun es => mSo n es o) := by unfold mCore; rw [if_pos h]
    have hlen := T.nlen
    refine b_forDown (g := gName 4) (i := (evs.length : Int) - 1) (j := -1) T.nrange (ev_sub (ev_lenL (R := piece) hlen (ev_name (i := 1) rfl ((isL piece evs).mono s1 hv2))) ev_int) (ev_neg ev_int) (ev_neg ev_int) (by omega) (by omega) g1.nh
      (fun k σ1 N2 H3 => ∃ kp l w4 w5, σ1 = [some v, some v2, some v3, some kp, w4, w5, none] ∧ Grow N H N2 H3 ∧ (isNs l).p kp N2 ∧ (∀ x ∈ l, x < evs.length) ∧ l.length ≤ evs.length ∧ Vbkoab.coreFrom evs (fun es => mSo n es o) (evs.length - k) l = Vbkoab.core evs fun es => mSo n es o)
      (fun H3 s3 => ⟨u, List.range evs.length, none, none, rfl, g1.more s3, hu, fun x hx => List.mem_range.mp hx, by rw [List.length_range]; exact Nat.le_refl _, rfl⟩) (fun k σ1 N2 H3 hk s12 s23 ⟨kp, l, w4, w5, e, g2, hkp, hlt, hll, hcf⟩ => ?_) (fun σ1 N2 H3 s12 s23 ⟨kp, l, w4, w5, e, g2, hkp, hlt, hll, hcf⟩ => ?_) PassesOwn.never rfl (pg_name scCore.nd rfl (Or.inr rfl))
    · subst e
      have hk' : k < evs.length := by omega
      obtain ⟨i, hi⟩ : ∃ i, evs.length - k = i + 1 := ⟨evs.length - k - 1, by omega⟩
      have ei : (evs.length : Int) - 1 - (k : Nat) = (i : Int) := by omega
      have hv2' := (isL piece evs).mono (s1.trans s12) hv2
      have hv3' := (optTwo o).mono (s1.trans s12) hv3
      show bB _ _ _ _ _
      rw [ei]
      refine w_lcL (i := 5) (j := 6) (x := "one") (R := fun n : Nat => I (n : Int)) (S := fun n : Nat => I (n : Int)) (l := l) (f := id) (t := fun x => x != i) g2 (by walk_at "nm") (by omega) (fun y v7 N7 s7 hy hv7 => ⟨ifs_one fun _ _ _ _ _ => ?_, fun _ _ _ _ _ _ => by walk_at "nm"⟩) (fun fw N3 H4 g3 s3 hfw => ?_) rfl scCore.nd (blkOk_by (N := ["many", "pieces", "two", "kept", "number", "fewer", "one"]) (sc := defScope sCore) (by decide +kernel)) (fun _ _ _ _ _ => pg_name scCore.nd rfl (Or.inl rfl)) (sw_true rfl rfl rfl (by decide +kernel))
      · cases hv7
        refine (evt_neI (by walk_at "nm") (by walk_at "nm")).to ?_
        by_cases z : y = i
        · subst z; simp
        · have z1 : ¬ ((y : Int) = (i : Int)) := fun q => z (Int.ofNat.inj q)
          rw [decide_eq_false z1]
          simp [z]
      · rw [List.map_id] at hfw
        have hkp3 := (isNs l).mono s3 hkp
        have hv3p := (isL piece evs).mono s3 hv2'
        have hv33 := (optTwo o).mono s3 hv3'
        generalize hm : l.filter (fun x => x != i) = m at hfw
        have hmlt : ∀ x ∈ m, x < evs.length := fun x hx => by rw [← hm] at hx; exact hlt x (List.mem_filter.mp hx).1
        have hml : m.length ≤ evs.length := by rw [← hm]; exact Nat.le_trans (List.length_filter_le _ _) hll
        have hes : ∀ (m : List Nat), (∀ x ∈ m, x < evs.length) → m.filterMap (fun k => evs[k]?) = m.map fun k => evs.getD k (.same 0 0) := by
          intro m
          induction m with
          | nil => intro _; rfl
          | cons a r ih =>
            intro h
            have ha := h a (by simp)
            rw [List.filterMap_cons, List.map_cons, ih fun x hx => h x (by simp [hx]), List.getElem?_eq_getElem ha, List.getD_eq_getElem?_getD, List.getElem?_eq_getElem ha]
            rfl
        have hokm : okEvs n (m.filterMap fun k => evs[k]?) := fun e he => by
          obtain ⟨x, hx, hxe⟩ := List.mem_filterMap.mp he
          exact hok e (List.mem_of_getElem? hxe)
        have hlm : (m.filterMap fun k => evs[k]?).length ≤ 100 := by have := List.length_filterMap_le (fun k => evs[k]?) m; omega
        have hcf2 : Vbkoab.coreFrom evs (fun es => mSo n es o) i (if mSo n (m.filterMap fun k => evs[k]?) o = true then m else l) = Vbkoab.core evs fun es => mSo n es o := by
          rw [← hcf, hi]
          show _ = Vbkoab.coreFrom evs (fun es => mSo n es o) i (if mSo n ((l.filter fun k => k != i).filterMap fun k => evs[k]?) o = true then (l.filter fun k => k != i) else l)
          rw [hm]
        have hik : evs.length - (k + 1) = i := by omega
        refine w_when g3 (evt_val (ev_call GI (hr.mono (by decide)) (ea_cons (P := I (n : Int)) (by walk_at "nm") (ea_cons (P := isL piece (m.filterMap fun k => evs[k]?)) (ev_eq (ev_lcL (j := 6) (x := "one") (R := fun n : Nat => I (n : Int)) (S := piece) (l := m) (f := fun k => evs.getD k (.same 0 0)) (t := fun _ => true) (by walk_at "nm") (by omega) (fun y v7 N7 s7 hy hv7 => ⟨ifs_nil, fun _ _ _ _ _ _ => ?_⟩) rfl scCore.nd (blkOk_by (N := ["many", "pieces", "two", "kept", "number", "fewer", "one"]) (sc := defScope sCore) (by decide +kernel)) (fun _ _ _ _ _ => pg_name scCore.nd rfl (Or.inl rfl))) ?_) (ea_cons (P := optTwo o) (by walk_at "nm") ea_nil))) ⟨n, _, o, rfl, ho, hn, hlm, hokm, rfl⟩)) (fun h2 H5 g4 => ?_) (fun h2 H5 g4 => ?_)
        · cases hv7
          have hy' := hmlt y hy
          have hv8 := (isL piece evs).mono s7 hv3p
          refine ev_ixL (R := piece) (x := evs.getD y (.same 0 0)) (by walk_at "nm") (by walk_at "nm") (at_ix ?_)
          rw [List.getD_eq_getElem?_getD, List.getElem?_eq_getElem hy']
          rfl
        · rw [filt_true, hes m hmlt]
        · refine w_asg (i := 3) g4 (P := isNs m) (by walk_at "nm") (fun kp2 N4 H6 g5 s5 hkp2 => b_nil (b_nil ?_)) scCore.nd
          refine ⟨N4, (s12.trans s3).trans s5, g5.nh, kp2, m, _, _, rfl, g5, hkp2, hmlt, hml, ?_⟩
          rw [hik]
          rw [if_pos h2] at hcf2
          exact hcf2
        · refine b_nil ⟨N3, s12.trans s3, g4.nh, kp, l, _, _, rfl, g4, hkp3, hlt, hll, ?_⟩
          rw [hik]
          rw [if_neg (by rw [h2]; decide)] at hcf2
          exact hcf2
    · subst e
      have e0 : evs.length - ((evs.length : Int) - 1 - (-1)).toNat = 0 := by omega
      rw [e0] at hcf
      refine w_end g2 (P := isNs l) (by walk_at "nm") ?_
      rw [em, ← hcf]
      rfl
end
end PB
namespace PB
open PySem PySem.Spec PyProof.Rows L2
local macro_rules | `(tactic| walk_at "at") => `(tactic| first | exact at0 _ | exact at1 _ | rfl | assumption)
local macro_rules | `(tactic| walk_at "p") => `(tactic| first | assumption | exact (rfl : (is _).p _ _))
local macro_rules | `(tactic| walk_at "nm") => `(tactic| first
  | exact ev_glob (by assumption) (by first | exact ⟨_, rfl⟩ | rfl)
  | exact ev_nameI (by rfl) rfl (by walk_at "p"))
local macro_rules | `(tactic| walk_at "ev") => `(tactic| first
  | (with_reducible show Ev _ (PySem.Expr.Constant _ _ _) _ _ _); first | exact ev_int | exact ev_non | exact ev_bool | exact ev_str
  | (with_reducible show Ev _ (PySem.Expr.Name _ _) _ _ _); walk_at "nm"
  | (with_reducible show Ev _ (PySem.Expr.Subscript _ _ _) _ _ _); first | exact ev_ixT (by walk_at "ev") (by walk_at "ev") (by walk_at "at") | exact ev_ixL (by walk_at "ev") (by walk_at "ev") (by walk_at "at")
  | (with_reducible show Ev _ (PySem.Expr.Tuple _ _ _) _ _ _); exact ev_tup (by walk_at "ea")
  | (with_reducible show Ev _ (PySem.Expr.UnaryOp PySem.UnaryOp.USub _ _) _ _ _); exact ev_neg (by walk_at "ev")
  | (with_reducible show Ev _ (PySem.Expr.Compare _ [PySem.CmpOp.Eq] _ _) _ _ _); exact ev_eqI (by walk_at "ev") (by walk_at "ev")
  | (with_reducible show Ev _ (PySem.Expr.Compare _ [PySem.CmpOp.NotEq] _ _) _ _ _); exact ev_neI (by walk_at "ev") (by walk_at "ev"))
local macro_rules | `(tactic| walk_at "ea") => `(tactic| first
  | (with_reducible show EvA _ [] _ _ _); exact ea_nil
  | exact ea_cons (by walk_at "ev") (by walk_at "ea"))
local macro_rules | `(tactic| walk_at "et") => `(tactic| first
  | (with_reducible show EvT _ (PySem.Expr.Compare _ [PySem.CmpOp.Eq] _ _) _ _ _); exact evt_eqI (by walk_at "ev") (by walk_at "ev")
  | (with_reducible show EvT _ (PySem.Expr.Compare _ [PySem.CmpOp.NotEq] _ _) _ _ _); exact evt_neI (by walk_at "ev") (by walk_at "ev")
  | (with_reducible show EvT _ (PySem.Expr.Compare _ [PySem.CmpOp.Lt] _ _) _ _ _); exact evt_ltI (by walk_at "ev") (by walk_at "ev")
  | (with_reducible show EvT _ (PySem.Expr.Compare _ [PySem.CmpOp.LtE] _ _) _ _ _); exact evt_leI (by walk_at "ev") (by walk_at "ev")
  | (with_reducible show EvT _ (PySem.Expr.Compare _ [PySem.CmpOp.Gt] _ _) _ _ _); exact evt_gtI (by walk_at "ev") (by walk_at "ev")
  | (with_reducible show EvT _ (PySem.Expr.Compare _ [PySem.CmpOp.GtE] _ _) _ _ _); exact evt_geI (by walk_at "ev") (by walk_at "ev"))
/-! ### join_told, first_wrong -/
abbrev sTold : Stmt := top 27
theorem scTold : FnScope ["pieces", "number", "later"] ["pieces", "number", "later"] (defScope sTold) := ⟨rfl, rfl, rfl, by decide +kernel, rfl, by decide +kernel, by decide +kernel⟩
def mTold (evs : List Piece) (a b : Int) : Option MJ :=
  if a < 0 ∨ (evs.length : Int) ≤ a ∨ (evs.length : Int) ≤ b then none
  else if b = -1 then (match evs[a.toNat]? with
    | some e => if inTwos e = true then none else mAlone evs a.toNat
    | none => none)
  else if b ≤ a then none else mTwo evs a.toNat b.toNat
def RTold (CJ : Addr) : List VP → VP → Prop := fun Ps P => ∃ evs a b, Ps = [isL piece evs, I a, I b] ∧ P = isO (join CJ) (mTold evs a b)
abbrev sWrong : Stmt := top 28
theorem scWrong : FnScope ["many", "pieces", "two", "pairs", "groups", "place", "pair", "join"] ["many", "pieces", "two", "pairs"] (defScope sWrong) := ⟨rfl, rfl, rfl, by decide +kernel, rfl, by decide +kernel, by decide +kernel⟩
def mWrongFrom (evs : List Piece) (t : Nat × Nat) : Nat → List Nat → List (Int × Int) → Option Nat
  | k, g, [] => if Vbkoab.one g t.1 t.2 = true then none else some k
  | k, g, p :: r => match mTold evs p.1 p.2 with
    | none => some k
    | some j => if (j.needs.all fun t => Vbkoab.one g t.1 t.2) = true then mWrongFrom evs t (k + 1) (Vbkoab.united g j.t.1 j.t.2) r else some k
def mWrong (n : Nat) (evs : List Piece) (t : Nat × Nat) (ps : List (Int × Int)) : Option Nat := mWrongFrom evs t 0 (List.range n) ps
def pairV (p : Int × Int) : VP := isT [I p.1, I p.2]
def RWrong : List VP → VP → Prop := fun Ps P => ∃ n evs t ps, Ps = [I ((n : Nat) : Int), isL piece evs, isNs [t.1, t.2], isL pairV ps] ∧ okTwo n t ∧ n ≤ 100 ∧ evs.length ≤ 100 ∧ okEvs n evs ∧ P = isO (fun k : Nat => I (k : Int)) (mWrong n evs t ps)
theorem mTold_ok {n : Nat} {evs : List Piece} {a b : Int} {j : MJ} (h : okEvs n evs) (q : mTold evs a b = some j) : okJ n j := by
  unfold mTold at q
  split at q
  · cases q
  · split at q
    · cases e : evs[a.toNat]? with
      | none => rw [e] at q; cases q
      | some x =>
        rw [e] at q
        have q : (if inTwos x = true then none else mAlone evs a.toNat) = some j := q
        split at q
        · cases q
        · exact mAlone_ok h q
    · split at q
      · cases q
      · exact mTwo_ok h q
section
variable {P : Program} {w : World} {K : PySem.W.Frag} {mg : Str → Option Value} {base : Heap} {CJ CG CR CK : Addr} {f : Addr} {fd : FuncData}
theorem inTwos_iff (e : Piece) : decide (kind e ∈ [(3 : Int), 4]) = inTwos e := by cases e <;> rfl
theorem ok_told (F : Fun K "join_told" "join_told" sTold f fd) (T : Txt K mg CJ CG CR CK) (GA : GF P w K mg base CX0 3 "join_alone" ["pieces", "number"] (Pure (RAlone CJ))) (GT : GF P w K mg base CX0 3 "join_of_two" ["pieces", "number", "later"] (Pure (ROfTwo CJ))) : FnOk P w K mg base CX0 4 f fd ["pieces", "number", "later"] (Pure (RTold CJ)) := by
  refine pure_ok F scTold (fun Ps P h => by obtain ⟨a, b, c, rfl, _⟩ := h; rfl) fun cdv A outer s H0 E hr vs Ps P' N H h sm p => ?_
  obtain ⟨evs, a, b, rfl, rfl⟩ := h
  obtain ⟨v, v2, v3, rfl, hv, hv2, hv3⟩ := paired3 p
  cases hv2
  cases hv3
  have hlen := T.nlen
  obtain ⟨tA, gA⟩ := T.cALONE
  obtain ⟨aT, gT, hT⟩ := T.cTWOS
  refine w_when (.refl sm) (t := decide (a < 0) || (decide ((evs.length : Int) ≤ a) || decide ((evs.length : Int) ≤ b))) (evt_w (evw_or (by walk_at "et") fun _ => evw_or (evt_geI (by walk_at "nm") (ev_lenL (R := piece) hlen (by walk_at "nm"))) fun _ => evw_or1 (evt_geI (by walk_at "nm") (ev_lenL (R := piece) hlen (by walk_at "nm"))))) (fun h H1 g => ?_) (fun h H1 g => ?_)
  · refine w_end g ev_non ?_
    have h' : a < 0 ∨ (evs.length : Int) ≤ a ∨ (evs.length : Int) ≤ b := by simpa using h
    unfold mTold
    rw [if_pos h']
    rfl
  · have h' : ¬ (a < 0 ∨ (evs.length : Int) ≤ a ∨ (evs.length : Int) ≤ b) := by
      intro z
      have : (decide (a < 0) || (decide ((evs.length : Int) ≤ a) || decide ((evs.length : Int) ≤ b))) = true := by simpa using z
      rw [this] at h; cases h
    obtain ⟨n, rfl⟩ : ∃ n : Nat, a = (n : Int) := ⟨a.toNat, by omega⟩
    have hn : n < evs.length := by omega
    have he : evs[n]? = some evs[n] := List.getElem?_eq_getElem hn
    have hat := at_ix he
    refine w_when g (t := decide (b = -1)) (by walk_at "et") (fun h2 H2 g => ?_) (fun h2 H2 g => ?_)
    · have h2 := of_decide_eq_true h2
      have em : mTold evs (n : Int) b = if inTwos evs[n] = true then none else mAlone evs n := by
        unfold mTold
        rw [if_neg h', if_pos h2, Int.toNat_natCast, he]
      refine w_when g (evt_inK (l := [3, 4]) (ev_ixT (Ps := (Vbkoab.evNums evs[n]).map I) (ev_ixL (R := piece) (x := evs[n]) (by walk_at "nm") (by walk_at "nm") hat) ev_int (at0 _)) (by walk_at "nm") hT) (fun h3 H3 g => ?_) (fun h3 H3 g => ?_)
      · rw [inTwos_iff] at h3
        refine w_end g ev_non ?_
        rw [em, if_pos h3]
        rfl
      · rw [inTwos_iff] at h3
        refine w_end g (P := isO (join CJ) (mAlone evs n)) (ev_call GA (hr.mono (by decide)) (ea_cons (P := isL piece evs) (by walk_at "nm") (ea_cons (P := I (n : Int)) (by walk_at "nm") ea_nil)) ⟨_, _, rfl, hn, rfl⟩) ?_
        rw [em, if_neg (by rw [h3]; decide)]
    · have h2 := of_decide_eq_false h2
      refine w_when g (t := decide (b ≤ (n : Int))) (by walk_at "et") (fun h3 H3 g => ?_) (fun h3 H3 g => ?_)
      · have h3 := of_decide_eq_true h3
        refine w_end g ev_non ?_
        unfold mTold
        rw [if_neg h', if_neg h2, if_pos h3]
        rfl
      · have h3 := of_decide_eq_false h3
        obtain ⟨m, rfl⟩ : ∃ m : Nat, b = (m : Int) := ⟨b.toNat, by omega⟩
        refine w_end g (P := isO (join CJ) (mTwo evs n m)) (ev_call GT (hr.mono (by decide)) (ea_cons (P := isL piece evs) (by walk_at "nm") (ea_cons (P := I (n : Int)) (by walk_at "nm") (ea_cons (P := I (m : Int)) (by walk_at "nm") ea_nil))) ⟨_, _, _, rfl, hn, by omega, rfl⟩) ?_
        unfold mTold
        rw [if_neg h', if_neg h2, if_neg h3, Int.toNat_natCast, Int.toNat_natCast]
/-- groups that change, outside the known part -/
theorem ok_wrong (F : Fun K "first_wrong" "first_wrong" sWrong f fd) (T : Txt K mg CJ CG CR CK) (GTo : GF P w K mg base CX0 4 "join_told" ["pieces", "number", "later"] (Pure (RTold CJ))) (MG : CF P w K mg base CX0 1 "Groups" CG ["self", "many"] (Init CG RGInit))
    (MO : MF P w K mg base CX0 1 CG "are_one" ["self", "two"] (Pure (ROne CG))) (MA : MF P w K mg base CX0 2 CG "all_one" ["self", "twos"] (Pure (RAllOne CG))) (MP : MF P w K mg base CX0 1 CG "put_together" ["self", "two"] (SpPut CG)) : FnOk P w K mg base CX0 5 f fd ["many", "pieces", "two", "pairs"] (Pure RWrong) := by
  refine pure_ok F scWrong (fun Ps P h => by obtain ⟨a, b, c, d, rfl, _⟩ := h; rfl) fun cdv A outer s H0 E hr vs Ps P' N H h sm p => ?_
  obtain ⟨n, evs, t, ps, rfl, ht, hn, hl, hok, rfl⟩ := h
  obtain ⟨v, v2, v3, v4, rfl, hv, hv2, hv3, hv4⟩ := paired4 p
  have hlen := T.nlen
  refine b_asgMake (i := 4) (fs := groupsF (List.range n)) (evm_make MG (hr.mono (by decide)) (ea_cons (P := I (n : Int)) (by walk_at "nm") ea_nil) ⟨n, rfl, by omega, rfl⟩) sm (fun ag dg gv N1 H1 nag nag1 g1 hag hgv => ?_) scWrong.nd
  obtain ⟨u0, rfl, hu0⟩ : ∃ u, gv = [(("least" : Str), u)] ∧ (isNs (List.range n)).p u N1 := by
    cases hgv with
    | cons r t =>
      cases t
      rename_i y
      obtain ⟨y1, y2⟩ := y
      obtain ⟨r1, r2⟩ := r
      have r1 : y1 = "least" := r1
      subst r1
      exact ⟨y2, rfl, r2⟩
  have kn : ∀ (u : V) (N2 H2 : Hp), Same N2 H2 → H2 ag = some (.ins CG dg [("least", u)]) → Same (upd N2 ag (.ins CG dg [("least", u)])) H2 := fun u N2 H2 s e => same_put s e
  have slf : ∀ (u : V) (g : List Nat) (N2 : Hp), N2 ag = none → (isNs g).p u N2 → (groups CG g).p (.ref ag) (upd N2 ag (.ins CG dg [("least", u)])) := fun u g N2 na hu => ⟨ag, dg, _, rfl, upd_same, .cons ⟨rfl, (isNs g).mono (same_new na) hu⟩ .nil⟩
  refine b_forE (i1 := 5) (i2 := 6) (R := pairV) (l := ps) T.nenum (ev_name (i := 3) rfl ((isL pairV ps).mono g1.nn hv4)) g1.nh
    (fun N0 i σ2 N8 H8 => ∃ g u w5 w6 w7, σ2 = [some v, some v2, some v3, some v4, some (.ref ag), w5, w6, w7] ∧ Grow N H N8 H8 ∧ N8 ag = none ∧ H8 ag = some (.ins CG dg [("least", u)]) ∧ (isNs g).p u N8 ∧ g.length = n ∧ mWrongFrom evs t i g (ps.drop i) = mWrong n evs t ps)
    (fun N0 H8 g8 => ⟨List.range n, u0, none, none, none, rfl, g1.trans g8, g8.nw ag nag1 (by rw [hag]; simp), g8.hh _ _ hag, (isNs _).mono g8.nn hu0, List.length_range, rfl⟩)
    (fun N0 i pr u σ2 N8 H8 s0 hi s08 s88 ⟨g, ug, w5, w6, w7, e, g8, na8, ha8, hug, hgl, hwr⟩ hu H9 s9 => ?_) (fun N0 σ2 N8 H8 s0 s08 s88 ⟨g, ug, w5, w6, w7, e, g8, na8, ha8, hug, hgl, hwr⟩ => ?_) PassesOwn.never rfl (pg_tup rfl (pgs_cons (pg_name scWrong.nd rfl (Or.inl rfl)) (pgs_cons (pg_name scWrong.nd rfl (Or.inl rfl)) pgs_nil)))
  · subst e
    have hu8 := (pairV pr).mono s08 hu
    have hv28 := (isL piece evs).mono g8.nn hv2
    have ed : ps.drop i = pr :: ps.drop (i + 1) := by
      have hlt := (List.getElem?_eq_some_iff.mp hi).1
      have ez := (List.getElem?_eq_some_iff.mp hi).2
      rw [← ez]; exact List.drop_eq_getElem_cons hlt
    rw [ed] at hwr
    have g9 := g8.more s9
    refine b_asg (i := 7) (N := N8) (P := isO (join CJ) (mTold evs pr.1 pr.2)) (ev_call GTo (hr.mono (by decide)) (ea_cons (P := isL piece evs) (by walk_at "nm") (ea_cons (P := I pr.1) (ev_ixT (Ps := [I pr.1, I pr.2]) (by walk_at "nm") ev_int rfl) (ea_cons (P := I pr.2) (ev_ixT (Ps := [I pr.1, I pr.2]) (by walk_at "nm") ev_int rfl) ea_nil))) ⟨evs, _, _, rfl, rfl⟩) g9.nh (fun jv N10 H10 g10 hjv => ?_) scWrong.nd
    have g10' := g9.trans g10
    have na10 := g10.nw ag na8 (by rw [s9 _ _ ha8]; simp)
    have ha10 := g10.hh _ _ (s9 _ _ ha8)
    have hug10 := (isNs g).mono g10.nn hug
    have kn10 := kn ug N10 H10 g10.nh ha10
    cases q : mTold evs pr.1 pr.2 with
    | none =>
      rw [q] at hjv
      have hjv : jv = .non := hjv
      subst hjv
      have hw : mWrong n evs t ps = some i := by rw [← hwr]; show (match mTold evs pr.1 pr.2 with | none => some i | some j => _) = _; rw [q]
      refine b_when (t := true) (evt_w (evw_or (c := true) (d := true) (evt_isN (P := N_) (by walk_at "nm") is_non) fun z => by cases z)) g10.nh (fun h H11 s11 => ?_) (fun h H11 s11 => by cases h)
      refine w_end (g10'.more s11) (P := I (i : Int)) (by walk_at "nm") ?_
      rw [hw]
      rfl
    | some j =>
      rw [q] at hjv
      have hjv : (join CJ j).p jv N10 := hjv
      have okj := mTold_ok hok q
      have hjk := (join CJ j).mono (same_new na10 : Same N10 (upd N10 ag (.ins CG dg [("least", ug)]))) hjv
      have hw : mWrong n evs t ps = if (j.needs.all fun t => Vbkoab.one g t.1 t.2) = true then mWrongFrom evs t (i + 1) (Vbkoab.united g j.t.1 j.t.2) (ps.drop (i + 1)) else some i := by
        rw [← hwr]; show (match mTold evs pr.1 pr.2 with | none => some i | some j => _) = _; rw [q]
      refine b_when (t := false || !(j.needs.all fun t => Vbkoab.one g t.1 t.2)) (N := upd N10 ag (.ins CG dg [("least", ug)])) (evt_w (evw_or (evt_isN (P := join CJ j) (by walk_at "nm") (join_non j)) fun _ => evw_or1 (evt_not (evt_val (ev_meth MA T.gC (hr.mono (by decide)) (fs := groupsF g) (ev_name (i := 4) rfl (slf ug g N10 na10 hug10)) (lkG_m (by decide +kernel)) (ea_cons (ev_fld T.jC T.jneeds (fs := joinF j) (by walk_at "nm") lkJ_needs) ea_nil) ⟨g, _, rfl, by rw [hgl]; exact okj.2.1, by have := okj.2.2; omega, rfl⟩))))) kn10 (fun h H11 s11 => ?_) (fun h H11 s11 => ?_)
      · have h : (j.needs.all fun t => Vbkoab.one g t.1 t.2) = false := by simpa using h
        refine w_end (g10'.more s11) (P := I (i : Int)) (by walk_at "nm") ?_
        rw [hw, if_neg (by rw [h]; decide)]
        rfl
      · have h : (j.needs.all fun t => Vbkoab.one g t.1 t.2) = true := by
          cases z : (j.needs.all fun t => Vbkoab.one g t.1 t.2) with
          | true => rfl
          | false => rw [z] at h; cases h
        rw [if_pos h] at hw
        refine b_callM (N2 := N10) (N := N10) (P := two j.t) MP T.gC (hr.mono (by decide)) pass0 (by walk_at "nm") (g10.nh.trans s11) (s11 _ _ ha10) ((lk_past (by decide +kernel)).trans rfl) (ev_fld T.jC T.jtwo (fs := joinF j) (by walk_at "nm") lkJ_two) (g10.nh.trans s11) (fun v12 N12 H12 g12 hv12 => ?_)
        have na12 := g12.nw ag na10 (by rw [s11 _ _ ha10]; simp)
        refine ⟨ag, dg, ug, v12, g, j.t, N12, rfl, na12, g12.nh, g12.hh _ _ (s11 _ _ ha10), (isNs g).mono g12.nn hug10, hv12, by rw [hgl]; exact okj.1.1, by rw [hgl]; exact okj.1.2, by omega, fun N13 H13 u2 b13 e13 hu2 => b_nil ?_⟩
        refine ⟨N13, ((s08.trans g10.nn).trans g12.nn).trans b13.nn, b13.nh, _, u2, _, _, _, rfl, But.grow ((g10'.more s11).trans g12) nag b13, b13.nw ag na12 (by rw [g12.hh _ _ (s11 _ _ ha10)]; simp), e13, hu2, by rw [united_len, hgl], hw.symm⟩
  · subst e
    rw [List.drop_length] at hwr
    have hw : mWrong n evs t ps = if Vbkoab.one g t.1 t.2 = true then none else some ps.length := hwr.symm
    have hv38 := (isNs [t.1, t.2]).mono (g8.nn.trans (same_new na8 : Same N8 (upd N8 ag (.ins CG dg [("least", ug)])))) hv3
    refine b_when (N := upd N8 ag (.ins CG dg [("least", ug)])) (evt_not (evt_val (ev_meth MO T.gC (hr.mono (by decide)) (fs := groupsF g) (ev_name (i := 4) rfl (slf ug g N8 na8 hug)) (lkG_m (by decide +kernel)) (ea_cons (P := isNs [t.1, t.2]) (by walk_at "nm") ea_nil) ⟨g, _, t, rfl, .inr rfl, by rw [hgl]; exact ht.1, by rw [hgl]; exact ht.2, rfl⟩))) (kn ug N8 H8 s88 ha8) (fun h H9 s9 => ?_) (fun h H9 s9 => ?_)
    · have h : Vbkoab.one g t.1 t.2 = false := by simpa using h
      have hv48 := (isL pairV ps).mono g8.nn hv4
      refine w_end (g8.more s9) (P := I (ps.length : Int)) (ev_lenL (R := pairV) hlen (by walk_at "nm")) ?_
      rw [hw, if_neg (by rw [h]; decide)]
      rfl
    · have h : Vbkoab.one g t.1 t.2 = true := by simpa using h
      refine w_end (g8.more s9) ev_non ?_
      rw [hw, if_pos h]
      rfl
end
end PB
namespace PB
open PySem PySem.Spec PyProof.Rows L2
local macro_rules | `(tactic| walk_at "at") => `(tactic| first | exact at0 _ | exact at1 _ | rfl | assumption)
local macro_rules | `(tactic| walk_at "p") => `(tactic| first | assumption | exact (rfl : (is _).p _ _))
local macro_rules | `(tactic| walk_at "nm") => `(tactic| first
  | exact ev_glob (by assumption) (by first | exact ⟨_, rfl⟩ | rfl)
  | exact ev_nameI (by rfl) rfl (by walk_at "p"))
local macro_rules | `(tactic| walk_at "ev") => `(tactic| first
  | (with_reducible show Ev _ (PySem.Expr.Constant _ _ _) _ _ _); first | exact ev_int | exact ev_non | exact ev_bool | exact ev_str
  | (with_reducible show Ev _ (PySem.Expr.Name _ _) _ _ _); walk_at "nm"
  | (with_reducible show Ev _ (PySem.Expr.Subscript _ _ _) _ _ _); first | exact ev_ixT (by walk_at "ev") (by walk_at "ev") (by walk_at "at") | exact ev_ixL (by walk_at "ev") (by walk_at "ev") (by walk_at "at")
  | (with_reducible show Ev _ (PySem.Expr.Tuple _ _ _) _ _ _); exact ev_tup (by walk_at "ea")
  | (with_reducible show Ev _ (PySem.Expr.UnaryOp PySem.UnaryOp.USub _ _) _ _ _); exact ev_neg (by walk_at "ev")
  | (with_reducible show Ev _ (PySem.Expr.Compare _ [PySem.CmpOp.Eq] _ _) _ _ _); exact ev_eqI (by walk_at "ev") (by walk_at "ev")
  | (with_reducible show Ev _ (PySem.Expr.Compare _ [PySem.CmpOp.NotEq] _ _) _ _ _); exact ev_neI (by walk_at "ev") (by walk_at "ev"))
local macro_rules | `(tactic| walk_at "ea") => `(tactic| first
  | (with_reducible show EvA _ [] _ _ _); exact ea_nil
  | exact ea_cons (by walk_at "ev") (by walk_at "ea"))
local macro_rules | `(tactic| walk_at "et") => `(tactic| first
  | (with_reducible show EvT _ (PySem.Expr.Compare _ [PySem.CmpOp.Eq] _ _) _ _ _); exact evt_eqI (by walk_at "ev") (by walk_at "ev")
  | (with_reducible show EvT _ (PySem.Expr.Compare _ [PySem.CmpOp.NotEq] _ _) _ _ _); exact evt_neI (by walk_at "ev") (by walk_at "ev")
  | (with_reducible show EvT _ (PySem.Expr.Compare _ [PySem.CmpOp.Lt] _ _) _ _ _); exact evt_ltI (by walk_at "ev") (by walk_at "ev")
  | (with_reducible show EvT _ (PySem.Expr.Compare _ [PySem.CmpOp.LtE] _ _) _ _ _); exact evt_leI (by walk_at "ev") (by walk_at "ev")
  | (with_reducible show EvT _ (PySem.Expr.Compare _ [PySem.CmpOp.Gt] _ _) _ _ _); exact evt_gtI (by walk_at "ev") (by walk_at "ev")
  | (with_reducible show EvT _ (PySem.Expr.Compare _ [PySem.CmpOp.GtE] _ _) _ _ _); exact evt_geI (by walk_at "ev") (by walk_at "ev"))
/-! ### groupings -/
/-- how many groups a row has: one more than its greatest number -/
def top1 (row : List Nat) : Nat := row.foldl (fun a z => max a (z + 1)) 0
def mKids (row : List Nat) : List (List Nat) := (List.range (top1 row + 1)).map fun g => row ++ [g]
def mAll : Nat → List (List Nat)
  | 0 => [[]]
  | n + 1 => (mAll n).flatMap mKids
abbrev sAll : Stmt := top 32
theorem scAll : FnScope ["many", "found", "turn", "longer", "row", "group"] ["many"] (defScope sAll) := ⟨rfl, rfl, rfl, by decide +kernel, rfl, by decide +kernel, by decide +kernel⟩
def RAll : List VP → VP → Prop := fun Ps P => ∃ n, Ps = [I ((n : Nat) : Int)] ∧ n ≤ 7 ∧ P = isL isNs (mAll n)
theorem fold_ge (l : List Nat) : ∀ a, a ≤ l.foldl (fun a z => max a (z + 1)) a := by
  induction l with
  | nil => intro a; exact Nat.le_refl _
  | cons x r ih => intro a; exact Nat.le_trans (Nat.le_max_left _ _) (ih _)
theorem top1_mem {l : List Nat} : ∀ {a z : Nat}, z ∈ l → z + 1 ≤ l.foldl (fun a z => max a (z + 1)) a := by
  induction l with
  | nil => intro a z h; cases h
  | cons x r ih =>
    intro a z h
    rcases List.mem_cons.mp h with rfl | h
    · exact Nat.le_trans (Nat.le_max_right _ _) (fold_ge r _)
    · exact ih h
theorem top1_le {l : List Nat} {n : Nat} (h : ∀ z ∈ l, z + 1 ≤ n) : ∀ {a : Nat}, a ≤ n → l.foldl (fun a z => max a (z + 1)) a ≤ n := by
  induction l with
  | nil => intro a ha; exact ha
  | cons x r ih => intro a ha; exact ih (fun z hz => h z (by simp [hz])) (Nat.max_le.mpr ⟨ha, h x (by simp)⟩)
theorem top1_in {l : List Nat} : ∀ {a : Nat}, l.foldl (fun a z => max a (z + 1)) a = a ∨ ∃ z ∈ l, l.foldl (fun a z => max a (z + 1)) a = z + 1 := by
  induction l with
  | nil => intro a; exact .inl rfl
  | cons x r ih =>
    intro a
    rcases ih (a := max a (x + 1)) with h | ⟨z, hz, h⟩
    · rcases Nat.le_total a (x + 1) with q | q
      · exact .inr ⟨x, by simp, by show r.foldl _ (max a (x + 1)) = _; rw [h, Nat.max_eq_right q]⟩
      · exact .inl (by show r.foldl _ (max a (x + 1)) = _; rw [h, Nat.max_eq_left q])
    · exact .inr ⟨z, by simp [hz], h⟩
theorem mAll_row : ∀ (n : Nat) (row : List Nat), row ∈ mAll n → row.length = n ∧ top1 row ≤ n
  | 0, row, h => by
    have : row = [] := by simpa [mAll] using h
    subst this; exact ⟨rfl, Nat.le_refl _⟩
  | n + 1, row, h => by
    obtain ⟨r, hr, hk⟩ := List.mem_flatMap.mp h
    obtain ⟨h1, h2⟩ := mAll_row n r hr
    obtain ⟨g, hg, rfl⟩ := List.mem_map.mp hk
    have hg := List.mem_range.mp hg
    refine ⟨by rw [List.length_append, h1]; rfl, ?_⟩
    unfold top1 at h2 ⊢
    rw [List.foldl_append]
    show max _ (g + 1) ≤ n + 1
    unfold top1 at hg
    exact Nat.max_le.mpr ⟨by omega, by omega⟩
def fct : Nat → Nat
  | 0 => 1
  | n + 1 => (n + 1) * fct n
theorem flat_le {n : Nat} : ∀ (l : List (List Nat)), (∀ r ∈ l, top1 r ≤ n) → (l.flatMap mKids).length ≤ (n + 1) * l.length
  | [], _ => by simp
  | a :: r, h => by
    rw [List.flatMap_cons, List.length_append, List.length_cons, Nat.mul_succ]
    have h1 := flat_le r fun x hx => h x (by simp [hx])
    have h2 := h a (by simp)
    have h3 : (mKids a).length = top1 a + 1 := by unfold mKids; rw [List.length_map, List.length_range]
    omega
theorem mAll_len : ∀ (n : Nat), (mAll n).length ≤ fct n
  | 0 => Nat.le_refl _
  | n + 1 => by
    have h1 := flat_le (n := n) (mAll n) fun r hr => (mAll_row n r hr).2
    have h2 := mAll_len n
    exact Nat.le_trans h1 (Nat.mul_le_mul_left _ h2)
theorem fct_le {n : Nat} (h : n ≤ 7) : fct n ≤ 5040 := by
  match n, h with
  | 0, _ => decide
  | 1, _ => decide
  | 2, _ => decide
  | 3, _ => decide
  | 4, _ => decide
  | 5, _ => decide
  | 6, _ => decide
  | 7, _ => decide
abbrev sAllSo : Stmt := top 33
theorem scAllSo : FnScope ["row", "twos", "two"] ["row", "twos"] (defScope sAllSo) := ⟨rfl, rfl, rfl, by decide +kernel, rfl, by decide +kernel, by decide +kernel⟩
def RAllSo : List VP → VP → Prop := fun Ps P => ∃ g ts, Ps = [isNs g, isL two ts] ∧ (∀ t ∈ ts, okTwo g.length t) ∧ ts.length < 1000 ∧ P = B (ts.all fun t => Vbkoab.one g t.1 t.2)
abbrev sOneF : Stmt := top 34
theorem scOneF : FnScope ["row", "piece", "two"] ["row", "piece"] (defScope sOneF) := ⟨rfl, rfl, rfl, by decide +kernel, rfl, by decide +kernel, by decide +kernel⟩
def holds (g : List Nat) (cs : List (Nat × Nat)) : Option (Nat × Nat) → Bool
  | none => true
  | some t => !(cs.all fun t => Vbkoab.one g t.1 t.2) || Vbkoab.one g t.1 t.2
def mOneF (g : List Nat) (e : Piece) : Bool := match e with
  | .differ x y => !Vbkoab.one g x y
  | e => holds g (conds e) (byOne e)
def ROneF : List VP → VP → Prop := fun Ps P => ∃ g e, Ps = [isNs g, piece e] ∧ okEv g.length e ∧ P = B (mOneF g e)
abbrev sTwoF : Stmt := top 35
theorem scTwoF : FnScope ["row", "piece", "later", "two"] ["row", "piece", "later"] (defScope sTwoF) := ⟨rfl, rfl, rfl, by decide +kernel, rfl, by decide +kernel, by decide +kernel⟩
def mTwoF (g : List Nat) (a b : Piece) : Bool := if disag a b = true then !Vbkoab.one g (evX a) (evX b) else holds g (conds2 a b) (byTwo a b)
def RTwoF : List VP → VP → Prop := fun Ps P => ∃ g a b, Ps = [isNs g, piece a, piece b] ∧ okEv g.length a ∧ okEv g.length b ∧ P = B (mTwoF g a b)
abbrev sBound : Stmt := top 36
theorem scBound : FnScope ["pieces", "found", "number", "piece", "later"] ["pieces"] (defScope sBound) := ⟨rfl, rfl, rfl, by decide +kernel, rfl, by decide +kernel, by decide +kernel⟩
def bnd (a b : Piece) : Bool := disag a b || (byTwo a b).isSome
def ppV (p : Piece × Piece) : VP := isT [piece p.1, piece p.2]
def mBoundAt (evs : List Piece) (n : Nat) (a : Piece) : List (Piece × Piece) := ((evs.drop (n + 1)).filter fun b => bnd a b).map fun b => (a, b)
def mBound (evs : List Piece) : List (Piece × Piece) := (List.range evs.length).flatMap fun n => match evs[n]? with
  | some a => mBoundAt evs n a
  | none => []
def RBound : List VP → VP → Prop := fun Ps P => ∃ evs, Ps = [isL piece evs] ∧ evs.length ≤ 100 ∧ P = isL ppV (mBound evs)
abbrev sFit : Stmt := top 37
theorem scFit : FnScope ["many", "pieces", "found", "twos", "row", "one", "two"] ["many", "pieces"] (defScope sFit) := ⟨rfl, rfl, rfl, by decide +kernel, rfl, by decide +kernel, by decide +kernel⟩
def mFit (n : Nat) (evs : List Piece) : List (List Nat) := ((mAll n).filter fun g => evs.all fun e => mOneF g e).filter fun g => (mBound evs).all fun p => mTwoF g p.1 p.2
def RFit : List VP → VP → Prop := fun Ps P => ∃ n evs, Ps = [I ((n : Nat) : Int), isL piece evs] ∧ n ≤ 7 ∧ evs.length ≤ 100 ∧ okEvs n evs ∧ P = isL isNs (mFit n evs)
section
variable {X : Cx} {a b : Expr} {pos : Pos} {σ : L2.St} {N : Hp}
/-- max of a list of numbers -/
theorem ev_maxL {l : List Int} {m : Int} {p : Pos} (hc : X.calm = true) (hm : X.mg "max" = none) (ha : Ev X a σ N (isI l)) (h0 : 0 < l.length) (hx : ∀ k, k ∈ l → (∀ z ∈ l, z ≤ k) → k = m) (hg : Gl X "max" := by rfl) (he : starEach [a] X.env = (false, eval a X.env) :: starEach [] X.env := by rfl) (hpl : (backTo pos (starEach [] X.env)).any (·.1) = false := by rfl) : Ev X (.Call (.Name "max" p) [a] [] pos) σ N (I m) :=
  ev_callB (cr_max hc) hm (by decide +kernel) (ea_cons ha ea_nil he) (fun vs N' H' s p1 Q q => by
    obtain ⟨v, rfl, ad, xs, rfl, ha, pr⟩ := paired1 p1
    have e := paired_map_is pr
    subst e
    refine ⟨ad, l, rfl, SqL.of (s _ _ ha), h0, fun k h1 h2 => q _ N' H' (.refl s) (by rw [hx k h1 h2]; rfl)⟩) hg (by decide) (by decide) he hpl
end
section
variable {P : Program} {w : World} {K : PySem.W.Frag} {mg : Str → Option Value} {base : Heap} {CJ CG CR CK : Addr} {f : Addr} {fd : FuncData}
theorem max_row (row : List Nat) : ∀ k, k ∈ ([-1] ++ row.map fun z : Nat => (z : Int)) → (∀ z ∈ ([-1] ++ row.map fun z : Nat => (z : Int)), z ≤ k) → k = (top1 row : Int) - 1 := by
  intro k hk hall
  have hu : ∀ z ∈ row, z + 1 ≤ top1 row := fun z hz => top1_mem hz
  rcases top1_in (l := row) (a := 0) with h | ⟨z, hz, h⟩
  · have h : top1 row = 0 := h
    rcases List.mem_append.mp hk with q | q
    · have : k = -1 := by simpa using q
      omega
    · obtain ⟨z, hz, rfl⟩ := List.mem_map.mp q
      have := hu z hz
      omega
  · have h : top1 row = z + 1 := h
    have h1 := hall (z : Int) (List.mem_append.mpr (.inr (List.mem_map.mpr ⟨z, hz, rfl⟩)))
    rcases List.mem_append.mp hk with q | q
    · have : k = -1 := by simpa using q
      omega
    · obtain ⟨y, hy, rfl⟩ := List.mem_map.mp q
      have := hu y hy
      omega
theorem ok_all (F : Fun K "all_groupings" "all_groupings" sAll f fd) (T : Txt K mg CJ CG CR CK) : FnOk P w K mg base CX0 1 f fd ["many"] (Pure RAll) := by
  refine pure_ok F scAll (fun Ps P h => by obtain ⟨a, rfl, _⟩ := h; rfl) fun cdv A outer s H0 E hr vs Ps P' N H h sm p => ?_
  obtain ⟨n, rfl, hn, rfl⟩ := h
  obtain ⟨v, rfl, hv⟩ := paired1 p
  refine w_asg (i := 1) (.refl sm) (P := isL isNs [[]]) (ev_lst (ea_cons (ev_lst (R := fun n : Nat => I (n : Int)) (l := []) ea_nil .nil) ea_nil) (.cons (fun _ _ z => z) .nil)) (fun u N1 H1 g s1 hu => ?_) scAll.nd
  refine b_forR (g := gName 2) (lo := 0) (n := ((n : Nat) : Int).toNat) (N := N1) (evi_1 T.nrange (ev_name (i := 0) (P := I (n : Int)) rfl ((I (n : Int)).mono s1 hv)) (by omega)) g.nh
    (fun i σ1 N2 H3 => ∃ fv w2 w3 w4, σ1 = [some v, some fv, w2, w3, w4, none] ∧ Grow N H N2 H3 ∧ (isL isNs (mAll i)).p fv N2)
    (fun H3 s3 => ⟨u, none, none, none, rfl, g.more s3, hu⟩) (fun i σ1 N2 H3 hi s12 s23 ⟨fv, w2, w3, w4, e, g2, hfv⟩ => ?_) (fun σ1 N2 H3 s12 s23 ⟨fv, w2, w3, w4, e, g2, hfv⟩ => ?_) PassesOwn.never rfl (pg_name scAll.nd rfl (Or.inl rfl))
  · subst e
    rw [Int.toNat_natCast] at hi
    show bB _ _ _ _ _
    refine b_asgM (i := 3) (fun ll H4 nll s4 hll => ?_) scAll.nd
    have n2l : N2 ll = none := g2.nh.free nll
    have hl0 : H ll = none := g2.hh.free nll
    have g4 := g2.more s4
    refine b_forL (g := gName 4) (R := isNs) (l := mAll i) (by walk_at "nm") g4.nh
      (fun N0 k σ2 N5 H5 => ∃ w4 xs, σ2 = [some v, some fv, some (.int (0 + (i : Nat))), some (.ref ll), w4, none] ∧ Grow N H N5 H5 ∧ N5 ll = none ∧ H5 ll = some (.lst xs) ∧ Paired (fun v y => (isNs y).p v N5) xs (((mAll i).take k).flatMap mKids))
      (fun N0 H5 g5 => ⟨w4, [], rfl, g4.trans g5, g5.nw ll n2l (by rw [hll]; simp), g5.hh _ _ hll, .nil⟩) (fun N0 k row u2 σ2 N5 H5 s0 hk s05 s55 ⟨w4', xs, e, g5, n5l, h5l, pr⟩ hu2 => ?_) (fun N0 σ2 N5 H5 s0 s05 s55 ⟨w4', xs, e, g5, n5l, h5l, pr⟩ => ?_) PassesOwn.never rfl (pg_name scAll.nd rfl (Or.inr rfl))
    · subst e
      have hrow := (isNs row).mono s05 hu2
      obtain ⟨hr1, hr2⟩ := mAll_row i row (List.mem_of_getElem? hk)
      have hrl := mAll_len i
      have hf7 := fct_le (n := i) (by omega)
      have hklen : (mKids row).length = top1 row + 1 := by unfold mKids; rw [List.length_map, List.length_range]
      have hbound : xs.length + (mKids row).length ≤ 1000000 := by
        have h1 := flat_le (n := i) ((mAll i).take k) fun r hr => (mAll_row i r (List.mem_of_mem_take hr)).2
        rw [← paired_len pr] at h1
        have h2 : ((mAll i).take k).length ≤ 5040 := by rw [List.length_take]; omega
        have h3 : (i + 1) * ((mAll i).take k).length ≤ 8 * 5040 := Nat.mul_le_mul (by omega) h2
        omega
      show bB _ _ _ _ _
      refine b_extend (N := N5) (N2 := N5) (S := isNs) (m := mKids row) h5l hbound (by walk_at "nm") s55 ?_ s55 (fun ys N6 H6 g6 py h6l => b_nil ?_)
      · refine ev_eq (ev_lcR (j := 5) (x := "group") (lo := 0) (n := ((top1 row : Int) - 1 + 2).toNat) (S := isNs) (f := fun g => row ++ [g]) (t := fun _ => true) (evi_1 T.nrange (ev_add (ev_maxL (l := [-1] ++ row.map fun z : Nat => (z : Int)) rfl T.nmax (ev_catL (R := I) (l := [-1]) (m := row.map fun z : Nat => (z : Int)) (ev_lst (ea_cons (ev_neg ev_int) ea_nil) (.cons (fun _ _ z => z) .nil)) (ev_eq (P := isNs row) (by walk_at "nm") isL_map.symm) (by rw [List.length_map]; show 1 + _ ≤ _; omega)) (by simp) (max_row row)) ev_int) (by omega)) (by omega) (fun g N7 s7 hg => ⟨ifs_nil, fun _ _ _ _ _ _ => ?_⟩) rfl scAll.nd (blkOk_by (N := ["many", "found", "turn", "longer", "row", "group"]) (sc := defScope sAll) (by decide +kernel)) (fun _ _ _ _ _ => pg_name scAll.nd rfl (Or.inl rfl))) ?_
        · have hrow7 := (isNs row).mono s7 hrow
          have e0 : (0 : Int) + (g : Nat) = (g : Nat) := by omega
          rw [e0]
          exact ev_catL (R := fun n : Nat => I (n : Int)) (l := row) (m := [g]) (by walk_at "nm") (ev_lst (ea_cons (P := I (g : Int)) (by walk_at "nm") ea_nil) (.cons (fun _ _ z => z) .nil)) (by show row.length + 1 ≤ _; omega)
        · rw [filt_true]
          have : ((top1 row : Int) - 1 + 2).toNat = top1 row + 1 := by omega
          rw [this]
          rfl
      · have n6l := g6.nw ll n5l (by rw [h5l]; simp)
        have gfin := (g5.trans g6).put (o := .lst (xs ++ ys)) n6l hl0
        refine ⟨N6, s05.trans g6.nn, gfin.nh, _, xs ++ ys, rfl, gfin, n6l, upd_same, ?_⟩
        rw [take_more hk, List.flatMap_append]
        refine paired_app (paired_mono pr fun v y z => (isNs y).mono g6.nn z) ?_
        have : [row].flatMap mKids = mKids row := by simp
        rw [this]
        exact py
    · subst e
      rw [List.take_length] at pr
      have g6 := g5.fix n5l hl0 h5l
      have hlx := isL_at (R := isNs) n5l pr
      refine w_asg (i := 1) g6 (P := isL isNs (mAll (i + 1))) (ev_name (i := 3) rfl hlx) (fun fv2 N7 H7 g7 s7 hfv2 => b_nil ?_) scAll.nd
      exact ⟨N7, ((s12.trans s0).trans s05).trans ((same_new n5l).trans s7), g7.nh, fv2, _, _, _, rfl, g7, hfv2⟩
  · subst e
    refine w_end g2 (P := isL isNs (mAll ((n : Nat) : Int).toNat)) (by walk_at "nm") ?_
    rw [Int.toNat_natCast]
theorem one_eqI {g : List Nat} {t : Nat × Nat} (h1 : t.1 < g.length) (h2 : t.2 < g.length) : decide (((g.getD t.1 t.1 : Nat) : Int) = ((g.getD t.2 t.2 : Nat) : Int)) = Vbkoab.one g t.1 t.2 := by
  unfold Vbkoab.one
  by_cases e : t.1 = t.2
  · rw [e]; simp
  · have e1 : (t.1 == t.2) = false := by simpa using e
    rw [e1, Bool.false_or]
    by_cases z : g.getD t.1 t.1 = g.getD t.2 t.2
    · rw [z]; simp
    · have z1 : ¬ ((g.getD t.1 t.1 : Nat) : Int) = ((g.getD t.2 t.2 : Nat) : Int) := fun k => z (Int.ofNat.inj k)
      rw [decide_eq_false z1]
      exact (beq_eq_false_iff_ne.mpr z).symm
theorem ok_allSo (F : Fun K "all_so" "all_so" sAllSo f fd) : FnOk P w K mg base CX0 1 f fd ["row", "twos"] (Pure RAllSo) := by
  refine pure_ok F scAllSo (fun Ps P h => by obtain ⟨g, q, rfl, _⟩ := h; rfl) fun cdv A outer s H0 E hr vs Ps P' N H h sm p => ?_
  obtain ⟨g, ts, rfl, hb, hl, rfl⟩ := h
  obtain ⟨v, v2, rfl, hv, hv2⟩ := paired2 p
  refine w_end (.refl sm) (ev_eqNil (l := (ts.filter fun t => !Vbkoab.one g t.1 t.2).map id) (units_of hr) (ev_lcL (j := 2) (x := "two") (R := two) (l := ts) (t := fun t => !Vbkoab.one g t.1 t.2) (f := id) (by walk_at "nm") (by omega) (fun t u N2 s2 ht hu => ⟨ifs_one fun _ _ _ _ _ => ?_, fun _ _ _ _ _ _ => by walk_at "nm"⟩) rfl scAllSo.nd (blkOk_by (N := ["row", "twos", "two"]) (sc := defScope sAllSo) (by decide +kernel)) (fun _ _ _ _ _ => pg_name scAllSo.nd rfl (Or.inl rfl))) isd_two flat_two (by decide)) ?_
  · have hv := (isNs g).mono s2 hv
    have h1 := (hb t ht).1
    have h2 := (hb t ht).2
    refine (evt_neI (ev_ixL (R := fun n : Nat => I (n : Int)) (by walk_at "nm") (ev_ixT (Ps := [I (t.1 : Int), I (t.2 : Int)]) (by walk_at "nm") ev_int rfl) (at_getD h1)) (ev_ixL (R := fun n : Nat => I (n : Int)) (by walk_at "nm") (ev_ixT (Ps := [I (t.1 : Int), I (t.2 : Int)]) (by walk_at "nm") ev_int rfl) (at_getD h2))).to ?_
    rw [one_eqI h1 h2]
  · rw [List.map_id, empty_all]
theorem one_ok {n : Nat} {t : Nat × Nat} (h : okTwo n t) : ∀ t' ∈ [t], okTwo n t' := fun t' ht' => by
  have : t' = t := by simpa using ht'
  rw [this]; exact h
theorem ev_holds {X : Cx} {σ : L2.St} {N : Hp} {g : List Nat} {cs : List (Nat × Nat)} {o : Option (Nat × Nat)} {e1 e2 e3 : Expr} {pos : Pos} (h1 : Ev X e1 σ N (B o.isNone)) (h2 : Ev X e2 σ N (B (!(cs.all fun t => Vbkoab.one g t.1 t.2)))) (h3 : ∀ t, o = some t → Ev X e3 σ N (B (Vbkoab.one g t.1 t.2))) : Ev X (.BoolOp .Or [e1, e2, e3] pos) σ N (B (holds g cs o)) := by
  cases o with
  | none => exact ev_or (c := true) (d := true) h1 fun z => by cases z
  | some t => exact ev_eq (ev_or (c := false) h1 fun _ => ev_or h2 fun _ => ev_one (h3 t rfl)) (by rw [Bool.false_or]; rfl)
theorem ok_oneF (F : Fun K "one_fits" "one_fits" sOneF f fd) (T : Txt K mg CJ CG CR CK) (GB : GF P w K mg base CX0 1 "joined_by" ["piece"] (Pure RJBy)) (GC : GF P w K mg base CX0 1 "conditions" ["piece"] (Pure RCond)) (GA : GF P w K mg base CX0 1 "all_so" ["row", "twos"] (Pure RAllSo)) : FnOk P w K mg base CX0 2 f fd ["row", "piece"] (Pure ROneF) := by
  refine pure_ok F scOneF (fun Ps P h => by obtain ⟨g, q, rfl, _⟩ := h; rfl) fun cdv A outer s H0 E hr vs Ps P' N H h sm p => ?_
  obtain ⟨g, e, rfl, hoe, rfl⟩ := h
  obtain ⟨v, v2, rfl, hv, hv2⟩ := paired2 p
  obtain ⟨t2, g2⟩ := T.cDIFFER
  refine w_when (.refl sm) (by walk_at "et") (fun h H1 gg => ?_) (fun h H1 gg => ?_)
  · obtain ⟨x, y, rfl⟩ := kind2 (of_decide_eq_true h)
    refine w_end gg (ev_neI (ev_ixL (R := fun n : Nat => I (n : Int)) (by walk_at "nm") (ev_ixT (Ps := (Vbkoab.evNums (.differ x y)).map I) (by walk_at "nm") ev_int rfl) (at_getD hoe.1)) (ev_ixL (R := fun n : Nat => I (n : Int)) (by walk_at "nm") (ev_ixT (Ps := (Vbkoab.evNums (.differ x y)).map I) (by walk_at "nm") ev_int rfl) (at_getD hoe.2))) ?_
    rw [one_eqI (t := (x, y)) hoe.1 hoe.2]
    rfl
  · have h := of_decide_eq_false h
    have em : mOneF g e = holds g (conds e) (byOne e) := by cases e <;> first | rfl | exact absurd rfl h
    refine w_asg (i := 2) gg (P := isO two (byOne e)) (ev_call GB (hr.mono (by decide)) (ea_cons (P := piece e) (by walk_at "nm") ea_nil) ⟨_, rfl, rfl⟩) (fun u N1 H2 g1 s1 hu => ?_) scOneF.nd
    have hv1 := (isNs g).mono s1 hv
    have hv21 := (piece e).mono s1 hv2
    obtain ⟨hc1, hc2⟩ := conds_ok hoe
    refine w_end g1 (P := B (holds g (conds e) (byOne e))) (ev_holds (ev_isN (by walk_at "nm") (isO_non two_non)) (ev_not (ev_call GA (hr.mono (by decide)) (ea_cons (P := isNs g) (by walk_at "nm") (ea_cons (P := isL two (conds e)) (ev_call GC (hr.mono (by decide)) (ea_cons (P := piece e) (by walk_at "nm") ea_nil) ⟨_, rfl, rfl⟩) ea_nil)) ⟨g, _, rfl, hc1, by omega, rfl⟩)) (fun t q => ?_)) (by rw [em])
    rw [q] at hu
    have hu : (two t).p u N1 := hu
    have hbt := byOne_ok hoe q
    exact ev_eq (ev_call GA (hr.mono (by decide)) (ea_cons (P := isNs g) (by walk_at "nm") (ea_cons (P := isL two [t]) (ev_lst (ea_cons (P := two t) (by walk_at "nm") ea_nil) (.cons (fun _ _ z => z) .nil)) ea_nil)) ⟨g, _, rfl, one_ok hbt, by show 1 < 1000; decide, rfl⟩) (by simp)
theorem ok_twoF (F : Fun K "two_fit" "two_fit" sTwoF f fd) (GD : GF P w K mg base CX0 1 "disagree" ["piece", "later"] (Pure RDis)) (GB : GF P w K mg base CX0 1 "joined_by_two" ["piece", "later"] (Pure RJTwo)) (GC : GF P w K mg base CX0 1 "conditions_of_two" ["piece", "later"] (Pure RCond2)) (GA : GF P w K mg base CX0 1 "all_so" ["row", "twos"] (Pure RAllSo)) : FnOk P w K mg base CX0 2 f fd ["row", "piece", "later"] (Pure RTwoF) := by
  refine pure_ok F scTwoF (fun Ps P h => by obtain ⟨g, q, r, rfl, _⟩ := h; rfl) fun cdv A outer s H0 E hr vs Ps P' N H h sm p => ?_
  obtain ⟨g, a, b, rfl, hoa, hob, rfl⟩ := h
  obtain ⟨v, v2, v3, rfl, hv, hv2, hv3⟩ := paired3 p
  have ea_ := evX_ok hoa
  have eb_ := evX_ok hob
  refine w_when (.refl sm) (t := disag a b) (evt_val (ev_call GD (hr.mono (by decide)) (ea_cons (P := piece a) (by walk_at "nm") (ea_cons (P := piece b) (by walk_at "nm") ea_nil)) ⟨_, _, rfl, rfl⟩)) (fun h H1 gg => ?_) (fun h H1 gg => ?_)
  · refine w_end gg (ev_neI (ev_ixL (R := fun n : Nat => I (n : Int)) (by walk_at "nm") (ev_ixT (Ps := (Vbkoab.evNums a).map I) (by walk_at "nm") ev_int (at1 a)) (at_getD ea_)) (ev_ixL (R := fun n : Nat => I (n : Int)) (by walk_at "nm") (ev_ixT (Ps := (Vbkoab.evNums b).map I) (by walk_at "nm") ev_int (at1 b)) (at_getD eb_))) ?_
    rw [one_eqI (t := (evX a, evX b)) ea_ eb_]
    unfold mTwoF
    rw [if_pos h]
  · refine w_asg (i := 3) gg (P := isO two (byTwo a b)) (ev_call GB (hr.mono (by decide)) (ea_cons (P := piece a) (by walk_at "nm") (ea_cons (P := piece b) (by walk_at "nm") ea_nil)) ⟨_, _, rfl, rfl⟩) (fun u N1 H2 g1 s1 hu => ?_) scTwoF.nd
    have hv1 := (isNs g).mono s1 hv
    have hv21 := (piece a).mono s1 hv2
    have hv31 := (piece b).mono s1 hv3
    obtain ⟨hc1, hc2⟩ := conds2_ok hoa hob
    refine w_end g1 (P := B (holds g (conds2 a b) (byTwo a b))) (ev_holds (ev_isN (by walk_at "nm") (isO_non two_non)) (ev_not (ev_call GA (hr.mono (by decide)) (ea_cons (P := isNs g) (by walk_at "nm") (ea_cons (P := isL two (conds2 a b)) (ev_call GC (hr.mono (by decide)) (ea_cons (P := piece a) (by walk_at "nm") (ea_cons (P := piece b) (by walk_at "nm") ea_nil)) ⟨_, _, rfl, rfl⟩) ea_nil)) ⟨g, _, rfl, hc1, by omega, rfl⟩)) (fun t q => ?_)) (by unfold mTwoF; rw [if_neg (by rw [h]; decide)])
    rw [q] at hu
    have hu : (two t).p u N1 := hu
    have hbt := byTwo_ok hoa hob q
    exact ev_eq (ev_call GA (hr.mono (by decide)) (ea_cons (P := isNs g) (by walk_at "nm") (ea_cons (P := isL two [t]) (ev_lst (ea_cons (P := two t) (by walk_at "nm") ea_nil) (.cons (fun _ _ z => z) .nil)) ea_nil)) ⟨g, _, rfl, one_ok hbt, by show 1 < 1000; decide, rfl⟩) (by simp)
theorem boundAt_more (l : List Piece) (a : Piece) (k : Nat) {b : Piece} (hk : l[k]? = some b) : ((l.take (k + 1)).filter fun b => bnd a b).map (fun b => (a, b)) = ((l.take k).filter fun b => bnd a b).map (fun b => (a, b)) ++ (if bnd a b = true then [(a, b)] else []) := by
  rw [take_more hk, List.filter_append, List.map_append]
  congr 1
  by_cases h : bnd a b = true
  · rw [if_pos h]; simp [h]
  · rw [if_neg h]; simp [h]
theorem ok_bound (F : Fun K "bound_twos" "bound_twos" sBound f fd) (T : Txt K mg CJ CG CR CK) (GD : GF P w K mg base CX0 1 "disagree" ["piece", "later"] (Pure RDis)) (GB : GF P w K mg base CX0 1 "joined_by_two" ["piece", "later"] (Pure RJTwo)) : FnOk P w K mg base CX0 2 f fd ["pieces"] (Pure RBound) := by
  refine pure_ok F scBound (fun Ps P h => by obtain ⟨g, rfl, _⟩ := h; rfl) fun cdv A outer s H0 E hr vs Ps P' N H h sm p => ?_
  obtain ⟨evs, rfl, hl, rfl⟩ := h
  obtain ⟨v, rfl, hv⟩ := paired1 p
  have blen : ∀ n a, (mBoundAt evs n a).length ≤ 100 := fun n a => by
    unfold mBoundAt
    rw [List.length_map]
    refine Nat.le_trans (List.length_filter_le _ _) ?_
    rw [List.length_drop]; omega
  have tlen : ∀ k, k ≤ 100 → ((List.range k).flatMap fun n => match evs[n]? with | some a => mBoundAt evs n a | none => []).length ≤ k * 100 := by
    intro k
    induction k with
    | zero => intro _; simp
    | succ k ih =>
      intro hk
      rw [List.range_succ, List.flatMap_append, List.length_append]
      have h1 := ih (by omega)
      have h2 : ([k].flatMap fun n => match evs[n]? with | some a => mBoundAt evs n a | none => []).length ≤ 100 := by
        simp only [List.flatMap_cons, List.flatMap_nil, List.append_nil]
        split
        · exact blen _ _
        · simp
      omega
  refine b_asgM (i := 1) (fun fl H1 nfl s1 hfl => ?_) scBound.nd
  have nf := sm.free nfl
  refine b_forE (i1 := 2) (i2 := 3) (R := piece) (l := evs) T.nenum (by walk_at "nm") (sm.trans s1)
    (fun N0 k σ2 N8 H8 => ∃ w2 w3 w4 xs, σ2 = [some v, some (.ref fl), w2, w3, w4] ∧ Grow N H N8 H8 ∧ N8 fl = none ∧ H8 fl = some (.lst xs) ∧ Paired (fun v y => (ppV y).p v N8) xs ((List.range k).flatMap fun n => match evs[n]? with | some a => mBoundAt evs n a | none => []))
    (fun N0 H8 g8 => ⟨none, none, none, [], rfl, (Grow.keep sm s1).trans g8, g8.nw fl nf (by rw [hfl]; simp), g8.hh _ _ hfl, .nil⟩) (fun N0 k a u σ2 N8 H8 s0 hk s08 s88 ⟨w2, w3, w4, xs, e, g8, n8f, h8f, pr⟩ hu H9 s9 => ?_) (fun N0 σ2 N8 H8 s0 s08 s88 ⟨w2, w3, w4, xs, e, g8, n8f, h8f, pr⟩ => ?_) PassesOwn.never rfl (pg_tup rfl (pgs_cons (pg_name scBound.nd rfl (Or.inl rfl)) (pgs_cons (pg_name scBound.nd rfl (Or.inl rfl)) pgs_nil)))
  · subst e
    have hkl := (List.getElem?_eq_some_iff.mp hk).1
    have hv8 := (isL piece evs).mono g8.nn hv
    have hcut : cutA evs (some ((k : Int) + 1)) none = evs.drop (k + 1) := by
      unfold cutA
      have e1 : ((k : Int) + 1) = ((k + 1 : Nat) : Int) := by omega
      rw [e1, HT.sIx_nat, HT.sIx_none, Nat.min_eq_left (by omega)]
      rw [List.take_of_length_le (by rw [List.length_drop]; exact Nat.le_refl _)]
    refine b_forL (g := gName 4) (R := piece) (l := evs.drop (k + 1)) (N := N8) (ev_eq (ev_slL (R := piece) (by walk_at "nm") (eo_some (ev_add (i := (k : Int)) (j := 1) (by walk_at "nm") ev_int)) eo_none) (by rw [hcut])) (g8.nh.trans s9)
      (fun N1 m σ3 N10 H10 => ∃ w4 ys, σ3 = [some v, some (.ref fl), some (.int ((k : Nat) : Int)), some u, w4] ∧ Grow N H N10 H10 ∧ N10 fl = none ∧ H10 fl = some (.lst (xs ++ ys)) ∧ Same N8 N10 ∧ Paired (fun v y => (ppV y).p v N10) ys ((((evs.drop (k + 1)).take m).filter fun b => bnd a b).map fun b => (a, b)))
      (fun N1 H10 g10 => ⟨w4, [], rfl, (g8.more s9).trans g10, g10.nw fl n8f (by rw [s9 _ _ h8f]; simp), by rw [List.append_nil]; exact g10.hh _ _ (s9 _ _ h8f), g10.nn, .nil⟩) (fun N1 m b ub σ3 N10 H10 s81 hm s110 s1010 ⟨w4', ys, e, g10, n10f, h10f, s810, py⟩ hub => ?_) (fun N1 σ3 N10 H10 s81 s110 s1010 ⟨w4', ys, e, g10, n10f, h10f, s810, py⟩ => b_nil ?_) PassesOwn.never rfl (pg_name scBound.nd rfl (Or.inl rfl))
    · subst e
      have hu10 := (piece a).mono (s08.trans s810) hu
      have hub10 := (piece b).mono s110 hub
      show bB _ _ _ _ _
      refine b_when (t := bnd a b) (evt_w (evw_or (evt_val (ev_call GD (hr.mono (by decide)) (ea_cons (P := piece a) (by walk_at "nm") (ea_cons (P := piece b) (by walk_at "nm") ea_nil)) ⟨_, _, rfl, rfl⟩)) fun _ => evw_or1 ((evt_notN (ev_call GB (hr.mono (by decide)) (ea_cons (P := piece a) (by walk_at "nm") (ea_cons (P := piece b) (by walk_at "nm") ea_nil)) ⟨_, _, rfl, rfl⟩) (isO_non two_non)).to (by cases byTwo a b <;> rfl)))) s1010 (fun h H11 s11 => ?_) (fun h H11 s11 => b_nil ⟨N10, s110, s1010.trans s11, _, ys, rfl, g10.more s11, n10f, s11 _ _ h10f, s810, ?_⟩)
      · have hxl : (xs ++ ys).length < 1000000 := by
          rw [List.length_append, paired_len pr, paired_len py]
          have h1 := tlen k (by omega)
          have h2 : ((((evs.drop (k + 1)).take m).filter fun b => bnd a b).map fun b => (a, b)).length ≤ 100 := by
            rw [List.length_map]
            refine Nat.le_trans (List.length_filter_le _ _) ?_
            rw [List.length_take, List.length_drop]; omega
          have h3 : k * 100 ≤ 100 * 100 := Nat.mul_le_mul (by omega) (Nat.le_refl _)
          omega
        refine b_append (N := N10) (N2 := N10) (P := ppV (a, b)) (l := fl) (xs := xs ++ ys) (s11 _ _ h10f) hxl (by walk_at "nm") (s1010.trans s11) (ev_tup (ea_cons (P := piece a) (by walk_at "nm") (ea_cons (P := piece b) (by walk_at "nm") ea_nil))) (s1010.trans s11) (fun v12 N12 H12 g12 hv12 h12f => b_nil (b_nil ?_))
        have n12f := g12.nw fl n10f (by rw [s11 _ _ h10f]; simp)
        have gfin := ((g10.more s11).trans g12).put (o := .lst (xs ++ ys ++ [v12])) n12f nfl
        refine ⟨N12, s110.trans g12.nn, gfin.nh, _, ys ++ [v12], rfl, gfin, n12f, by rw [upd_same, List.append_assoc], s810.trans g12.nn, ?_⟩
        rw [boundAt_more _ a m hm, if_pos h]
        exact paired_app (paired_mono py fun v y z => (ppV y).mono g12.nn z) (.cons hv12 .nil)
      · rw [boundAt_more _ a m hm, if_neg (by rw [h]; decide), List.append_nil]
        exact py
    · subst e
      rw [List.take_length] at py
      refine ⟨N10, s08.trans s810, s1010, _, _, _, xs ++ ys, rfl, g10, n10f, h10f, ?_⟩
      rw [List.range_succ, List.flatMap_append]
      refine paired_app (paired_mono pr fun v y z => (ppV y).mono s810 z) ?_
      simp only [List.flatMap_cons, List.flatMap_nil, List.append_nil]
      rw [hk]
      exact py
  · subst e
    have hlx := isL_at (R := ppV) n8f pr
    exact w_end (g8.fix n8f nfl h8f) (P := isL ppV (mBound evs)) (by walk_at "nm")
def pieceD (e : Piece) : PyData := .tuple ((Vbkoab.evNums e).map PyData.int)
theorem isd_piece (e : Piece) : IsD (piece e) (pieceD e) := isd_tup (isd_ints _)
theorem flat_piece (e : Piece) : Flat 2 (pieceD e) := flat_tup (k := 1) flatd_ints
def ppD (p : Piece × Piece) : PyData := .tuple [pieceD p.1, pieceD p.2]
theorem isd_pp (p : Piece × Piece) : IsD (ppV p) (ppD p) := isd_tup (.cons (isd_piece _) (.cons (isd_piece _) .nil))
theorem flat_pp (p : Piece × Piece) : Flat 3 (ppD p) := flat_tup (k := 2) fun d hd => by
  rcases List.mem_cons.mp hd with rfl | hd
  · exact flat_piece _
  · rcases List.mem_cons.mp hd with rfl | hd
    · exact flat_piece _
    · cases hd
/-- the scope of a comprehension that a statement holds -/
def compScope : Stmt → Scope
  | .Assign _ (.ListComp _ _ sc _) _ => sc
  | .Return (some (.ListComp _ _ sc _)) _ => sc
  | _ => { kind := .function, names := [], isGenerator := false, isCoroutine := false }
theorem mBound_ok {n : Nat} {evs : List Piece} (h : okEvs n evs) : ∀ p ∈ mBound evs, okEv n p.1 ∧ okEv n p.2 := by
  intro p hp
  obtain ⟨i, _, hi⟩ := List.mem_flatMap.mp hp
  cases q : evs[i]? with
  | none => rw [q] at hi; cases hi
  | some a =>
    rw [q] at hi
    have hi : p ∈ mBoundAt evs i a := hi
    obtain ⟨b, hb, rfl⟩ := List.mem_map.mp hi
    exact ⟨h a (List.mem_of_getElem? q), h b (List.mem_of_mem_drop (List.mem_filter.mp hb).1)⟩
theorem mBound_len {evs : List Piece} (hl : evs.length ≤ 100) : (mBound evs).length ≤ 10000 := by
  have blen : ∀ n a, (mBoundAt evs n a).length ≤ 100 := fun n a => by
    unfold mBoundAt
    rw [List.length_map]
    refine Nat.le_trans (List.length_filter_le _ _) ?_
    rw [List.length_drop]; omega
  have tlen : ∀ k, k ≤ 100 → ((List.range k).flatMap fun n => match evs[n]? with | some a => mBoundAt evs n a | none => []).length ≤ k * 100 := by
    intro k
    induction k with
    | zero => intro _; simp
    | succ k ih =>
      intro hk
      rw [List.range_succ, List.flatMap_append, List.length_append]
      have h1 := ih (by omega)
      have h2 : ([k].flatMap fun n => match evs[n]? with | some a => mBoundAt evs n a | none => []).length ≤ 100 := by
        simp only [List.flatMap_cons, List.flatMap_nil, List.append_nil]
        split
        · exact blen _ _
        · simp
      omega
  have h1 := tlen evs.length hl
  have h2 : evs.length * 100 ≤ 100 * 100 := Nat.mul_le_mul hl (Nat.le_refl _)
  exact Nat.le_trans h1 h2
theorem ok_fit (F : Fun K "fitting" "fitting" sFit f fd) (GAll : GF P w K mg base CX0 1 "all_groupings" ["many"] (Pure RAll)) (GO : GF P w K mg base CX0 2 "one_fits" ["row", "piece"] (Pure ROneF)) (GB : GF P w K mg base CX0 2 "bound_twos" ["pieces"] (Pure RBound)) (GT : GF P w K mg base CX0 2 "two_fit" ["row", "piece", "later"] (Pure RTwoF)) : FnOk P w K mg base CX0 3 f fd ["many", "pieces"] (Pure RFit) := by
  refine pure_ok F scFit (fun Ps P h => by obtain ⟨a, b, rfl, _⟩ := h; rfl) fun cdv A outer s H0 E hr vs Ps P' N H h sm p => ?_
  obtain ⟨n, evs, rfl, hn, hl, hok, rfl⟩ := h
  obtain ⟨v, v2, rfl, hv, hv2⟩ := paired2 p
  have hal := mAll_len n
  have hf7 := fct_le hn
  refine w_lcL (i := 2) (j := 4) (x := "row") (R := isNs) (S := isNs) (l := mAll n) (f := id) (t := fun g => evs.all fun e => mOneF g e) (.refl sm) (ev_call GAll (hr.mono (by decide)) (ea_cons (P := I (n : Int)) (by walk_at "nm") ea_nil) ⟨n, rfl, hn, rfl⟩) (by omega) (fun g u N1 s1 hg hu => ⟨ifs_one fun _ _ _ _ _ => ?_, fun _ _ _ _ _ _ => by walk_at "nm"⟩) (fun u N1 H1 g1 s1 hu => ?_) rfl scFit.nd (blkOk_by (N := ["many", "pieces", "found", "twos", "row", "one", "two"]) (sc := defScope sFit) (by decide +kernel)) (fun _ _ _ _ _ => pg_name scFit.nd rfl (Or.inr rfl)) (sw_true rfl rfl rfl (by decide +kernel))
  · have hgl := (mAll_row n g hg).1
    have hv21 := (isL piece evs).mono s1 hv2
    refine (evt_eqNil (l := (evs.filter fun e => !mOneF g e).map id) (units_of hr) (ev_lcL (j := 5) (x := "one") (R := piece) (S := piece) (l := evs) (t := fun e => !mOneF g e) (f := id) (by walk_at "nm") (by omega) (fun e u2 N2 s2 he hu2 => ⟨ifs_one fun _ _ _ _ _ => ?_, fun _ _ _ _ _ _ => by walk_at "nm"⟩) rfl scFit.nd (blkOk_by (N := ["many", "pieces", "found", "twos", "row", "one", "two"]) (sc := relS (compScope ((defBody sFit).getD 0 (.Pass ⟨0, 0, 0, 0⟩))) (defScope sFit)) (by decide +kernel)) (fun _ _ _ _ _ => pg_name scFit.nd rfl (Or.inl rfl))) isd_piece flat_piece (by decide)).to (by rw [List.map_id, empty_all])
    have hu1 := (isNs g).mono s2 hu
    exact evt_not (evt_val (ev_call GO (hr.mono (by decide)) (ea_cons (P := isNs g) (by walk_at "nm") (ea_cons (P := piece e) (by walk_at "nm") ea_nil)) ⟨g, e, rfl, by rw [hgl]; exact hok e he, rfl⟩))
  · rw [List.map_id] at hu
    have hv21 := (isL piece evs).mono s1 hv2
    refine w_asg (i := 3) g1 (P := isL ppV (mBound evs)) (ev_call GB (hr.mono (by decide)) (ea_cons (P := isL piece evs) (by walk_at "nm") ea_nil) ⟨evs, rfl, hl, rfl⟩) (fun tw N2 H2 g2 s2 htw => ?_) scFit.nd
    have hu2 := (isL isNs ((mAll n).filter fun g => evs.all fun e => mOneF g e)).mono s2 hu
    have hfl : ((mAll n).filter fun g => evs.all fun e => mOneF g e).length ≤ 5040 := Nat.le_trans (List.length_filter_le _ _) (by omega)
    have hbl := mBound_len hl
    refine w_end g2 (P := isL isNs (((((mAll n).filter fun g => evs.all fun e => mOneF g e)).filter fun g => (mBound evs).all fun p => mTwoF g p.1 p.2).map id)) (ev_lcL (j := 4) (x := "row") (R := isNs) (S := isNs) (f := id) (t := fun g => (mBound evs).all fun p => mTwoF g p.1 p.2) (by walk_at "nm") (by omega) (fun g u3 N3 s3 hg hu3 => ⟨ifs_one fun _ _ _ _ _ => ?_, fun _ _ _ _ _ _ => by walk_at "nm"⟩) rfl scFit.nd (blkOk_by (N := ["many", "pieces", "found", "twos", "row", "one", "two"]) (sc := defScope sFit) (by decide +kernel)) (fun _ _ _ _ _ => pg_name scFit.nd rfl (Or.inr rfl))) (by rw [List.map_id]; rfl)
    have hgl := (mAll_row n g (List.mem_filter.mp hg).1).1
    have htw3 := (isL ppV (mBound evs)).mono s3 htw
    refine (evt_eqNil (l := ((mBound evs).filter fun p => !mTwoF g p.1 p.2).map id) (units_of hr) (ev_lcL (j := 6) (x := "two") (R := ppV) (S := ppV) (l := mBound evs) (t := fun p => !mTwoF g p.1 p.2) (f := id) (by walk_at "nm") (by omega) (fun e u4 N4 s4 he hu4 => ⟨ifs_one fun _ _ _ _ _ => ?_, fun _ _ _ _ _ _ => by walk_at "nm"⟩) rfl scFit.nd (blkOk_by (N := ["many", "pieces", "found", "twos", "row", "one", "two"]) (sc := relS (compScope ((defBody sFit).getD 2 (.Pass ⟨0, 0, 0, 0⟩))) (defScope sFit)) (by decide +kernel)) (fun _ _ _ _ _ => pg_name scFit.nd rfl (Or.inl rfl))) isd_pp flat_pp (by decide)).to (by rw [List.map_id, empty_all])
    have hu1 := (isNs g).mono s4 hu3
    obtain ⟨o1, o2⟩ := mBound_ok hok e he
    exact evt_not (evt_val (ev_call GT (hr.mono (by decide)) (ea_cons (P := isNs g) (by walk_at "nm") (ea_cons (P := piece e.1) (ev_ixT (Ps := [piece e.1, piece e.2]) (by walk_at "nm") ev_int rfl) (ea_cons (P := piece e.2) (ev_ixT (Ps := [piece e.1, piece e.2]) (by walk_at "nm") ev_int rfl) ea_nil))) ⟨g, _, _, rfl, by rw [hgl]; exact o1, by rw [hgl]; exact o2, rfl⟩))
end
end PB
namespace PB
open PySem PySem.Spec PyProof.Rows L2
local macro_rules | `(tactic| walk_at "at") => `(tactic| first | exact at0 _ | exact at1 _ | rfl | assumption)
local macro_rules | `(tactic| walk_at "p") => `(tactic| first | assumption | exact (rfl : (is _).p _ _))
local macro_rules | `(tactic| walk_at "nm") => `(tactic| first
  | exact ev_glob (by assumption) (by first | exact ⟨_, rfl⟩ | rfl)
  | exact ev_nameI (by rfl) rfl (by walk_at "p"))
local macro_rules | `(tactic| walk_at "ev") => `(tactic| first
  | (with_reducible show Ev _ (PySem.Expr.Constant _ _ _) _ _ _); first | exact ev_int | exact ev_non | exact ev_bool | exact ev_str
  | (with_reducible show Ev _ (PySem.Expr.Name _ _) _ _ _); walk_at "nm"
  | (with_reducible show Ev _ (PySem.Expr.Subscript _ _ _) _ _ _); first | exact ev_ixT (by walk_at "ev") (by walk_at "ev") (by walk_at "at") | exact ev_ixL (by walk_at "ev") (by walk_at "ev") (by walk_at "at")
  | (with_reducible show Ev _ (PySem.Expr.Tuple _ _ _) _ _ _); exact ev_tup (by walk_at "ea")
  | (with_reducible show Ev _ (PySem.Expr.UnaryOp PySem.UnaryOp.USub _ _) _ _ _); exact ev_neg (by walk_at "ev")
  | (with_reducible show Ev _ (PySem.Expr.Compare _ [PySem.CmpOp.Eq] _ _) _ _ _); exact ev_eqI (by walk_at "ev") (by walk_at "ev")
  | (with_reducible show Ev _ (PySem.Expr.Compare _ [PySem.CmpOp.NotEq] _ _) _ _ _); exact ev_neI (by walk_at "ev") (by walk_at "ev"))
local macro_rules | `(tactic| walk_at "ea") => `(tactic| first
  | (with_reducible show EvA _ [] _ _ _); exact ea_nil
  | exact ea_cons (by walk_at "ev") (by walk_at "ea"))
local macro_rules | `(tactic| walk_at "et") => `(tactic| first
  | (with_reducible show EvT _ (PySem.Expr.Compare _ [PySem.CmpOp.Eq] _ _) _ _ _); exact evt_eqI (by walk_at "ev") (by walk_at "ev")
  | (with_reducible show EvT _ (PySem.Expr.Compare _ [PySem.CmpOp.NotEq] _ _) _ _ _); exact evt_neI (by walk_at "ev") (by walk_at "ev")
  | (with_reducible show EvT _ (PySem.Expr.Compare _ [PySem.CmpOp.Lt] _ _) _ _ _); exact evt_ltI (by walk_at "ev") (by walk_at "ev")
  | (with_reducible show EvT _ (PySem.Expr.Compare _ [PySem.CmpOp.LtE] _ _) _ _ _); exact evt_leI (by walk_at "ev") (by walk_at "ev")
  | (with_reducible show EvT _ (PySem.Expr.Compare _ [PySem.CmpOp.Gt] _ _) _ _ _); exact evt_gtI (by walk_at "ev") (by walk_at "ev")
  | (with_reducible show EvT _ (PySem.Expr.Compare _ [PySem.CmpOp.GtE] _ _) _ _ _); exact evt_geI (by walk_at "ev") (by walk_at "ev"))
/-! ### keeper.py: need, listed, look -/
/-- the greatest number by its word -/
def great (w : Str) : Int := if w = "person" then 15 else if w = "field" then 3 else if w = "sort" then 5 else if w = "worth" then 1000000000000 else if w = "piece" then 29 else 30
def words6 : List Str := ["person", "field", "sort", "worth", "piece", "count"]
def NUMS : List Int := [0, 2, 2, 3, 3, 3, 4, 6, 1, 0, 0, 0, 2, 2, 2, 2, 2, 0, 3, 2, 2, 0, 2]
/-- what else stands behind the top -/
structure Txt2 (K : PySem.W.Frag) (w : World) (mg : Str → Option Value) (CE fI : Addr) : Prop where
  ref : PySem.RefX.RefTxt K mg CE fI
  great : ∃ a, mg "GREATEST" = some (.ref a) ∧ ∀ x ∈ words6, KDct K w a x (.int (great x))
  numbers : ∃ a, mg "NUMBERS" = some (.ref a) ∧ ∀ H, SqT K H a (NUMS.map V.int)
abbrev sNeed : Stmt := top 57
theorem scNeed : FnScope ["truth", "answer"] ["truth", "answer"] (defScope sNeed) := ⟨rfl, rfl, rfl, by decide +kernel, rfl, by decide +kernel, by decide +kernel⟩
def okIf (b : Bool) (P : VP) (i : Int) : Except Int VP := if b = true then .ok P else .error i
def RNeed : List VP → Except Int VP → Prop := fun Ps r => ∃ b i, Ps = [B b, I i] ∧ r = okIf b N_ i
abbrev sListed : Stmt := top 58
theorem scListed : FnScope ["row"] ["row"] (defScope sListed) := ⟨rfl, rfl, rfl, by decide +kernel, rfl, by decide +kernel, by decide +kernel⟩
def RListed : List VP → VP → Prop := fun Ps P => ∃ l : List Nat, Ps = [isNs l] ∧ l.length < 100000 ∧ P = isNs (l.length :: l)
/-- the keeper's state -/
abbrev KS := Nat × List Piece
def keeperF (s : KS) : List (Str × VP) := [("many", I (s.1 : Int)), ("pieces", isL piece s.2)]
def keeper (CK : Addr) (s : KS) : VP := isIns CK (keeperF s)
def okS (s : KS) : Prop := s.1 ≤ 16 ∧ s.2.length ≤ 30 ∧ okEvs s.1 s.2
theorem lkK_many {s : KS} : List.lookup ("many" : Str) (keeperF s) = some (I (s.1 : Int)) := lk_here
theorem lkK_pieces {s : KS} : List.lookup ("pieces" : Str) (keeperF s) = some (isL piece s.2) := (lk_past (by decide +kernel)).trans lk_here
theorem lkK_m {s : KS} {m : Str} (h1 : (m == ("many" : Str)) = false) (h2 : (m == ("pieces" : Str)) = false) : List.lookup m (keeperF s) = none := (lk_past h1).trans ((lk_past h2).trans rfl)
def inGreat (p : Str × Int) : Bool := decide (0 ≤ p.2) && decide (p.2 ≤ great p.1)
def isThere (n m : Nat) (p : Str × Int) : Bool := (!decide (p.1 = "person") || decide (p.2 < n)) && (!decide (p.1 = "piece") || decide (p.2 < m))
def mLook (s : KS) (ps : List (Str × Int)) : Option Int := if ps.all inGreat = true then (if (ps.all (isThere s.1 s.2.length)) = true then none else some (-4)) else some (-1)
def orErr (o : Option Int) (P : VP) : Except Int VP := match o with
  | none => .ok P
  | some i => .error i
def wordsV (ws : List Str) : VP := isT (ws.map fun w => is (.str w))
abbrev sLook : Stmt := inClass (top 59) 1
theorem scLook : FnScope ["self", "words", "numbers", "word", "number"] ["self", "words", "numbers"] (defScope sLook) := ⟨rfl, rfl, rfl, by decide +kernel, rfl, by decide +kernel, by decide +kernel⟩
def RLook (CK : Addr) : List VP → Except Int VP → Prop := fun Ps r => ∃ s ws l, Ps = [keeper CK s, wordsV ws, isI l] ∧ ws.length = l.length ∧ (∀ w ∈ ws, w ∈ words6) ∧ r = orErr (mLook s (ws.zip l)) N_
section
variable {X : Cx} {a e : Expr} {pos p : Pos} {σ : L2.St} {N H : Hp} {CE fI : Addr} {k : Nat} {rest : List Stmt} {D : Ends} {W : WX} {P : VP}
theorem b_raise (hc : X.calm = true) (T : PySem.RefX.RefTxt X.K X.mg CE fI) (hr : Room k X.A) (tk : Takes X W) {i : Int} (h : Ev X a σ N (I i)) (s : Same N H) (q : ∀ d H', Same H H' → H' d = some (.xd [(("answer" : Str), .int i)]) → W (.ref CE) (some d) σ H') {p1 p2 p3 : Pos} (hg : Gl X "Refused" := by rfl)
    (he : starEach (a :: []) X.env = (false, eval a X.env) :: starEach [] X.env := by rfl) (hpl : (backTo p2 (starEach [] X.env)).any (·.1) = false := by rfl) : bB X (.Raise (some (.Call (.Name "Refused" p1) [a] [] p2)) none p3 :: rest) D σ H :=
  bB_of (t := tSeq (tRaiseRef CE W (bA X [a])) (bB X rest)) (pss_cons (ps_raiseRef hc T hr tk pa_b hg he hpl) pss_b) ((ea_cons h ea_nil he) H s _ fun vs N' H' g p1 => by
    obtain ⟨v, rfl, rfl⟩ := paired1 p1
    exact ⟨_, rfl, fun d hd => q d _ (g.hh.trans (same_new hd)) upd_same⟩)
end
section
variable {P : Program} {w : World} {K : PySem.W.Frag} {mg : Str → Option Value} {base : Heap} {CJ CG CR CK CE fI : Addr} {f : Addr} {fd : FuncData}
theorem ok_need (F : Fun K "need" "need" sNeed f fd) (T2 : Txt2 K w mg CE fI) : FnOk P w K mg base (L2.CX P w) 2 f fd ["truth", "answer"] (PureX CE RNeed) := by
  refine pureX_ok F scNeed (fun Ps r h => by obtain ⟨b, i, rfl, _⟩ := h; rfl) fun cdv A outer s H0 E X hX hr tk hx hp vs Ps r N H h sm p er => ?_
  subst hX
  obtain ⟨b, i, rfl, rfl⟩ := h
  obtain ⟨v, v2, rfl, hv, hv2⟩ := paired2 p
  refine w_when (.refl sm) (evt_not (evt_val (c := b) (by walk_at "nm"))) (fun h H1 g => ?_) (fun h H1 g => ?_)
  · have h : b = false := by simpa using h
    subst h
    exact b_raise rfl T2.ref hr tk (i := i) (ev_name (i := 1) rfl hv2) g.nh fun d H' s' hd => er i rfl d H' (g.hh.trans s') hd
  · have h : b = true := by simpa using h
    subst h
    exact b_nil ⟨N_, rfl, N, g, rfl⟩
theorem ok_listed (F : Fun K "listed" "listed" sListed f fd) (T : Txt K mg CJ CG CR CK) : FnOk P w K mg base CX0 1 f fd ["row"] (Pure RListed) := by
  refine pure_ok F scListed (fun Ps P h => by obtain ⟨a, rfl, _⟩ := h; rfl) fun cdv A outer s H0 E hr vs Ps P' N H h sm p => ?_
  obtain ⟨l, rfl, hl, rfl⟩ := h
  obtain ⟨v, rfl, hv⟩ := paired1 p
  exact w_end (.refl sm) (P := isNs ([l.length] ++ l)) (ev_catL (ev_lst (ea_cons (ev_lenL (R := fun n : Nat => I (n : Int)) (l := l) T.nlen (by walk_at "nm")) ea_nil) (.cons (fun _ _ z => z) .nil)) (by walk_at "nm") (by show 1 + l.length ≤ 1000000; omega))
end
section
variable {X : Cx} {c n : Expr} {pos pos2 p : Pos} {σ : L2.St} {N N0 H0 H : Hp} {CE : Addr} {rest : List Stmt} {D : Ends} {E : XK} {b : Bool} {i : Int}
/-- need(c, i) -/
theorem w_need (GN : GF X.prog X.w X.K X.mg X.base (L2.CX X.prog X.w) 2 "need" ["truth", "answer"] (PureX CE RNeed)) (hr : Room 2 X.A) (hx : Passes (L2.CX X.prog X.w) X E) (g : Grow N0 H0 N H) (hc : Ev X c σ N (B b)) (hi : Ev X n σ N (I i))
    (k1 : b = true → ∀ H1, Grow N0 H0 N H1 → bB X rest D σ H1) (k2 : b = false → Fail CE i H0 E) (hg : Gl X "need" := by rfl) (he : starEach [c, n] X.env = (false, eval c X.env) :: starEach [n] X.env := by rfl) (he2 : starEach [n] X.env = (false, eval n X.env) :: starEach [] X.env := by rfl)
    (hpl : (backTo pos (starEach [n] X.env)).any (·.1) = false := by rfl) (hs : swapsWith (.Call (.Name "need" p) [c, n] [] pos) none pos2.line X.env = pure false := by rfl) : bB X (.Expr (.Call (.Name "need" p) [c, n] [] pos) pos2 :: rest) D σ H :=
  w_exprX (CE := CE) (E := E) g (evx_call GN hr hx (ea_cons hc (ea_cons hi ea_nil he2) he) ⟨b, i, rfl, rfl⟩ hg (by decide) he hpl) (fun P e H1 g1 => k1 (by cases b with | true => rfl | false => cases e) H1 g1) (fun j e => by
    cases b with
    | true => cases e
    | false => cases e; exact k2 rfl) hs
end
theorem dec_str {x y : Str} : (!decide (V.str x = V.str y)) = !decide (x = y) := by
  by_cases h : x = y
  · subst h; rw [decide_eq_true rfl, decide_eq_true rfl]
  · rw [decide_eq_false h, decide_eq_false fun z => h (by cases z; rfl)]
theorem all_take {α : Type} {t : α → Bool} {l : List α} {i : Nat} {y : α} (h : (l.take i).all t = true) (e : l[i]? = some y) (ht : t y = true) : (l.take (i + 1)).all t = true := by
  rw [take_more e, List.all_append, h]
  simp [ht]
theorem all_not {α : Type} {t : α → Bool} {l : List α} {i : Nat} {y : α} (e : l[i]? = some y) (ht : t y = false) : ¬ l.all t = true := fun z => by
  have := List.all_eq_true.mp z y (List.mem_of_getElem? e)
  rw [ht] at this; cases this
theorem zip_at {α β : Type} : ∀ {l : List α} {m : List β} {i : Nat} {x : α} {y : β}, l[i]? = some x → m[i]? = some y → (l.zip m)[i]? = some (x, y)
  | [], _, _, _, _, h, _ => by simp at h
  | _ :: _, [], _, _, _, _, h => by simp at h
  | a :: l, b :: m, 0, x, y, h, h2 => by simp at h h2; subst h h2; rfl
  | a :: l, b :: m, i + 1, x, y, h, h2 => by simp at h h2; simpa using zip_at h h2
section
variable {P : Program} {w : World} {K : PySem.W.Frag} {mg : Str → Option Value} {base : Heap} {CJ CG CR CK CE fI : Addr} {f : Addr} {fd : FuncData}
theorem ok_look (F : Fun K "look" "Keeper.look" sLook f fd) (T : Txt K mg CJ CG CR CK) (T2 : Txt2 K w mg CE fI) (GN : GF P w K mg base (L2.CX P w) 2 "need" ["truth", "answer"] (PureX CE RNeed)) : FnOk P w K mg base (L2.CX P w) 3 f fd ["self", "words", "numbers"] (PureX CE (RLook CK)) := by
  refine pureX_ok F scLook (fun Ps r h => by obtain ⟨b, i, l, rfl, _⟩ := h; rfl) fun cdv A outer st H0 E X hX hr tk hx hp vs Ps r N H h sm p er => ?_
  subst hX
  obtain ⟨s, ws, l, rfl, hlen, hw6, rfl⟩ := h
  obtain ⟨v, v2, v3, rfl, hv, hv2, hv3⟩ := paired3 p
  obtain ⟨aG, gG, hG⟩ := T2.great
  obtain ⟨t1, g1⟩ := T.cOUT
  obtain ⟨t2, g2⟩ := T.cABS
  obtain ⟨t3, g3⟩ := T.cPER
  obtain ⟨t4, g4⟩ := T.cPIE
  have hl2 : (ws.map fun w => is (V.str w)).length = l.length := by rw [List.length_map]; exact hlen
  have zl : (ws.zip l).length = l.length := by rw [List.length_zip, hlen, Nat.min_self]
  have getW : ∀ {i : Nat} {Q : VP}, (ws.map fun w => is (V.str w))[i]? = some Q → ∃ x, ws[i]? = some x ∧ Q = is (V.str x) := by
    intro i Q h
    rw [List.getElem?_map] at h
    cases q : ws[i]? with
    | none => rw [q] at h; cases h
    | some x => rw [q] at h; exact ⟨x, rfl, (Option.some.inj h).symm⟩
  refine b_forZ (l := l) (i1 := 3) (i2 := 4) (R := I) (Ps := ws.map fun w => is (V.str w)) T.nzip (ev_name (i := 1) rfl hv2) (ev_name (i := 2) rfl hv3) hl2 sm (fun N0 i σ1 N1 H1 => ∃ w3 w4, σ1 = [some v, some v2, some v3, w3, w4] ∧ Grow N H N1 H1 ∧ ((ws.zip l).take i).all inGreat = true)
    (fun N0 H1 g => ⟨none, none, rfl, g, rfl⟩) (fun N0 i Q y u u2 σ1 N1 H1 s0 hQ hy s01 s11 ⟨w3, w4, e, g, hall⟩ hu hu2 H2 s2 => ?_) (fun N0 σ1 N1 H1 s0 s01 s11 ⟨w3, w4, e, g, hall⟩ => ?_) hp rfl (pg_tup rfl (pgs_cons (pg_name scLook.nd rfl (Or.inl rfl)) (pgs_cons (pg_name scLook.nd rfl (Or.inl rfl)) pgs_nil)))
  · subst e
    obtain ⟨x, hx1, rfl⟩ := getW hQ
    have hu : u = .str x := hu
    have hu2 : u2 = .int y := hu2
    subst hu hu2
    have hz := zip_at hx1 hy
    have kd := hG x (hw6 x (List.mem_of_getElem? hx1))
    refine w_need (b := inGreat (x, y)) GN (hr.mono (by decide)) hx (g.more s2) (ev_and (by exact ev_leI ev_int (ev_name (i := 4) rfl rfl)) fun _ => ev_one (by exact ev_leI (ev_name (i := 4) rfl rfl) (ev_ixK (ev_glob gG rfl) (ev_name (i := 3) rfl rfl) kd))) (by walk_at "ev") (fun h H3 g3 => b_nil ⟨N1, s01, g3.nh, _, _, rfl, g3, all_take hall hz h⟩) (fun h => er (-1) ?_)
    unfold mLook
    rw [if_neg (all_not hz h)]
    rfl
  · subst e
    have hin : (ws.zip l).all inGreat = true := by rw [← zl, List.take_length] at hall; exact hall
    refine b_forZ (l := l) (i1 := 3) (i2 := 4) (R := I) (Ps := ws.map fun w => is (V.str w)) T.nzip (ev_name (i := 1) rfl ((wordsV ws).mono g.nn hv2)) (ev_name (i := 2) rfl ((isI l).mono g.nn hv3)) hl2 g.nh (fun N0 i σ1 N1 H1 => ∃ w3 w4, σ1 = [some v, some v2, some v3, w3, w4] ∧ Grow N H N1 H1 ∧ ((ws.zip l).take i).all (isThere s.1 s.2.length) = true)
      (fun N0 H1 g1 => ⟨_, _, rfl, g.trans g1, rfl⟩) (fun N0 i Q y u u2 σ1 N1 H1 s0 hQ hy s01 s11 ⟨w3, w4, e, g, hall⟩ hu hu2 H2 s2 => ?_) (fun N0 σ1 N1 H1 s0 s01 s11 ⟨w3, w4, e, g, hall⟩ => ?_) hp rfl (pg_tup rfl (pgs_cons (pg_name scLook.nd rfl (Or.inl rfl)) (pgs_cons (pg_name scLook.nd rfl (Or.inl rfl)) pgs_nil)))
    · subst e
      obtain ⟨x, hx1, rfl⟩ := getW hQ
      have hu : u = .str x := hu
      have hu2 : u2 = .int y := hu2
      subst hu hu2
      have hz := zip_at hx1 hy
      have hk := (keeper CK s).mono g.nn hv
      have bad : (∃ j, (ws.zip l)[j]? = some (x, y)) → isThere s.1 s.2.length (x, y) = false → orErr (mLook s (ws.zip l)) N_ = .error (-4) := fun h0 h => by
        obtain ⟨j, e⟩ := h0
        unfold mLook
        rw [if_pos hin, if_neg (all_not e h)]
        rfl
      refine w_need (b := !decide (x = "person") || decide (y < (s.1 : Int))) GN (hr.mono (by decide)) hx (g.more s2) (ev_or (ev_neV (ev_name (i := 3) rfl rfl) (ev_glob (v := .str "person") g3 ⟨_, rfl⟩) rfl (dec_str (x := x))) fun _ => ev_one (ev_ltI (ev_name (i := 4) rfl rfl) (ev_fld T.kC T.kmany (ev_name (i := 0) rfl hk) lkK_many))) (by walk_at "ev") (fun h H3 g3' => ?_) (fun h => er (-4) (bad ⟨i, hz⟩ (by unfold isThere; rw [h]; rfl)))
      refine w_need (b := !decide (x = "piece") || decide (y < (s.2.length : Int))) GN (hr.mono (by decide)) hx g3' (ev_or (ev_neV (ev_name (i := 3) rfl rfl) (ev_glob (v := .str "piece") g4 ⟨_, rfl⟩) rfl (dec_str (x := x))) fun _ => ev_one (ev_ltI (ev_name (i := 4) rfl rfl) (ev_lenL T.nlen (ev_fld T.kC T.kpieces (ev_name (i := 0) rfl hk) lkK_pieces)))) (by walk_at "ev") (fun h2 H4 g4' => b_nil ⟨N1, s01, g4'.nh, _, _, rfl, g4', all_take hall hz (by unfold isThere; rw [h, h2]; rfl)⟩) (fun h2 => er (-4) (bad ⟨i, hz⟩ (by unfold isThere; rw [h2, Bool.and_false])))
    · refine b_nil ⟨N_, ?_, N1, g, rfl⟩
      have ht : (ws.zip l).all (isThere s.1 s.2.length) = true := by rw [← zl, List.take_length] at hall; exact hall
      unfold mLook
      rw [if_pos hin, if_pos ht]
      rfl
end
end PB
namespace PB
open PySem PySem.Spec PyProof.Rows L2
local macro_rules | `(tactic| walk_at "at") => `(tactic| first | exact at0 _ | exact at1 _ | rfl | assumption)
local macro_rules | `(tactic| walk_at "p") => `(tactic| first | assumption | exact (rfl : (is _).p _ _))
local macro_rules | `(tactic| walk_at "nm") => `(tactic| first
  | exact ev_glob (by assumption) (by first | exact ⟨_, rfl⟩ | rfl)
  | exact ev_nameI (by rfl) rfl (by walk_at "p"))
local macro_rules | `(tactic| walk_at "ev") => `(tactic| first
  | (with_reducible show Ev _ (PySem.Expr.Constant _ _ _) _ _ _); first | exact ev_int | exact ev_non | exact ev_bool | exact ev_str
  | (with_reducible show Ev _ (PySem.Expr.Name _ _) _ _ _); walk_at "nm"
  | (with_reducible show Ev _ (PySem.Expr.Subscript _ _ _) _ _ _); first | exact ev_ixT (by walk_at "ev") (by walk_at "ev") (by walk_at "at") | exact ev_ixL (by walk_at "ev") (by walk_at "ev") (by walk_at "at")
  | (with_reducible show Ev _ (PySem.Expr.Tuple _ _ _) _ _ _); exact ev_tup (by walk_at "ea")
  | (with_reducible show Ev _ (PySem.Expr.UnaryOp PySem.UnaryOp.USub _ _) _ _ _); exact ev_neg (by walk_at "ev")
  | (with_reducible show Ev _ (PySem.Expr.Compare _ [PySem.CmpOp.Eq] _ _) _ _ _); exact ev_eqI (by walk_at "ev") (by walk_at "ev")
  | (with_reducible show Ev _ (PySem.Expr.Compare _ [PySem.CmpOp.NotEq] _ _) _ _ _); exact ev_neI (by walk_at "ev") (by walk_at "ev"))
local macro_rules | `(tactic| walk_at "ea") => `(tactic| first
  | (with_reducible show EvA _ [] _ _ _); exact ea_nil
  | exact ea_cons (by walk_at "ev") (by walk_at "ea"))
local macro_rules | `(tactic| walk_at "et") => `(tactic| first
  | (with_reducible show EvT _ (PySem.Expr.Compare _ [PySem.CmpOp.Eq] _ _) _ _ _); exact evt_eqI (by walk_at "ev") (by walk_at "ev")
  | (with_reducible show EvT _ (PySem.Expr.Compare _ [PySem.CmpOp.NotEq] _ _) _ _ _); exact evt_neI (by walk_at "ev") (by walk_at "ev")
  | (with_reducible show EvT _ (PySem.Expr.Compare _ [PySem.CmpOp.Lt] _ _) _ _ _); exact evt_ltI (by walk_at "ev") (by walk_at "ev")
  | (with_reducible show EvT _ (PySem.Expr.Compare _ [PySem.CmpOp.LtE] _ _) _ _ _); exact evt_leI (by walk_at "ev") (by walk_at "ev")
  | (with_reducible show EvT _ (PySem.Expr.Compare _ [PySem.CmpOp.Gt] _ _) _ _ _); exact evt_gtI (by walk_at "ev") (by walk_at "ev")
  | (with_reducible show EvT _ (PySem.Expr.Compare _ [PySem.CmpOp.GtE] _ _) _ _ _); exact evt_geI (by walk_at "ev") (by walk_at "ev"))
/-! ### keeper.py: what only reads and never refuses -/
abbrev sKRun : Stmt := inClass (top 59) 10
theorem scKRun : FnScope ["self"] ["self"] (defScope sKRun) := ⟨rfl, rfl, rfl, by decide +kernel, rfl, by decide +kernel, by decide +kernel⟩
def RKRun (CJ CG CR CK : Addr) : List VP → VP → Prop := fun Ps P => ∃ s, Ps = [keeper CK s] ∧ okS s ∧ P = run CJ CG CR s.2 (mRun s.1 s.2)
abbrev sFits : Stmt := inClass (top 59) 12
theorem scFits : FnScope ["self", "found"] ["self"] (defScope sFits) := ⟨rfl, rfl, rfl, by decide +kernel, rfl, by decide +kernel, by decide +kernel⟩
def kClash (s : KS) : Option MC := mClash s.2 (mRun s.1 s.2).1
def mFits (s : KS) : List Int := match kClash s with
  | none => [1]
  | some c => [0, (c.e : Int), c.e2]
def RKOut (CK : Addr) (m : KS → List Int) : List VP → VP → Prop := fun Ps P => ∃ s, Ps = [keeper CK s] ∧ okS s ∧ P = isI (m s)
abbrev sKJoins : Stmt := inClass (top 59) 13
theorem scKJoins : FnScope ["self", "found", "run", "join"] ["self"] (defScope sKJoins) := ⟨rfl, rfl, rfl, by decide +kernel, rfl, by decide +kernel, by decide +kernel⟩
def joinNums (j : MJ) : List Int := [(j.e : Int), j.e2, (j.t.1 : Int), (j.t.2 : Int)]
def mJoins (s : KS) : List Int := ((mRun s.1 s.2).2.length : Int) :: (mRun s.1 s.2).2.flatMap joinNums
abbrev sKBooks : Stmt := inClass (top 59) 14
theorem scKBooks : FnScope ["self", "rows", "found", "row"] ["self"] (defScope sKBooks) := ⟨rfl, rfl, rfl, by decide +kernel, rfl, by decide +kernel, by decide +kernel⟩
def listedN (l : List Nat) : List Nat := l.length :: l
def mBooks (s : KS) : List Nat := (mRows (mRun s.1 s.2).1).length :: (mRows (mRun s.1 s.2).1).flatMap listedN
abbrev sKTold : Stmt := inClass (top 59) 24
theorem scKTold : FnScope ["self", "found", "piece"] ["self"] (defScope sKTold) := ⟨rfl, rfl, rfl, by decide +kernel, rfl, by decide +kernel, by decide +kernel⟩
def mAllTold (s : KS) : List Int := (s.1 : Int) :: (s.2.length : Int) :: s.2.flatMap Vbkoab.evNums
theorem mRunFrom_few {every : List MJ} : ∀ (k : Nat) (g : List Nat) (l : List MJ), (mRunFrom every k g l).2.length ≤ l.length + k
  | 0, g, l => Nat.le_refl _
  | k + 1, g, l => by
    cases e : every.find? (cond g) with
    | none => rw [mRunFrom_none e]; exact Nat.le_add_right _ _
    | some j =>
      rw [mRunFrom_some e]
      have := mRunFrom_few (every := every) k (Vbkoab.united g j.t.1 j.t.2) (l ++ [j])
      rw [List.length_append] at this
      simp only [List.length_cons, List.length_nil] at this
      omega
theorem sum_few {n : Nat} (h : n ≤ 16) : (List.range n).sum ≤ 120 := by
  have : ∀ n, n ≤ 16 → (List.range n).sum ≤ 120 := by decide
  exact this n h
theorem joins_few {s : KS} (h : okS s) : (mRun s.1 s.2).2.length ≤ 120 := by
  have := mRunFrom_few (every := mEvery s.2) (List.range s.1).sum (List.range s.1) []
  have h2 := sum_few h.1
  unfold mRun
  simp only [List.length_nil] at this
  omega
theorem flatMap_len {α β : Type} {f : α → List β} {c : Nat} : ∀ {l : List α}, (∀ a ∈ l, (f a).length ≤ c) → (l.flatMap f).length ≤ l.length * c
  | [], _ => by simp
  | a :: r, h => by
    rw [List.flatMap_cons, List.length_append, List.length_cons, Nat.add_mul, Nat.one_mul, Nat.add_comm]
    exact Nat.add_le_add (flatMap_len fun b hb => h b (List.mem_cons_of_mem _ hb)) (h a List.mem_cons_self)
theorem flatMap_more {α β : Type} {f : α → List β} {l : List α} {i : Nat} {y : α} (e : l[i]? = some y) : (l.take (i + 1)).flatMap f = (l.take i).flatMap f ++ f y := by
  rw [take_more e, List.flatMap_append]
  simp
theorem each_map {α : Type} {R : α → VP} : ∀ {l : List α}, Each R (l.map R) l
  | [] => .nil
  | _ :: _ => .cons (fun _ _ z => z) each_map
theorem evNums_len (e : Piece) : (Vbkoab.evNums e).length ≤ 7 := by cases e <;> simp [Vbkoab.evNums]
section
variable {P : Program} {w : World} {K : PySem.W.Frag} {mg : Str → Option Value} {base : Heap} {CJ CG CR CK : Addr} {f : Addr} {fd : FuncData}
theorem ok_kRun (F : Fun K "run" "Keeper.run" sKRun f fd) (T : Txt K mg CJ CG CR CK) (GR : GF P w K mg base CX0 7 "run_of" ["many", "pieces"] (Pure (RRunOf CJ CG CR))) : FnOk P w K mg base CX0 8 f fd ["self"] (Pure (RKRun CJ CG CR CK)) := by
  refine pure_ok F scKRun (fun Ps P h => by obtain ⟨a, rfl, _⟩ := h; rfl) fun cdv A outer st H0 E hr vs Ps P' N H h sm p => ?_
  obtain ⟨s, rfl, ok, rfl⟩ := h
  obtain ⟨v, rfl, hv⟩ := paired1 p
  exact w_end (.refl sm) (ev_call GR hr (ea_cons (ev_fld T.kC T.kmany (fs := keeperF s) (by walk_at "nm") lkK_many) (ea_cons (ev_fld T.kC T.kpieces (fs := keeperF s) (by walk_at "nm") lkK_pieces) ea_nil)) ⟨s.1, s.2, rfl, Nat.le_trans ok.1 (by decide), Nat.le_trans ok.2.1 (by decide), ok.2.2, rfl⟩)
section
variable {X : Cx} {o : Expr} {apos pos : Pos} {σ : L2.St} {N : Hp} {s : KS}
/-- self.run() -/
theorem ev_kRun {pl : Sem Bool} (T : Txt X.K X.mg CJ CG CR CK) (MK : MF X.prog X.w X.K X.mg X.base CX0 8 CK "run" ["self"] (Pure (RKRun CJ CG CR CK))) (hr : Room 8 X.A) (ho : Ev X o σ N (keeper CK s)) (ok : okS s)
    (ht : eval (.Call (.Attribute o "run" apos) [] [] pos) X.env = (do
      let ov ← eval o X.env
      standAt apos.atName
      let (f, first) ← holding [ov] (getMethod ov "run" pl)
      callWith pos f first (backTo pos (starEach [] X.env)) (backToKw pos (keywordEach [] X.env))) := by rfl) : Ev X (.Call (.Attribute o "run" apos) [] [] pos) σ N (run CJ CG CR s.2 (mRun s.1 s.2)) :=
  ev_meth0 MK T.kC hr (fs := keeperF s) ho (lkK_m (by decide +kernel) (by decide +kernel)) ⟨s, rfl, ok, rfl⟩ ht
/-- self.run().clash() -/
theorem ev_kClash {pl pl2 : Sem Bool} {apos2 pos2 : Pos} (T : Txt X.K X.mg CJ CG CR CK) (MK : MF X.prog X.w X.K X.mg X.base CX0 8 CK "run" ["self"] (Pure (RKRun CJ CG CR CK))) (MC_ : MF X.prog X.w X.K X.mg X.base CX0 3 CR "clash" ["self"] (Pure (RClash CJ CG CR))) (hr : Room 8 X.A) (ho : Ev X o σ N (keeper CK s)) (ok : okS s)
    (ht : eval (.Call (.Attribute o "run" apos) [] [] pos) X.env = (do
      let ov ← eval o X.env
      standAt apos.atName
      let (f, first) ← holding [ov] (getMethod ov "run" pl)
      callWith pos f first (backTo pos (starEach [] X.env)) (backToKw pos (keywordEach [] X.env))) := by rfl)
    (ht2 : eval (.Call (.Attribute (.Call (.Attribute o "run" apos) [] [] pos) "clash" apos2) [] [] pos2) X.env = (do
      let ov ← eval (.Call (.Attribute o "run" apos) [] [] pos) X.env
      standAt apos2.atName
      let (f, first) ← holding [ov] (getMethod ov "clash" pl2)
      callWith pos2 f first (backTo pos2 (starEach [] X.env)) (backToKw pos2 (keywordEach [] X.env))) := by rfl) : Ev X (.Call (.Attribute (.Call (.Attribute o "run" apos) [] [] pos) "clash" apos2) [] [] pos2) σ N (isO clashV (kClash s)) :=
  ev_meth0 MC_ T.rC (hr.mono (by decide)) (fs := runF CJ CG s.2 (mRun s.1 s.2)) (ev_kRun T MK hr ho ok ht) (lkR_m (by decide +kernel) (by decide +kernel) (by decide +kernel)) ⟨s.2, _, rfl, by rw [mRun_len]; exact ok.2.2, Nat.le_trans ok.2.1 (by decide), rfl⟩ ht2
end
theorem ok_fits (F : Fun K "fits" "Keeper.fits" sFits f fd) (T : Txt K mg CJ CG CR CK) (MK : MF P w K mg base CX0 8 CK "run" ["self"] (Pure (RKRun CJ CG CR CK))) (MC_ : MF P w K mg base CX0 3 CR "clash" ["self"] (Pure (RClash CJ CG CR))) : FnOk P w K mg base CX0 9 f fd ["self"] (Pure (RKOut CK mFits)) := by
  refine pure_ok F scFits (fun Ps P h => by obtain ⟨a, rfl, _⟩ := h; rfl) fun cdv A outer st H0 E hr vs Ps P' N H h sm p => ?_
  obtain ⟨s, rfl, ok, rfl⟩ := h
  obtain ⟨v, rfl, hv⟩ := paired1 p
  refine w_asg (i := 1) (.refl sm) (ev_kClash T MK MC_ hr (s := s) (by walk_at "nm") ok) (fun u N1 H1 g s1 hu => ?_) scFits.nd
  refine w_when g (evt_isN (P := isO clashV (kClash s)) (by walk_at "nm") (isO_non clash_non)) (fun h H2 g => ?_) (fun h H2 g => ?_)
  · refine w_end g (P := isI [1]) (ev_lst (ea_cons ev_int ea_nil) (.cons (fun _ _ z => z) .nil)) ?_
    unfold mFits
    cases e : kClash s with
    | none => rfl
    | some c => rw [e] at h; cases h
  · cases e : kClash s with
    | none => rw [e] at h; cases h
    | some c =>
      rw [e] at hu
      have hu : (clashV c).p u N1 := hu
      refine w_end g (P := isI [0, (c.e : Int), c.e2]) (ev_lst (ea_cons ev_int (ea_cons (ev_ixT (Ps := [I (c.e : Int), I c.e2, two c.t]) (ev_name (i := 1) rfl hu) ev_int rfl) (ea_cons (ev_ixT (Ps := [I (c.e : Int), I c.e2, two c.t]) (ev_name (i := 1) rfl hu) ev_int rfl) ea_nil))) (.cons (fun _ _ z => z) (.cons (fun _ _ z => z) (.cons (fun _ _ z => z) .nil)))) ?_
      unfold mFits
      rw [e]
theorem ok_kJoins (F : Fun K "told_joins" "Keeper.told_joins" sKJoins f fd) (T : Txt K mg CJ CG CR CK) (MK : MF P w K mg base CX0 8 CK "run" ["self"] (Pure (RKRun CJ CG CR CK))) : FnOk P w K mg base CX0 9 f fd ["self"] (Pure (RKOut CK mJoins)) := by
  refine pure_ok F scKJoins (fun Ps P h => by obtain ⟨a, rfl, _⟩ := h; rfl) fun cdv A outer st H0 E hr vs Ps P' N H h sm p => ?_
  obtain ⟨s, rfl, ok, rfl⟩ := h
  obtain ⟨v, rfl, hv⟩ := paired1 p
  have few := joins_few ok
  refine w_asg (i := 1) (.refl sm) (P := isI []) (ev_lst (R := I) (l := []) ea_nil .nil) (fun u N1 H1 g s1 hu => ?_) scKJoins.nd
  refine w_asg (i := 2) g (ev_kRun T MK hr (s := s) (ev_name (i := 0) rfl ((keeper CK s).mono s1 hv)) ok) (fun u2 N2 H2 g s2 hu2 => ?_) scKJoins.nd
  refine b_forL (g := gName 3) (R := join CJ) (l := (mRun s.1 s.2).2) (ev_fld T.rC T.rjoins (fs := runF CJ CG s.2 (mRun s.1 s.2)) (ev_name (i := 2) rfl hu2) lkR_joins) g.nh
    (fun N0 i σ1 N3 H3 => ∃ fv w3, σ1 = [some v, some fv, some u2, w3] ∧ Grow N H N3 H3 ∧ Same N2 N3 ∧ (isI (((mRun s.1 s.2).2.take i).flatMap joinNums)).p fv N3)
    (fun N0 H3 g3 => ⟨u, none, rfl, g.trans g3, g3.nn, (isI []).mono (s2.trans g3.nn) hu⟩) (fun N0 i j uj σ1 N3 H3 s0 hj s01 s11 ⟨fv, w3, e, g3, s23, hf⟩ hju => ?_) (fun N0 σ1 N3 H3 s0 s01 s11 ⟨fv, w3, e, g3, s23, hf⟩ => ?_) PassesOwn.never rfl (pg_name scKJoins.nd rfl (Or.inl rfl))
  · subst e
    have hju := (join CJ j).mono s01 hju
    refine w_asg (i := 1) g3 (P := isI (((mRun s.1 s.2).2.take (i + 1)).flatMap joinNums)) ?_ (fun x N4 H4 g4 s4 hx => ?_) scKJoins.nd
    · rw [flatMap_more hj]
      refine ev_catL (R := I) (ev_name (i := 1) rfl hf) (ev_lst (l := joinNums j) (ea_cons (ev_fld T.jC T.jfirst (fs := joinF j) (ev_name (i := 3) rfl hju) lkJ_first) (ea_cons (ev_fld T.jC T.jlater (fs := joinF j) (ev_name (i := 3) rfl hju) lkJ_later) (ea_cons (ev_ixT (Ps := [I (j.t.1 : Int), I (j.t.2 : Int)]) (ev_fld T.jC T.jtwo (fs := joinF j) (ev_name (i := 3) rfl hju) lkJ_two) ev_int rfl) (ea_cons (ev_ixT (Ps := [I (j.t.1 : Int), I (j.t.2 : Int)]) (ev_fld T.jC T.jtwo (fs := joinF j) (ev_name (i := 3) rfl hju) lkJ_two) ev_int rfl) ea_nil)))) (.cons (fun _ _ z => z) (.cons (fun _ _ z => z) (.cons (fun _ _ z => z) (.cons (fun _ _ z => z) .nil))))) ?_
      have a1 := flatMap_len (f := joinNums) (c := 4) (l := (mRun s.1 s.2).2.take i) fun a _ => Nat.le_refl _
      have a2 : ((mRun s.1 s.2).2.take i).length ≤ 120 := Nat.le_trans (List.length_take_le' ..) few
      have a3 : (joinNums j).length = 4 := rfl
      omega
    · exact b_nil ⟨N4, s01.trans s4, g4.nh, x, _, rfl, g4, s23.trans s4, hx⟩
  · subst e
    rw [List.take_length] at hf
    have hu2 := (run CJ CG CR s.2 (mRun s.1 s.2)).mono s23 hu2
    refine w_end g3 (P := isI ([((mRun s.1 s.2).2.length : Int)] ++ (mRun s.1 s.2).2.flatMap joinNums)) (ev_catL (R := I) (ev_lst (ea_cons (ev_lenL (R := join CJ) T.nlen (ev_fld T.rC T.rjoins (fs := runF CJ CG s.2 (mRun s.1 s.2)) (ev_name (i := 2) rfl hu2) lkR_joins)) ea_nil) (.cons (fun _ _ z => z) .nil)) (ev_name (i := 1) rfl hf) ?_)
    have a1 := flatMap_len (f := joinNums) (c := 4) (l := (mRun s.1 s.2).2) fun a _ => Nat.le_refl _
    show 1 + _ ≤ _
    omega
theorem rowOf_len (g : List Nat) (r : Nat) : (rowOf g r).length ≤ g.length := by
  unfold rowOf
  exact Nat.le_trans (List.length_filter_le ..) (by rw [List.length_range]; exact Nat.le_refl _)
theorem mRows_len (g : List Nat) : (mRows g).length ≤ g.length := by
  unfold mRows
  rw [List.length_map]
  exact Nat.le_trans (List.length_filter_le ..) (by rw [List.length_range]; exact Nat.le_refl _)
theorem mRows_row {g : List Nat} {r : List Nat} (h : r ∈ mRows g) : r.length ≤ g.length := by
  unfold mRows at h
  obtain ⟨x, _, rfl⟩ := List.mem_map.mp h
  exact rowOf_len g x
theorem ok_kBooks (F : Fun K "books" "Keeper.books" sKBooks f fd) (T : Txt K mg CJ CG CR CK) (MK : MF P w K mg base CX0 8 CK "run" ["self"] (Pure (RKRun CJ CG CR CK))) (MW : MF P w K mg base CX0 1 CG "rows" ["self"] (Pure (RRows CG))) (GL : GF P w K mg base CX0 1 "listed" ["row"] (Pure RListed)) :
    FnOk P w K mg base CX0 9 f fd ["self"] (Pure fun Ps P => ∃ s, Ps = [keeper CK s] ∧ okS s ∧ P = isNs (mBooks s)) := by
  refine pure_ok F scKBooks (fun Ps P h => by obtain ⟨a, rfl, _⟩ := h; rfl) fun cdv A outer st H0 E hr vs Ps P' N H h sm p => ?_
  obtain ⟨s, rfl, ok, rfl⟩ := h
  obtain ⟨v, rfl, hv⟩ := paired1 p
  have gl := mRun_len s.1 s.2
  have rl := mRows_len (mRun s.1 s.2).1
  have n16 := ok.1
  refine w_asg (i := 1) (.refl sm) (P := isL isNs (mRows (mRun s.1 s.2).1)) (ev_meth0 MW T.gC (hr.mono (by decide)) (fs := groupsF (mRun s.1 s.2).1) (ev_fld T.rC T.rgroups (fs := runF CJ CG s.2 (mRun s.1 s.2)) (ev_kRun T MK hr (s := s) (by walk_at "nm") ok) lkR_groups) (lkG_m (by decide +kernel)) ⟨_, rfl, by rw [gl]; omega, rfl⟩) (fun u N1 H1 g s1 hu => ?_) scKBooks.nd
  refine w_asg (i := 2) g (P := isNs [(mRows (mRun s.1 s.2).1).length]) (ev_lst (ea_cons (ev_lenL (R := isNs) T.nlen (by walk_at "nm")) ea_nil) (.cons (fun _ _ z => z) .nil)) (fun u2 N2 H2 g s2 hu2 => ?_) scKBooks.nd
  refine b_forL (g := gName 3) (R := isNs) (l := mRows (mRun s.1 s.2).1) (ev_name (i := 1) rfl ((isL isNs _).mono s2 hu)) g.nh
    (fun N0 i σ1 N3 H3 => ∃ fv w3, σ1 = [some v, some u, some fv, w3] ∧ Grow N H N3 H3 ∧ (isNs ((mRows (mRun s.1 s.2).1).length :: ((mRows (mRun s.1 s.2).1).take i).flatMap listedN)).p fv N3)
    (fun N0 H3 g3 => ⟨u2, none, rfl, g.trans g3, (isNs _).mono g3.nn hu2⟩) (fun N0 i j uj σ1 N3 H3 s0 hj s01 s11 ⟨fv, w3, e, g3, hf⟩ hju => ?_) (fun N0 σ1 N3 H3 s0 s01 s11 ⟨fv, w3, e, g3, hf⟩ => ?_) PassesOwn.never rfl (pg_name scKBooks.nd rfl (Or.inl rfl))
  · subst e
    have hju := (isNs j).mono s01 hju
    have jl := mRows_row (List.mem_of_getElem? hj)
    refine w_asg (i := 2) g3 (P := isNs (((mRows (mRun s.1 s.2).1).length :: ((mRows (mRun s.1 s.2).1).take i).flatMap listedN) ++ listedN j)) (ev_catL (R := fun n : Nat => I (n : Int)) (ev_name (i := 2) rfl hf) (ev_call GL (hr.mono (by decide)) (ea_cons (ev_name (i := 3) rfl hju) ea_nil) ⟨j, rfl, by omega, rfl⟩) ?_) (fun x N4 H4 g4 s4 hx => ?_) scKBooks.nd
    · have a1 := flatMap_len (f := listedN) (c := 17) (l := (mRows (mRun s.1 s.2).1).take i) fun a ha => by
        have := mRows_row (List.mem_of_mem_take ha)
        show a.length + 1 ≤ 17
        omega
      have a2 : ((mRows (mRun s.1 s.2).1).take i).length ≤ 16 := Nat.le_trans (List.length_take_le' ..) (by omega)
      have a3 : (listedN j).length = j.length + 1 := rfl
      rw [List.length_cons, a3]
      omega
    · refine b_nil ⟨N4, s01.trans s4, g4.nh, x, _, rfl, g4, ?_⟩
      rw [flatMap_more hj]
      exact hx
  · subst e
    rw [List.take_length] at hf
    exact w_end g3 (ev_name (i := 2) rfl hf)
theorem ok_kTold (F : Fun K "told" "Keeper.told" sKTold f fd) (T : Txt K mg CJ CG CR CK) : FnOk P w K mg base CX0 1 f fd ["self"] (Pure (RKOut CK mAllTold)) := by
  refine pure_ok F scKTold (fun Ps P h => by obtain ⟨a, rfl, _⟩ := h; rfl) fun cdv A outer st H0 E hr vs Ps P' N H h sm p => ?_
  obtain ⟨s, rfl, ok, rfl⟩ := h
  obtain ⟨v, rfl, hv⟩ := paired1 p
  have l30 := ok.2.1
  refine w_asg (i := 1) (.refl sm) (P := isI [(s.1 : Int), (s.2.length : Int)]) (ev_lst (ea_cons (ev_fld T.kC T.kmany (fs := keeperF s) (by walk_at "nm") lkK_many) (ea_cons (ev_lenL (R := piece) T.nlen (ev_fld T.kC T.kpieces (fs := keeperF s) (by walk_at "nm") lkK_pieces)) ea_nil)) (.cons (fun _ _ z => z) (.cons (fun _ _ z => z) .nil))) (fun u N1 H1 g s1 hu => ?_) scKTold.nd
  refine b_forL (g := gName 2) (R := piece) (l := s.2) (ev_fld T.kC T.kpieces (fs := keeperF s) (ev_name (i := 0) rfl ((keeper CK s).mono s1 hv)) lkK_pieces) g.nh
    (fun N0 i σ1 N3 H3 => ∃ fv w3, σ1 = [some v, some fv, w3] ∧ Grow N H N3 H3 ∧ (isI ((s.1 : Int) :: (s.2.length : Int) :: (s.2.take i).flatMap Vbkoab.evNums)).p fv N3)
    (fun N0 H3 g3 => ⟨u, none, rfl, g.trans g3, (isI _).mono g3.nn hu⟩) (fun N0 i j uj σ1 N3 H3 s0 hj s01 s11 ⟨fv, w3, e, g3, hf⟩ hju => ?_) (fun N0 σ1 N3 H3 s0 s01 s11 ⟨fv, w3, e, g3, hf⟩ => ?_) PassesOwn.never rfl (pg_name scKTold.nd rfl (Or.inl rfl))
  · subst e
    have hju := (piece j).mono s01 hju
    refine w_asg (i := 1) g3 (P := isI (((s.1 : Int) :: (s.2.length : Int) :: (s.2.take i).flatMap Vbkoab.evNums) ++ Vbkoab.evNums j)) (ev_catL (R := I) (ev_name (i := 1) rfl hf) (ev_listT (Ps := (Vbkoab.evNums j).map I) T.nlist (ev_name (i := 2) rfl hju) each_map) ?_) (fun x N4 H4 g4 s4 hx => ?_) scKTold.nd
    · have a1 := flatMap_len (f := Vbkoab.evNums) (c := 7) (l := s.2.take i) fun a ha => evNums_len a
      have a2 : (s.2.take i).length ≤ 30 := Nat.le_trans (List.length_take_le' ..) (by omega)
      have a3 := evNums_len j
      rw [List.length_cons, List.length_cons]
      omega
    · refine b_nil ⟨N4, s01.trans s4, g4.nh, x, _, rfl, g4, ?_⟩
      rw [flatMap_more hj]
      exact hx
  · subst e
    rw [List.take_length] at hf
    exact w_end g3 (ev_name (i := 1) rfl hf)
end
end PB
namespace PB
/-! ### what a run leaves: groups that are the joins' reach, a forest -/
abbrev Any : Nat → Prop := fun _ => True
theorem Conn.app {js : List MJ} {S : Nat → Prop} {j : MJ} {a b : Nat} (h : Conn js S a b) : Conn (js ++ [j]) S a b := by
  induction h with
  | refl _ => exact .refl _
  | step e _ ih =>
    obtain ⟨i, q, h1, h2, h3⟩ := e
    exact .step ⟨i, q, by rw [List.getElem?_append_left (List.getElem?_eq_some_iff.mp h1).1]; exact h1, h2, h3⟩ ih
theorem Conn.split {js : List MJ} {S : Nat → Prop} {j : MJ} {a b : Nat} (h : Conn (js ++ [j]) S a b) : Conn js S a b ∨ (S js.length ∧ ((Conn js S a j.t.1 ∧ Conn js S j.t.2 b) ∨ (Conn js S a j.t.2 ∧ Conn js S j.t.1 b))) := by
  induction h with
  | refl _ => exact .inl (.refl _)
  | step e _ ih =>
    obtain ⟨i, q, h1, h2, h3⟩ := e
    by_cases hi : i < js.length
    · rw [List.getElem?_append_left hi] at h1
      have ed := Conn.one (S := S) ⟨i, q, h1, h2, h3⟩
      rcases ih with k | ⟨s, ⟨k1, k2⟩ | ⟨k1, k2⟩⟩
      · exact .inl (ed.trans k)
      · exact .inr ⟨s, .inl ⟨ed.trans k1, k2⟩⟩
      · exact .inr ⟨s, .inr ⟨ed.trans k1, k2⟩⟩
    · have e : i = js.length := by
        have := (List.getElem?_eq_some_iff.mp h1).1
        rw [List.length_append] at this
        simp at this
        omega
      subst e
      rw [List.getElem?_append_right (Nat.le_refl _), Nat.sub_self] at h1
      cases h1
      rcases h3 with ⟨rfl, rfl⟩ | ⟨rfl, rfl⟩
      · rcases ih with k | ⟨s, ⟨k1, k2⟩ | ⟨k1, k2⟩⟩
        · exact .inr ⟨h2, .inl ⟨.refl _, k⟩⟩
        · exact .inr ⟨h2, .inl ⟨.refl _, k2⟩⟩
        · exact .inl k2
      · rcases ih with k | ⟨s, ⟨k1, k2⟩ | ⟨k1, k2⟩⟩
        · exact .inr ⟨h2, .inr ⟨.refl _, k⟩⟩
        · exact .inl k2
        · exact .inr ⟨h2, .inr ⟨.refl _, k2⟩⟩
theorem Forest.app {js : List MJ} {j : MJ} (hf : Forest js) (hn : ¬ Conn js Any j.t.1 j.t.2) : Forest (js ++ [j]) := by
  intro i q hi hc
  by_cases hl : i < js.length
  · rw [List.getElem?_append_left hl] at hi
    have ed : Conn js Any q.t.1 q.t.2 := .one ⟨i, q, hi, trivial, .inl ⟨rfl, rfl⟩⟩
    rcases hc.split with k | ⟨_, ⟨k1, k2⟩ | ⟨k1, k2⟩⟩
    · exact hf i q hi k
    · exact hn ((k1.mono fun _ _ => trivial).symm.trans (ed.trans (k2.mono fun _ _ => trivial).symm))
    · exact hn ((k2.mono fun _ _ => trivial).trans (ed.symm.trans (k1.mono fun _ _ => trivial)))
  · have e : i = js.length := by
      have := (List.getElem?_eq_some_iff.mp hi).1
      rw [List.length_append] at this
      simp at this
      omega
    subst e
    rw [List.getElem?_append_right (Nat.le_refl _), Nat.sub_self] at hi
    cases hi
    rcases hc.split with k | ⟨s, _⟩
    · exact hn (k.mono fun _ _ => trivial)
    · exact s rfl
/-! groups -/
abbrev at' (g : List Nat) (x : Nat) : Nat := g.getD x x
theorem one_iff {g : List Nat} {x y : Nat} : Vbkoab.one g x y = true ↔ at' g x = at' g y := by
  unfold Vbkoab.one
  constructor
  · intro h
    rcases Bool.or_eq_true_iff.mp h with h | h
    · have : x = y := eq_of_beq h
      rw [this]
    · exact eq_of_beq h
  · intro h
    rw [Bool.or_eq_true_iff]
    exact .inr (beq_iff_eq.mpr h)
theorem united_at {g : List Nat} {x y z : Nat} (hz : z < g.length) : at' (Vbkoab.united g x y) z = if at' g z = max (at' g x) (at' g y) then min (at' g x) (at' g y) else at' g z := by
  unfold Vbkoab.united
  show List.getD (List.map _ g) z z = _
  rw [List.getD_eq_getElem?_getD, List.getElem?_map, List.getElem?_eq_getElem hz]
  have : at' g z = g[z] := by show List.getD g z z = _; rw [List.getD_eq_getElem?_getD, List.getElem?_eq_getElem hz]; rfl
  rw [this]
  rfl
def leaders (g : List Nat) : List Nat := (List.range g.length).filter fun x => at' g x == x
structure RunInv (n : Nat) (g : List Nat) (js : List MJ) : Prop where
  len : g.length = n
  le : ∀ x, x < n → at' g x ≤ x
  rep : ∀ x, x < n → at' g (at' g x) = at' g x
  conn : ∀ x y, x < n → y < n → (at' g x = at' g y ↔ Conn js Any x y)
  forest : Forest js
  cnt : (leaders g).length + js.length = n
  ok : ∀ j ∈ js, okJ n j
  needs : ∀ j ∈ js, ∀ s ∈ j.needs, Conn js Any s.1 s.2
theorem range_at {n x : Nat} : at' (List.range n) x = x := by
  show List.getD _ x x = x
  rw [List.getD_eq_getElem?_getD]
  by_cases h : x < n
  · rw [List.getElem?_range h]; rfl
  · rw [List.getElem?_eq_none (by rw [List.length_range]; omega)]; rfl
theorem RunInv.start (n : Nat) : RunInv n (List.range n) [] := by
  refine ⟨List.length_range, fun x _ => by rw [range_at]; exact Nat.le_refl _, fun x _ => by rw [range_at, range_at], fun x y _ _ => ?_, fun i j h => by simp at h, ?_, fun j h => by simp at h, fun j h => by simp at h⟩
  · rw [range_at, range_at]
    constructor
    · rintro rfl; exact .refl _
    · intro h
      cases h with
      | refl _ => rfl
      | step e _ => obtain ⟨i, j, h, _⟩ := e; simp at h
  · unfold leaders
    rw [List.filter_eq_self.mpr fun x _ => by rw [range_at]; exact beq_self_eq_true _, List.length_range, List.length_range]
    simp
theorem leaders_drop {g : List Nat} {x y : Nat} (hx : x < g.length) (hy : y < g.length) (le : ∀ z, z < g.length → at' g z ≤ z) (rep : ∀ z, z < g.length → at' g (at' g z) = at' g z) (ne : at' g x ≠ at' g y) : (leaders (Vbkoab.united g x y)).length + 1 = (leaders g).length := by
  have hmx : max (at' g x) (at' g y) < g.length := by have := le x hx; have := le y hy; omega
  have ml : at' g (max (at' g x) (at' g y)) = max (at' g x) (at' g y) := by
    rcases Nat.le_total (at' g x) (at' g y) with h | h
    · rw [Nat.max_eq_right h]; exact rep y hy
    · rw [Nat.max_eq_left h]; exact rep x hx
  have e : leaders (Vbkoab.united g x y) = (leaders g).filter fun z => z != max (at' g x) (at' g y) := by
    unfold leaders
    rw [united_len, List.filter_filter]
    refine List.filter_congr fun z hz => ?_
    have hz := List.mem_range.mp hz
    rw [united_at hz]
    have := le z hz
    by_cases h : at' g z = max (at' g x) (at' g y)
    · rw [if_pos h]
      have h1 : (min (at' g x) (at' g y) == z) = false := by
        rw [beq_eq_false_iff_ne]; omega
      rw [h1]
      by_cases h2 : z = max (at' g x) (at' g y)
      · subst h2; simp
      · have : (at' g z == z) = false := by rw [beq_eq_false_iff_ne]; omega
        rw [this, Bool.and_false]
    · rw [if_neg h]
      have : (z != max (at' g x) (at' g y)) = true := by
        rw [bne_iff_ne]
        intro h2
        rw [h2] at h
        exact h ml
      rw [this, Bool.true_and]
  have mem : max (at' g x) (at' g y) ∈ leaders g := by
    unfold leaders
    rw [List.mem_filter, List.mem_range]
    exact ⟨hmx, by rw [ml]; exact beq_self_eq_true _⟩
  have nd : (leaders g).Nodup := List.Pairwise.filter _ List.nodup_range
  rw [e]
  have := List.length_erase_of_mem mem
  rw [← nd.erase_eq_filter]
  have pos : 0 < (leaders g).length := List.length_pos_of_mem mem
  omega
theorem RunInv.step {n : Nat} {g : List Nat} {js : List MJ} {j : MJ} (h : RunInv n g js) (ok : okJ n j) (hc : cond g j = true) : RunInv n (Vbkoab.united g j.t.1 j.t.2) (js ++ [j]) := by
  obtain ⟨len, le, rep, conn, forest, cnt, oks, needs⟩ := h
  subst len
  unfold cond at hc
  obtain ⟨h1, h2⟩ := Bool.and_eq_true_iff.mp hc
  have ne : at' g j.t.1 ≠ at' g j.t.2 := fun z => by
    rw [one_iff.mpr z] at h1; cases h1
  obtain ⟨⟨o1, o2⟩, o3, _⟩ := ok
  have nc : ¬ Conn js Any j.t.1 j.t.2 := fun z => ne ((conn _ _ o1 o2).mpr z)
  have l1 := le _ o1
  have l2 := le _ o2
  have edge : Conn (js ++ [j]) Any j.t.1 j.t.2 := .one ⟨js.length, j, by simp, trivial, .inl ⟨rfl, rfl⟩⟩
  refine ⟨united_len .., fun x hx => ?_, fun x hx => ?_, fun x y hx hy => ?_, forest.app nc, ?_, fun q hq => ?_, fun q hq s hs => ?_⟩
  · rw [united_at hx]
    have := le x hx
    split <;> omega
  · have hx' : at' g x < g.length := by have := le x hx; omega
    have := rep x hx
    rw [united_at hx]
    by_cases e : at' g x = max (at' g j.t.1) (at' g j.t.2)
    · rw [if_pos e]
      rcases Nat.le_total (at' g j.t.1) (at' g j.t.2) with h | h
      · rw [Nat.min_eq_left h, united_at (by omega), rep _ o1, if_neg (by omega)]
      · rw [Nat.min_eq_right h, united_at (by omega), rep _ o2, if_neg (by omega)]
    · rw [if_neg e, united_at hx', this, if_neg e]
  · rw [united_at hx, united_at hy]
    constructor
    · intro h
      have base : at' g x = at' g y → Conn (js ++ [j]) Any x y := fun z => ((conn x y hx hy).mp z).app
      have c1 : at' g x = at' g j.t.1 → Conn (js ++ [j]) Any x j.t.1 := fun z => ((conn _ _ hx o1).mp z).app
      have c2 : at' g x = at' g j.t.2 → Conn (js ++ [j]) Any x j.t.2 := fun z => ((conn _ _ hx o2).mp z).app
      have d1 : at' g y = at' g j.t.1 → Conn (js ++ [j]) Any j.t.1 y := fun z => ((conn _ _ hy o1).mp z).app.symm
      have d2 : at' g y = at' g j.t.2 → Conn (js ++ [j]) Any j.t.2 y := fun z => ((conn _ _ hy o2).mp z).app.symm
      by_cases ex : at' g x = max (at' g j.t.1) (at' g j.t.2)
      · rw [if_pos ex] at h
        by_cases ey : at' g y = max (at' g j.t.1) (at' g j.t.2)
        · exact base (by omega)
        · rw [if_neg ey] at h
          rcases Nat.le_total (at' g j.t.1) (at' g j.t.2) with k | k
          · exact (c2 (by omega)).trans (edge.symm.trans (d1 (by omega)))
          · exact (c1 (by omega)).trans (edge.trans (d2 (by omega)))
      · rw [if_neg ex] at h
        by_cases ey : at' g y = max (at' g j.t.1) (at' g j.t.2)
        · rw [if_pos ey] at h
          rcases Nat.le_total (at' g j.t.1) (at' g j.t.2) with k | k
          · exact (c1 (by omega)).trans (edge.trans (d2 (by omega)))
          · exact (c2 (by omega)).trans (edge.symm.trans (d1 (by omega)))
        · rw [if_neg ey] at h
          exact base h
    · intro h
      rcases h.split with k | ⟨_, ⟨k1, k2⟩ | ⟨k1, k2⟩⟩
      · rw [(conn x y hx hy).mpr k]
      · have a1 := (conn _ _ hx o1).mpr k1
        have a2 := (conn _ _ o2 hy).mpr k2
        rw [a1, ← a2]
        split <;> split <;> omega
      · have a1 := (conn _ _ hx o2).mpr k1
        have a2 := (conn _ _ o1 hy).mpr k2
        rw [a1, ← a2]
        split <;> split <;> omega
  · rw [List.length_append]
    have := leaders_drop o1 o2 le rep ne
    simp only [List.length_cons, List.length_nil]
    omega
  · rcases List.mem_append.mp hq with hq | hq
    · exact oks q hq
    · have : q = j := by simpa using hq
      subst this; exact ⟨⟨o1, o2⟩, o3, by assumption⟩
  · rcases List.mem_append.mp hq with hq | hq
    · exact (needs q hq s hs).app
    · have : q = j := by simpa using hq
      subst this
      have := o3 s hs
      exact ((conn _ _ this.1 this.2).mp (one_iff.mp (List.all_eq_true.mp h2 s hs))).app
theorem RunInv.from {n : Nat} {every : List MJ} (ok : ∀ j ∈ every, okJ n j) : ∀ (k : Nat) {g : List Nat} {js : List MJ}, RunInv n g js → RunInv n (mRunFrom every k g js).1 (mRunFrom every k g js).2
  | 0, _, _, h => h
  | k + 1, g, js, h => by
    cases e : every.find? (cond g) with
    | none => rw [mRunFrom_none e]; exact h
    | some j =>
      rw [mRunFrom_some e]
      exact RunInv.from ok k (h.step (ok j (List.mem_of_find?_eq_some e)) (List.find?_some e))
theorem run_inv {n : Nat} {evs : List Piece} (h : okEvs n evs) : RunInv n (mRun n evs).1 (mRun n evs).2 := RunInv.from (mEvery_ok h) _ (RunInv.start n)
theorem RunInv.few {n : Nat} {g : List Nat} {js : List MJ} (h : RunInv n g js) : js.length ≤ n := by have := h.cnt; omega
theorem run_good {n : Nat} {evs : List Piece} (h : okEvs n evs) (hn : n ≤ 60) : GoodJ n (mRun n evs).2 :=
  let r := run_inv h
  ⟨by omega, Nat.le_trans r.few hn, r.ok, r.forest, r.needs⟩
theorem run_conn {n : Nat} {evs : List Piece} (h : okEvs n evs) {x y : Nat} (hx : x < n) (hy : y < n) : Vbkoab.one (mRun n evs).1 x y = true ↔ Conn (mRun n evs).2 Any x y := by
  rw [one_iff]
  exact (run_inv h).conn x y hx hy
end PB
namespace PB
open PySem PySem.Spec PyProof.Rows L2
local macro_rules | `(tactic| walk_at "at") => `(tactic| first | exact at0 _ | exact at1 _ | rfl | assumption)
local macro_rules | `(tactic| walk_at "p") => `(tactic| first | assumption | exact (rfl : (is _).p _ _))
local macro_rules | `(tactic| walk_at "nm") => `(tactic| first
  | exact ev_glob (by assumption) (by first | exact ⟨_, rfl⟩ | rfl)
  | exact ev_nameI (by rfl) rfl (by walk_at "p"))
local macro_rules | `(tactic| walk_at "ev") => `(tactic| first
  | (with_reducible show Ev _ (PySem.Expr.Constant _ _ _) _ _ _); first | exact ev_int | exact ev_non | exact ev_bool | exact ev_str
  | (with_reducible show Ev _ (PySem.Expr.Name _ _) _ _ _); walk_at "nm"
  | (with_reducible show Ev _ (PySem.Expr.Subscript _ _ _) _ _ _); first | exact ev_ixT (by walk_at "ev") (by walk_at "ev") (by walk_at "at") | exact ev_ixL (by walk_at "ev") (by walk_at "ev") (by walk_at "at")
  | (with_reducible show Ev _ (PySem.Expr.Tuple _ _ _) _ _ _); exact ev_tup (by walk_at "ea")
  | (with_reducible show Ev _ (PySem.Expr.UnaryOp PySem.UnaryOp.USub _ _) _ _ _); exact ev_neg (by walk_at "ev")
  | (with_reducible show Ev _ (PySem.Expr.Compare _ [PySem.CmpOp.Eq] _ _) _ _ _); exact ev_eqI (by walk_at "ev") (by walk_at "ev")
  | (with_reducible show Ev _ (PySem.Expr.Compare _ [PySem.CmpOp.NotEq] _ _) _ _ _); exact ev_neI (by walk_at "ev") (by walk_at "ev"))
local macro_rules | `(tactic| walk_at "ea") => `(tactic| first
  | (with_reducible show EvA _ [] _ _ _); exact ea_nil
  | exact ea_cons (by walk_at "ev") (by walk_at "ea"))
local macro_rules | `(tactic| walk_at "et") => `(tactic| first
  | (with_reducible show EvT _ (PySem.Expr.Compare _ [PySem.CmpOp.Eq] _ _) _ _ _); exact evt_eqI (by walk_at "ev") (by walk_at "ev")
  | (with_reducible show EvT _ (PySem.Expr.Compare _ [PySem.CmpOp.NotEq] _ _) _ _ _); exact evt_neI (by walk_at "ev") (by walk_at "ev")
  | (with_reducible show EvT _ (PySem.Expr.Compare _ [PySem.CmpOp.Lt] _ _) _ _ _); exact evt_ltI (by walk_at "ev") (by walk_at "ev")
  | (with_reducible show EvT _ (PySem.Expr.Compare _ [PySem.CmpOp.LtE] _ _) _ _ _); exact evt_leI (by walk_at "ev") (by walk_at "ev")
  | (with_reducible show EvT _ (PySem.Expr.Compare _ [PySem.CmpOp.Gt] _ _) _ _ _); exact evt_gtI (by walk_at "ev") (by walk_at "ev")
  | (with_reducible show EvT _ (PySem.Expr.Compare _ [PySem.CmpOp.GtE] _ _) _ _ _); exact evt_geI (by walk_at "ev") (by walk_at "ev"))
/-! ### keeper.py: what only reads and may refuse -/
abbrev Res := Except Int (List Int)
def outX : Res → Except Int VP
  | .ok l => .ok (isI l)
  | .error i => .error i
theorem ns_i {l : List Nat} : isNs l = isI (Vbkoab.ints l) := (isL_map (R := I) (f := Vbkoab.whole) (l := l)).symm
def RKX (CK : Addr) (k : Nat) (m : KS → List Int → Res) : List VP → Except Int VP → Prop := fun Ps r => ∃ s l, Ps = [keeper CK s, isI l] ∧ okS s ∧ l.length = k ∧ r = outX (m s l)
def afterLook (s : KS) (ps : List (Str × Int)) (r : Res) : Res := match mLook s ps with
  | some i => .error i
  | none => r
def onTwoK (s : KS) (l : List Int) (f : Nat → Nat → Res) : Res := match l with
  | [x, y] => afterLook s [("person", x), ("person", y)] (f x.toNat y.toNat)
  | _ => .error 0
theorem look_all {s : KS} {ps : List (Str × Int)} (h : mLook s ps = none) : ∀ p ∈ ps, inGreat p = true ∧ isThere s.1 s.2.length p = true := by
  unfold mLook at h
  by_cases h1 : ps.all inGreat = true
  · rw [if_pos h1] at h
    by_cases h2 : ps.all (isThere s.1 s.2.length) = true
    · exact fun p hp => ⟨List.all_eq_true.mp h1 p hp, List.all_eq_true.mp h2 p hp⟩
    · rw [if_neg h2] at h; cases h
  · rw [if_neg h1] at h; cases h
theorem inGreat_nat {w : Str} {x : Int} (h : inGreat (w, x) = true) : x = (x.toNat : Int) ∧ x ≤ great w := by
  unfold inGreat at h
  obtain ⟨h1, h2⟩ := Bool.and_eq_true_iff.mp h
  have h1 := of_decide_eq_true h1
  have h2 := of_decide_eq_true h2
  exact ⟨(Int.toNat_of_nonneg h1).symm, h2⟩
theorem there_person {n m : Nat} {x : Int} (h : isThere n m ("person", x) = true) : x < n := by
  unfold isThere at h
  obtain ⟨h1, _⟩ := Bool.and_eq_true_iff.mp h
  simpa using h1
theorem there_piece {n m : Nat} {x : Int} (h : isThere n m ("piece", x) = true) : x < m := by
  unfold isThere at h
  obtain ⟨_, h1⟩ := Bool.and_eq_true_iff.mp h
  simpa using h1
theorem look_two {s : KS} {x y : Int} (h : mLook s [("person", x), ("person", y)] = none) : x = (x.toNat : Int) ∧ y = (y.toNat : Int) ∧ okTwo s.1 (x.toNat, y.toNat) := by
  have a := look_all h _ (List.mem_cons_self ..)
  have b := look_all h _ (List.mem_cons_of_mem _ (List.mem_cons_self ..))
  have a1 := inGreat_nat a.1
  have b1 := inGreat_nat b.1
  have a2 := there_person a.2
  have b2 := there_person b.2
  refine ⟨a1.1, b1.1, ?_, ?_⟩
  · show x.toNat < s.1; omega
  · show y.toNat < s.1; omega
section
variable {X : Cx} {o a n : Expr} {apos pos pos2 p : Pos} {σ : L2.St} {N N0 H0 H : Hp} {CE CJ CG CR CK : Addr} {rest : List Stmt} {D : Ends} {E : XK} {s : KS} {ws : List Str} {l : List Int}
/-- self.look(words, numbers) -/
theorem w_look {pl : Sem Bool} (T : Txt X.K X.mg CJ CG CR CK) (ML : MF X.prog X.w X.K X.mg X.base (L2.CX X.prog X.w) 3 CK "look" ["self", "words", "numbers"] (PureX CE (RLook CK))) (hr : Room 3 X.A) (hx : Passes (L2.CX X.prog X.w) X E) (g : Grow N0 H0 N H) (ho : Ev X o σ N (keeper CK s)) (hw : Ev X a σ N (wordsV ws)) (hn : Ev X n σ N (isI l)) (hl : ws.length = l.length) (h6 : ∀ w ∈ ws, w ∈ words6)
    (k1 : mLook s (ws.zip l) = none → ∀ H1, Grow N0 H0 N H1 → bB X rest D σ H1) (k2 : ∀ i, mLook s (ws.zip l) = some i → Fail CE i H0 E)
    (hst : starEach [a, n] X.env = (false, eval a X.env) :: starEach [n] X.env := by rfl) (hst2 : starEach [n] X.env = (false, eval n X.env) :: starEach [] X.env := by rfl) (hpl : (backTo pos (starEach [n] X.env)).any (·.1) = false := by rfl)
    (ht : eval (.Call (.Attribute o "look" apos) [a, n] [] pos) X.env = (do
      let ov ← eval o X.env
      standAt apos.atName
      let (f, first) ← holding [ov] (getMethod ov "look" pl)
      callWith pos f first (backTo pos (starEach [a, n] X.env)) (backToKw pos (keywordEach [] X.env))) := by rfl)
    (hs : swapsWith (.Call (.Attribute o "look" apos) [a, n] [] pos) none pos2.line X.env = pure false := by rfl) : bB X (.Expr (.Call (.Attribute o "look" apos) [a, n] [] pos) pos2 :: rest) D σ H :=
  w_exprX (CE := CE) (E := E) g (evx_meth ML T.kC hr hx (fs := keeperF s) ho (lkK_m (by decide +kernel) (by decide +kernel)) (ea_cons hw (ea_cons hn ea_nil hst2) hst) ⟨s, ws, l, rfl, hl, h6, rfl⟩ hst hpl ht) (fun P e H1 g1 => k1 (by
    cases q : mLook s (ws.zip l) with
    | none => rfl
    | some i => rw [q] at e; cases e) H1 g1) (fun j e => k2 j (by
    cases q : mLook s (ws.zip l) with
    | none => rw [q] at e; cases e
    | some i => rw [q] at e; cases e; rfl)) hs
end
theorem w6_two : ∀ w ∈ (["person", "person"] : List Str), w ∈ words6 := by
  intro w h
  have : w = "person" := by simpa using h
  subst this
  exact List.mem_cons_self
section
variable {X : Cx} {o a n : Expr} {apos pos pos2 p : Pos} {σ : L2.St} {N N0 H0 H : Hp} {CE CJ CG CR CK : Addr} {rest : List Stmt} {D : Ends} {E : XK} {s : KS} {l : List Int} {f : Nat → Nat → Res}
/-- self.look((PERSON, PERSON), two) -/
theorem w_look2 {pl : Sem Bool} (T : Txt X.K X.mg CJ CG CR CK) (ML : MF X.prog X.w X.K X.mg X.base (L2.CX X.prog X.w) 3 CK "look" ["self", "words", "numbers"] (PureX CE (RLook CK))) (hr : Room 3 X.A) (hx : Passes (L2.CX X.prog X.w) X E) (g : Grow N0 H0 N H) (ho : Ev X o σ N (keeper CK s)) (hw : Ev X a σ N (wordsV ["person", "person"])) (hn : Ev X n σ N (isI l)) (hl : l.length = 2)
    (k1 : ∀ a b, okTwo s.1 (a, b) → isI l = isNs [a, b] → onTwoK s l f = f a b → ∀ H1, Grow N0 H0 N H1 → bB X rest D σ H1) (k2 : ∀ i, onTwoK s l f = .error i → Fail CE i H0 E)
    (hst : starEach [a, n] X.env = (false, eval a X.env) :: starEach [n] X.env := by rfl) (hst2 : starEach [n] X.env = (false, eval n X.env) :: starEach [] X.env := by rfl) (hpl : (backTo pos (starEach [n] X.env)).any (·.1) = false := by rfl)
    (ht : eval (.Call (.Attribute o "look" apos) [a, n] [] pos) X.env = (do
      let ov ← eval o X.env
      standAt apos.atName
      let (f, first) ← holding [ov] (getMethod ov "look" pl)
      callWith pos f first (backTo pos (starEach [a, n] X.env)) (backToKw pos (keywordEach [] X.env))) := by rfl)
    (hs : swapsWith (.Call (.Attribute o "look" apos) [a, n] [] pos) none pos2.line X.env = pure false := by rfl) : bB X (.Expr (.Call (.Attribute o "look" apos) [a, n] [] pos) pos2 :: rest) D σ H := by
  obtain ⟨x, y, rfl⟩ : ∃ x y, l = [x, y] := by
    match l, hl with
    | [x, y], _ => exact ⟨x, y, rfl⟩
  refine w_look (s := s) (ws := ["person", "person"]) (l := [x, y]) T ML hr hx g ho hw hn rfl w6_two (fun hk H1 g => ?_) (fun i hk => k2 i ?_) hst hst2 hpl ht hs
  · have hk : mLook s [("person", x), ("person", y)] = none := hk
    obtain ⟨ex, ey, okt⟩ := look_two hk
    refine k1 x.toNat y.toNat okt ?_ ?_ H1 g
    · rw [ns_i]
      show isI [x, y] = isI [(x.toNat : Int), (y.toNat : Int)]
      rw [← ex, ← ey]
    · show afterLook s _ _ = _
      unfold afterLook
      rw [hk]
  · have hk : mLook s [("person", x), ("person", y)] = some i := hk
    show afterLook s _ _ = _
    unfold afterLook
    rw [hk]
end
abbrev sNeedFit : Stmt := inClass (top 59) 11
theorem scNeedFit : FnScope ["self"] ["self"] (defScope sNeedFit) := ⟨rfl, rfl, rfl, by decide +kernel, rfl, by decide +kernel, by decide +kernel⟩
def RNeedFit (CK : Addr) : List VP → Except Int VP → Prop := fun Ps r => ∃ s, Ps = [keeper CK s] ∧ okS s ∧ r = okIf (kClash s).isNone N_ (-8)
abbrev sKVerd : Stmt := inClass (top 59) 15
theorem scKVerd : FnScope ["self", "two"] ["self", "two"] (defScope sKVerd) := ⟨rfl, rfl, rfl, by decide +kernel, rfl, by decide +kernel, by decide +kernel⟩
def mVerd (s : KS) (l : List Int) : Res := onTwoK s l fun a b => if (kClash s).isNone = true then .ok [mVerdict s.1 s.2 (a, b)] else .error (-8)
abbrev sKWhy : Stmt := inClass (top 59) 16
theorem scKWhy : FnScope ["self", "two", "run"] ["self", "two"] (defScope sKWhy) := ⟨rfl, rfl, rfl, by decide +kernel, rfl, by decide +kernel, by decide +kernel⟩
noncomputable def mWhy (s : KS) (l : List Int) : Res := onTwoK s l fun a b => .ok (if Vbkoab.one (mRun s.1 s.2).1 a b = true then 1 :: Vbkoab.ints (listedN (mNeeded (mRun s.1 s.2).2 (a, b))) else [0])
section
variable {P : Program} {w : World} {K : PySem.W.Frag} {mg : Str → Option Value} {base : Heap} {CJ CG CR CK CE fI : Addr} {f : Addr} {fd : FuncData}
theorem ok_needFit (F : Fun K "need_fit" "Keeper.need_fit" sNeedFit f fd) (T : Txt K mg CJ CG CR CK) (GN : GF P w K mg base (L2.CX P w) 2 "need" ["truth", "answer"] (PureX CE RNeed)) (MK : MF P w K mg base CX0 8 CK "run" ["self"] (Pure (RKRun CJ CG CR CK))) (MC_ : MF P w K mg base CX0 3 CR "clash" ["self"] (Pure (RClash CJ CG CR))) :
    FnOk P w K mg base (L2.CX P w) 9 f fd ["self"] (PureX CE (RNeedFit CK)) := by
  refine pureX_ok F scNeedFit (fun Ps r h => by obtain ⟨b, rfl, _⟩ := h; rfl) fun cdv A outer st H0 E X hX hr tk hx hp vs Ps r N H h sm p er => ?_
  subst hX
  obtain ⟨s, rfl, ok, rfl⟩ := h
  obtain ⟨v, rfl, hv⟩ := paired1 p
  obtain ⟨t1, g1⟩ := T.cCLA
  refine w_need (b := (kClash s).isNone) (i := -8) GN (hr.mono (by decide)) hx (.refl sm) (ev_isN (ev_kClash T MK MC_ hr (s := s) (by walk_at "nm") ok) (isO_non clash_non)) (by walk_at "nm") (fun h H1 g => b_nil ⟨N_, by rw [h]; rfl, N, g, rfl⟩) (fun h => er (-8) (by rw [h]; rfl))
section
variable {X : Cx} {o : Expr} {apos pos pos2 : Pos} {σ : L2.St} {N N0 H0 H : Hp} {rest : List Stmt} {D : Ends} {E : XK} {s : KS}
/-- self.need_fit() -/
theorem w_needFit {pl : Sem Bool} (T : Txt X.K X.mg CJ CG CR CK) (MN : MF X.prog X.w X.K X.mg X.base (L2.CX X.prog X.w) 9 CK "need_fit" ["self"] (PureX CE (RNeedFit CK))) (hr : Room 9 X.A) (hx : Passes (L2.CX X.prog X.w) X E) (g : Grow N0 H0 N H) (ho : Ev X o σ N (keeper CK s)) (ok : okS s)
    (k1 : (kClash s).isNone = true → ∀ H1, Grow N0 H0 N H1 → bB X rest D σ H1) (k2 : (kClash s).isNone = false → Fail CE (-8) H0 E)
    (ht : eval (.Call (.Attribute o "need_fit" apos) [] [] pos) X.env = (do
      let ov ← eval o X.env
      standAt apos.atName
      let (f, first) ← holding [ov] (getMethod ov "need_fit" pl)
      callWith pos f first (backTo pos (starEach [] X.env)) (backToKw pos (keywordEach [] X.env))) := by rfl)
    (hs : swapsWith (.Call (.Attribute o "need_fit" apos) [] [] pos) none pos2.line X.env = pure false := by rfl) : bB X (.Expr (.Call (.Attribute o "need_fit" apos) [] [] pos) pos2 :: rest) D σ H := by
  refine w_exprX (CE := CE) (E := E) g (evx_meth0 MN T.kC hr hx (fs := keeperF s) ho (lkK_m (by decide +kernel) (by decide +kernel)) ⟨s, rfl, ok, rfl⟩ ht) (fun Q e H2 g2 => k1 ?_ H2 g2) (fun j e => ?_) hs
  · cases q : (kClash s).isNone with
    | true => rfl
    | false => rw [q] at e; cases e
  · cases q : (kClash s).isNone with
    | true => rw [q] at e; cases e
    | false => rw [q] at e; cases e; exact k2 q
end
theorem ok_kVerd (F : Fun K "verdict" "Keeper.verdict" sKVerd f fd) (T : Txt K mg CJ CG CR CK) (ML : MF P w K mg base (L2.CX P w) 3 CK "look" ["self", "words", "numbers"] (PureX CE (RLook CK))) (MN : MF P w K mg base (L2.CX P w) 9 CK "need_fit" ["self"] (PureX CE (RNeedFit CK)))
    (GV : GF P w K mg base CX0 9 "verdict_runs" ["many", "pieces", "two"] (Pure RVerd)) : FnOk P w K mg base (L2.CX P w) 10 f fd ["self", "two"] (PureX CE (RKX CK 2 mVerd)) := by
  refine pureX_ok F scKVerd (fun Ps r h => by obtain ⟨b, l, rfl, _⟩ := h; rfl) fun cdv A outer st H0 E X hX hr tk hx hp vs Ps r N H h sm p er => ?_
  subst hX
  obtain ⟨s, l, rfl, ok, hl, rfl⟩ := h
  obtain ⟨v, v2, rfl, hv, hv2⟩ := paired2 p
  obtain ⟨t3, g3⟩ := T.cPER
  refine w_look2 (s := s) (l := l) T ML (hr.mono (by decide)) hx (.refl sm) (by walk_at "nm") (ev_tup (ea_cons (ev_glob (v := .str "person") g3 ⟨_, rfl⟩) (ea_cons (ev_glob (v := .str "person") g3 ⟨_, rfl⟩) ea_nil))) (by walk_at "nm") hl (fun a b okt el e0 H1 g => ?_) (fun i hk => er i (congrArg outX hk))
  rw [el] at hv2
  refine w_needFit (s := s) T MN hr hx g (by walk_at "nm") ok (fun hc H2 g2 => ?_) (fun hc => er (-8) (congrArg outX (e0.trans (if_neg (by rw [hc]; decide)))))
  exact w_endX (P := isI [mVerdict s.1 s.2 (a, b)]) g2 (ev_lst (ea_cons (ev_call GV hr (ea_cons (ev_fld T.kC T.kmany (fs := keeperF s) (by walk_at "nm") lkK_many) (ea_cons (ev_fld T.kC T.kpieces (fs := keeperF s) (by walk_at "nm") lkK_pieces) (ea_cons (P := isNs [a, b]) (by walk_at "nm") ea_nil))) ⟨s.1, s.2, _, (a, b), rfl, .inr rfl, okt, Nat.le_trans ok.1 (by decide), Nat.le_trans ok.2.1 (by decide), ok.2.2, rfl⟩) ea_nil) (.cons (fun _ _ z => z) .nil)) (congrArg outX (e0.trans (if_pos hc)))
theorem ok_kWhy (F : Fun K "why" "Keeper.why" sKWhy f fd) (T : Txt K mg CJ CG CR CK) (ML : MF P w K mg base (L2.CX P w) 3 CK "look" ["self", "words", "numbers"] (PureX CE (RLook CK))) (MK : MF P w K mg base CX0 8 CK "run" ["self"] (Pure (RKRun CJ CG CR CK)))
    (MO : MF P w K mg base CX0 1 CG "are_one" ["self", "two"] (Pure (ROne CG))) (MD : MF P w K mg base CX0 2 CR "needed" ["self", "two"] (Pure (RNeeded CJ CG CR))) (GL : GF P w K mg base CX0 1 "listed" ["row"] (Pure RListed)) : FnOk P w K mg base (L2.CX P w) 10 f fd ["self", "two"] (PureX CE (RKX CK 2 mWhy)) := by
  refine pureX_ok F scKWhy (fun Ps r h => by obtain ⟨b, l, rfl, _⟩ := h; rfl) fun cdv A outer st H0 E X hX hr tk hx hp vs Ps r N H h sm p er => ?_
  subst hX
  obtain ⟨s, l, rfl, ok, hl, rfl⟩ := h
  obtain ⟨v, v2, rfl, hv, hv2⟩ := paired2 p
  obtain ⟨t3, g3⟩ := T.cPER
  have gl := mRun_len s.1 s.2
  refine w_look2 (s := s) (l := l) T ML (hr.mono (by decide)) hx (.refl sm) (by walk_at "nm") (ev_tup (ea_cons (ev_glob (v := .str "person") g3 ⟨_, rfl⟩) (ea_cons (ev_glob (v := .str "person") g3 ⟨_, rfl⟩) ea_nil))) (by walk_at "nm") hl (fun a b okt el e0 H1 g => ?_) (fun i hk => er i (congrArg outX hk))
  rw [el] at hv2
  refine w_asg (i := 2) g (ev_kRun T MK (hr.mono (by decide)) (s := s) (by walk_at "nm") ok) (fun u N1 H2 g s1 hu => ?_) scKWhy.nd
  have hv2 := (isNs [a, b]).mono s1 hv2
  refine w_when g (evt_not (evt_val (ev_meth MO T.gC (hr.mono (by decide)) (fs := groupsF (mRun s.1 s.2).1) (ev_fld T.rC T.rgroups (fs := runF CJ CG s.2 (mRun s.1 s.2)) (ev_name (i := 2) rfl hu) lkR_groups) (lkG_m (by decide +kernel)) (ea_cons (P := isNs [a, b]) (by walk_at "nm") ea_nil) ⟨_, _, (a, b), rfl, .inr rfl, by rw [gl]; exact okt.1, by rw [gl]; exact okt.2, rfl⟩))) (fun h H3 g => ?_) (fun h H3 g => ?_)
  · have h : Vbkoab.one (mRun s.1 s.2).1 a b = false := by simpa using h
    exact w_endX (P := isI [0]) g (ev_lst (ea_cons ev_int ea_nil) (.cons (fun _ _ z => z) .nil)) (congrArg outX (e0.trans (congrArg Except.ok (if_neg (by rw [h]; decide)))))
  · have h : Vbkoab.one (mRun s.1 s.2).1 a b = true := by simpa using h
    have good := run_good ok.2.2 (Nat.le_trans ok.1 (by decide))
    have len : (mNeeded (mRun s.1 s.2).2 (a, b)).length ≤ 60 := by
      refine Nat.le_trans (List.length_filter_le ..) ?_
      rw [List.length_range]; exact good.len
    refine w_endX (P := isI ([1] ++ Vbkoab.ints (listedN (mNeeded (mRun s.1 s.2).2 (a, b))))) g (ev_catL (R := I) (ev_lst (ea_cons ev_int ea_nil) (.cons (fun _ _ z => z) .nil)) (ev_eq (ev_call GL (hr.mono (by decide)) (ea_cons (ev_meth MD T.rC (hr.mono (by decide)) (fs := runF CJ CG s.2 (mRun s.1 s.2)) (ev_name (i := 2) rfl hu) (lkR_m (by decide +kernel) (by decide +kernel) (by decide +kernel)) (ea_cons (P := isNs [a, b]) (by walk_at "nm") ea_nil) ⟨s.2, _, _, (a, b), s.1, rfl, .inr rfl, good, okt.1, (run_conn ok.2.2 okt.1 okt.2).mp h, rfl⟩) ea_nil) ⟨_, rfl, by omega, rfl⟩) ns_i) ?_) (congrArg outX (e0.trans (congrArg Except.ok (if_pos h))))
    show 1 + (List.map _ (listedN _)).length ≤ _
    rw [List.length_map]
    show 1 + ((mNeeded (mRun s.1 s.2).2 (a, b)).length + 1) ≤ _
    omega
end
end PB
namespace PB
open PySem PySem.Spec PyProof.Rows L2
local macro_rules | `(tactic| walk_at "at") => `(tactic| first | exact at0 _ | exact at1 _ | rfl | assumption)
local macro_rules | `(tactic| walk_at "p") => `(tactic| first | assumption | exact (rfl : (is _).p _ _))
local macro_rules | `(tactic| walk_at "nm") => `(tactic| first
  | exact ev_glob (by assumption) (by first | exact ⟨_, rfl⟩ | rfl)
  | exact ev_nameI (by rfl) rfl (by walk_at "p"))
local macro_rules | `(tactic| walk_at "ev") => `(tactic| first
  | (with_reducible show Ev _ (PySem.Expr.Constant _ _ _) _ _ _); first | exact ev_int | exact ev_non | exact ev_bool | exact ev_str
  | (with_reducible show Ev _ (PySem.Expr.Name _ _) _ _ _); walk_at "nm"
  | (with_reducible show Ev _ (PySem.Expr.Subscript _ _ _) _ _ _); first | exact ev_ixT (by walk_at "ev") (by walk_at "ev") (by walk_at "at") | exact ev_ixL (by walk_at "ev") (by walk_at "ev") (by walk_at "at")
  | (with_reducible show Ev _ (PySem.Expr.Tuple _ _ _) _ _ _); exact ev_tup (by walk_at "ea")
  | (with_reducible show Ev _ (PySem.Expr.UnaryOp PySem.UnaryOp.USub _ _) _ _ _); exact ev_neg (by walk_at "ev")
  | (with_reducible show Ev _ (PySem.Expr.Compare _ [PySem.CmpOp.Eq] _ _) _ _ _); exact ev_eqI (by walk_at "ev") (by walk_at "ev")
  | (with_reducible show Ev _ (PySem.Expr.Compare _ [PySem.CmpOp.NotEq] _ _) _ _ _); exact ev_neI (by walk_at "ev") (by walk_at "ev"))
local macro_rules | `(tactic| walk_at "ea") => `(tactic| first
  | (with_reducible show EvA _ [] _ _ _); exact ea_nil
  | exact ea_cons (by walk_at "ev") (by walk_at "ea"))
local macro_rules | `(tactic| walk_at "et") => `(tactic| first
  | (with_reducible show EvT _ (PySem.Expr.Compare _ [PySem.CmpOp.Eq] _ _) _ _ _); exact evt_eqI (by walk_at "ev") (by walk_at "ev")
  | (with_reducible show EvT _ (PySem.Expr.Compare _ [PySem.CmpOp.NotEq] _ _) _ _ _); exact evt_neI (by walk_at "ev") (by walk_at "ev")
  | (with_reducible show EvT _ (PySem.Expr.Compare _ [PySem.CmpOp.Lt] _ _) _ _ _); exact evt_ltI (by walk_at "ev") (by walk_at "ev")
  | (with_reducible show EvT _ (PySem.Expr.Compare _ [PySem.CmpOp.LtE] _ _) _ _ _); exact evt_leI (by walk_at "ev") (by walk_at "ev")
  | (with_reducible show EvT _ (PySem.Expr.Compare _ [PySem.CmpOp.Gt] _ _) _ _ _); exact evt_gtI (by walk_at "ev") (by walk_at "ev")
  | (with_reducible show EvT _ (PySem.Expr.Compare _ [PySem.CmpOp.GtE] _ _) _ _ _); exact evt_geI (by walk_at "ev") (by walk_at "ev"))
/-! ### keeper.py: whynot, check, core, clash -/
abbrev sKWhynot : Stmt := inClass (top 59) 17
theorem scKWhynot : FnScope ["self", "two", "run", "clash", "needed", "found", "number"] ["self", "two"] (defScope sKWhynot) := ⟨rfl, rfl, rfl, by decide +kernel, rfl, by decide +kernel, by decide +kernel⟩
def twoOf (js : List MJ) (i : Nat) : List Int := match js[i]? with
  | some j => [(j.e : Int), j.e2]
  | none => []
noncomputable def whynotOut (n : Nat) (es : List Piece) : List Int := match mClash es (mRun n es).1 with
  | none => [0]
  | some c => [1, (c.e : Int), c.e2, ((mNeeded (mRun n es).2 c.t).length : Int)] ++ (mNeeded (mRun n es).2 c.t).flatMap (twoOf (mRun n es).2)
noncomputable def mWhynot (s : KS) (l : List Int) : Res := onTwoK s l fun a b => if a = b then .error (-5) else if (kClash s).isNone = true then .ok (whynotOut s.1 (withSame s.2 (a, b))) else .error (-8)
theorem mClashTwo_one {evs : List Piece} {g : List Nat} {n m : Nat} {a : Piece} {c : MC} (h : mClashTwo evs g n a m = some c) : Vbkoab.one g c.t.1 c.t.2 = true ∧ ∃ b, b ∈ evs ∧ c.t = (evX a, evX b) := by
  unfold mClashTwo at h
  cases e : evs[m]? with
  | none => rw [e] at h; cases h
  | some b =>
    rw [e] at h
    have h : (if (disag a b && Vbkoab.one g (evX a) (evX b)) = true then some (⟨n, (m : Int), (evX a, evX b)⟩ : MC) else none) = some c := h
    split at h
    · cases h
      rename_i q
      exact ⟨(Bool.and_eq_true_iff.mp q).2, b, List.mem_of_getElem? e, rfl⟩
    · cases h
theorem mClash_one {evs : List Piece} {g : List Nat} {c : MC} {n : Nat} (ok : okEvs n evs) (h : mClash evs g = some c) : Vbkoab.one g c.t.1 c.t.2 = true ∧ okTwo n c.t := by
  unfold mClash at h
  obtain ⟨i, _, h⟩ := List.exists_of_findSome?_eq_some h
  unfold mClashFrom at h
  cases e : evs[i]? with
  | none => rw [e] at h; cases h
  | some a =>
    have oa := ok a (List.mem_of_getElem? e)
    cases a with
    | differ x y =>
      rw [e] at h
      have h : (if Vbkoab.one g x y = true then some (⟨i, -1, (x, y)⟩ : MC) else none) = some c := h
      by_cases q : Vbkoab.one g x y = true
      · rw [if_pos q] at h; cases h; exact ⟨q, oa⟩
      · rw [if_neg q] at h; cases h
    | single x k v =>
      rw [e] at h
      obtain ⟨j, _, h⟩ := List.exists_of_findSome?_eq_some h
      obtain ⟨h1, b, hb, h2⟩ := mClashTwo_one h
      refine ⟨h1, ?_⟩
      rw [h2]
      exact ⟨oa, evX_ok (ok b hb)⟩
    | _ => rw [e] at h; cases h
abbrev sKCheck : Stmt := inClass (top 59) 18
theorem scKCheck : FnScope ["self", "two", "row", "pairs", "found", "k"] ["self", "two", "row"] (defScope sKCheck) := ⟨rfl, rfl, rfl, by decide +kernel, rfl, by decide +kernel, by decide +kernel⟩
def mPairs (row : List Int) : List (Int × Int) := (List.range (row.length / 2)).map fun k => (row.getD (2 * k) 0, row.getD (2 * k + 1) 0)
def checkOut (o : Option Nat) : List Int := match o with
  | none => [1]
  | some k => [0, (k : Int)]
def mCheck (s : KS) (l row : List Int) : Res := onTwoK s l fun a b => if (row.length : Int) % 2 = 0 then .ok (checkOut (mWrong s.1 s.2 (a, b) (mPairs row))) else .error (-2)
def RKX2 (CK : Addr) (k : Nat) (m : KS → List Int → List Int → Res) : List VP → Except Int VP → Prop := fun Ps r => ∃ s l row, Ps = [keeper CK s, isI l, isI row] ∧ okS s ∧ l.length = k ∧ row.length < 100000 ∧ r = outX (m s l row)
abbrev sKCore : Stmt := inClass (top 59) 19
theorem scKCore : FnScope ["self", "two", "found"] ["self", "two"] (defScope sKCore) := ⟨rfl, rfl, rfl, by decide +kernel, rfl, by decide +kernel, by decide +kernel⟩
def coreOut (o : Option (List Nat)) : List Int := match o with
  | none => [0]
  | some l => [1] ++ Vbkoab.ints (listedN l)
def mKCore (s : KS) (l : List Int) : Res := onTwoK s l fun a b => .ok (coreOut (mCore s.1 s.2 (some (a, b))))
abbrev sKClash : Stmt := inClass (top 59) 20
theorem scKClash : FnScope ["self", "found"] ["self"] (defScope sKClash) := ⟨rfl, rfl, rfl, by decide +kernel, rfl, by decide +kernel, by decide +kernel⟩
def mKClash (s : KS) : List Int := coreOut (mCore s.1 s.2 none)
theorem int_ne {a b : Nat} : (!decide ((a : Int) = (b : Int))) = false ↔ a = b := by
  constructor
  · intro h
    have : (a : Int) = (b : Int) := by
      by_cases z : (a : Int) = (b : Int)
      · exact z
      · rw [decide_eq_false z] at h; cases h
    omega
  · rintro rfl
    rw [decide_eq_true rfl]
    rfl
theorem out_eq {r : Res} {l : List Int} (h : r = .ok l) : outX r = .ok (isI l) := by rw [h]; rfl
theorem ints_len {l : List Nat} : (Vbkoab.ints l).length = l.length := List.length_map ..
section
variable {P : Program} {w : World} {K : PySem.W.Frag} {mg : Str → Option Value} {base : Heap} {CJ CG CR CK CE fI : Addr} {f : Addr} {fd : FuncData}
theorem ok_kWhynot (F : Fun K "whynot" "Keeper.whynot" sKWhynot f fd) (T : Txt K mg CJ CG CR CK) (GN : GF P w K mg base (L2.CX P w) 2 "need" ["truth", "answer"] (PureX CE RNeed)) (ML : MF P w K mg base (L2.CX P w) 3 CK "look" ["self", "words", "numbers"] (PureX CE (RLook CK))) (MN : MF P w K mg base (L2.CX P w) 9 CK "need_fit" ["self"] (PureX CE (RNeedFit CK)))
    (GS : GF P w K mg base CX0 8 "with_same" ["many", "pieces", "two"] (Pure (RSame CJ CG CR))) (MC_ : MF P w K mg base CX0 3 CR "clash" ["self"] (Pure (RClash CJ CG CR))) (MD : MF P w K mg base CX0 2 CR "needed" ["self", "two"] (Pure (RNeeded CJ CG CR))) : FnOk P w K mg base (L2.CX P w) 10 f fd ["self", "two"] (PureX CE (RKX CK 2 mWhynot)) := by
  refine pureX_ok F scKWhynot (fun Ps r h => by obtain ⟨b, l, rfl, _⟩ := h; rfl) fun cdv A outer st H0 E X hX hr tk hx hp vs Ps r N H h sm p er => ?_
  subst hX
  obtain ⟨s, l, rfl, ok, hl, rfl⟩ := h
  obtain ⟨v, v2, rfl, hv, hv2⟩ := paired2 p
  obtain ⟨t3, g3⟩ := T.cPER
  obtain ⟨t4, g4⟩ := T.cALI
  refine w_look2 (s := s) (l := l) T ML (hr.mono (by decide)) hx (.refl sm) (by walk_at "nm") (ev_tup (ea_cons (ev_glob (v := .str "person") g3 ⟨_, rfl⟩) (ea_cons (ev_glob (v := .str "person") g3 ⟨_, rfl⟩) ea_nil))) (by walk_at "nm") hl (fun a b okt el e0 H1 g => ?_) (fun i hk => er i (congrArg outX hk))
  rw [el] at hv2
  refine w_need (b := !decide ((a : Int) = (b : Int))) (i := -5) GN (hr.mono (by decide)) hx g (ev_neI (ev_ixL (R := fun n : Nat => I (n : Int)) (l := [a, b]) (x := a) (by walk_at "nm") ev_int rfl) (ev_ixL (R := fun n : Nat => I (n : Int)) (l := [a, b]) (x := b) (by walk_at "nm") ev_int rfl)) (by walk_at "nm") (fun hne H2 g2 => ?_) (fun hne => er (-5) (congrArg outX (e0.trans (if_pos (int_ne.mp hne)))))
  have hne : ¬ a = b := fun z => by rw [int_ne.mpr z] at hne; cases hne
  rw [if_neg hne] at e0
  refine w_needFit (s := s) T MN hr hx g2 (by walk_at "nm") ok (fun hc H3 g3 => ?_) (fun hc => er (-8) (congrArg outX (e0.trans (if_neg (by rw [hc]; decide)))))
  rw [if_pos hc] at e0
  have ok2 : okEvs s.1 (withSame s.2 (a, b)) := okEvs_same ok.2.2 okt
  have l31 : (withSame s.2 (a, b)).length ≤ 100 := by rw [same_len]; have := ok.2.1; omega
  have good := run_good ok2 (Nat.le_trans ok.1 (by decide))
  generalize hes : withSame s.2 (a, b) = es at e0 ok2 l31 good
  refine w_asg (i := 2) g3 (P := run CJ CG CR es (mRun s.1 es)) (ev_call GS (hr.mono (by decide)) (ea_cons (ev_fld T.kC T.kmany (fs := keeperF s) (by walk_at "nm") lkK_many) (ea_cons (ev_fld T.kC T.kpieces (fs := keeperF s) (by walk_at "nm") lkK_pieces) (ea_cons (P := isNs [a, b]) (by walk_at "nm") ea_nil))) ⟨s.1, s.2, _, (a, b), rfl, .inr rfl, okt, Nat.le_trans ok.1 (by decide), Nat.le_trans ok.2.1 (by decide), ok.2.2, by rw [hes]⟩) (fun u N1 H4 g s1 hu => ?_) scKWhynot.nd
  refine w_asg (i := 3) g (P := isO clashV (mClash es (mRun s.1 es).1)) (ev_meth0 MC_ T.rC (hr.mono (by decide)) (fs := runF CJ CG es (mRun s.1 es)) (by walk_at "nm") (lkR_m (by decide +kernel) (by decide +kernel) (by decide +kernel)) ⟨es, _, rfl, by rw [mRun_len]; exact ok2, l31, rfl⟩) (fun u2 N2 H5 g s2 hu2 => ?_) scKWhynot.nd
  refine w_when g (evt_isN (P := isO clashV (mClash es (mRun s.1 es).1)) (by walk_at "nm") (isO_non clash_non)) (fun h H2 g => ?_) (fun h H2 g => ?_)
  · have en : mClash es (mRun s.1 es).1 = none := by
      cases q : mClash es (mRun s.1 es).1 with
      | none => rfl
      | some c => rw [q] at h; cases h
    refine w_endX (P := isI [0]) g (ev_lst (ea_cons ev_int ea_nil) (.cons (fun _ _ z => z) .nil)) (out_eq (l := [0]) (e0.trans ?_))
    unfold whynotOut
    rw [en]
  · obtain ⟨c, ec⟩ : ∃ c, mClash es (mRun s.1 es).1 = some c := by
      cases q : mClash es (mRun s.1 es).1 with
      | none => rw [q] at h; cases h
      | some c => exact ⟨c, rfl⟩
    rw [ec] at hu2
    have hu2 : (clashV c).p u2 N2 := hu2
    obtain ⟨c1, c2⟩ := mClash_one ok2 ec
    have hu := (run CJ CG CR es (mRun s.1 es)).mono s2 hu
    have eo : whynotOut s.1 es = [1, (c.e : Int), c.e2, ((mNeeded (mRun s.1 es).2 c.t).length : Int)] ++ (mNeeded (mRun s.1 es).2 c.t).flatMap (twoOf (mRun s.1 es).2) := by
      unfold whynotOut
      rw [ec]
    have ndl : (mNeeded (mRun s.1 es).2 c.t).length ≤ 60 := by
      refine Nat.le_trans (List.length_filter_le ..) ?_
      rw [List.length_range]; exact good.len
    refine w_asg (i := 4) g (P := isNs (mNeeded (mRun s.1 es).2 c.t)) (ev_meth MD T.rC (hr.mono (by decide)) (fs := runF CJ CG es (mRun s.1 es)) (by walk_at "nm") (lkR_m (by decide +kernel) (by decide +kernel) (by decide +kernel)) (ea_cons (ev_ixT (Ps := [I (c.e : Int), I c.e2, two c.t]) (ev_name (i := 3) rfl hu2) ev_int rfl) ea_nil) ⟨es, _, _, c.t, s.1, rfl, .inl rfl, good, c2.1, (run_conn ok2 c2.1 c2.2).mp c1, rfl⟩) (fun u3 N3 H6 g s3 hu3 => ?_) scKWhynot.nd
    have hu2 := (clashV c).mono s3 hu2
    have hu := (run CJ CG CR es (mRun s.1 es)).mono s3 hu
    refine w_asg (i := 5) g (P := isI [1, (c.e : Int), c.e2, ((mNeeded (mRun s.1 es).2 c.t).length : Int)]) (ev_lst (ea_cons ev_int (ea_cons (ev_ixT (Ps := [I (c.e : Int), I c.e2, two c.t]) (ev_name (i := 3) rfl hu2) ev_int rfl) (ea_cons (ev_ixT (Ps := [I (c.e : Int), I c.e2, two c.t]) (ev_name (i := 3) rfl hu2) ev_int rfl) (ea_cons (ev_lenL (R := fun n : Nat => I (n : Int)) T.nlen (ev_name (i := 4) rfl hu3)) ea_nil)))) (.cons (fun _ _ z => z) (.cons (fun _ _ z => z) (.cons (fun _ _ z => z) (.cons (fun _ _ z => z) .nil))))) (fun u4 N4 H7 g s4 hu4 => ?_) scKWhynot.nd
    have hu := (run CJ CG CR es (mRun s.1 es)).mono s4 hu
    have hu3 := (isNs _).mono s4 hu3
    refine b_forL (g := gName 6) (R := fun n : Nat => I (n : Int)) (l := mNeeded (mRun s.1 es).2 c.t) (ev_name (i := 4) rfl hu3) g.nh
      (fun N0 i σ1 N5 H8 => ∃ fv w6, σ1 = [some v, some v2, some u, some u2, some u3, some fv, w6] ∧ Grow N H N5 H8 ∧ Same N4 N5 ∧ (isI ([1, (c.e : Int), c.e2, ((mNeeded (mRun s.1 es).2 c.t).length : Int)] ++ ((mNeeded (mRun s.1 es).2 c.t).take i).flatMap (twoOf (mRun s.1 es).2))).p fv N5)
      (fun N0 H8 g8 => ⟨u4, none, rfl, g.trans g8, g8.nn, (isI _).mono g8.nn hu4⟩) (fun N0 i k uk σ1 N5 H8 s0 hk s01 s11 ⟨fv, w6, e, g5, s45, hf⟩ hku => ?_) (fun N0 σ1 N5 H8 s0 s01 s11 ⟨fv, w6, e, g5, s45, hf⟩ => ?_) hp rfl (pg_name scKWhynot.nd rfl (Or.inl rfl))
    · subst e
      have hku : uk = .int (k : Int) := hku
      subst hku
      have kl : k < (mRun s.1 es).2.length := (mem_needed.mp (List.mem_of_getElem? hk)).lt
      have ej : (mRun s.1 es).2[k]? = some (mRun s.1 es).2[k] := List.getElem?_eq_getElem kl
      have hu := (run CJ CG CR es (mRun s.1 es)).mono s45 hu
      have e2 : twoOf (mRun s.1 es).2 k = [((mRun s.1 es).2[k].e : Int), (mRun s.1 es).2[k].e2] := by unfold twoOf; rw [ej]
      refine w_asg (i := 5) g5 (P := isI ([1, (c.e : Int), c.e2, ((mNeeded (mRun s.1 es).2 c.t).length : Int)] ++ ((mNeeded (mRun s.1 es).2 c.t).take (i + 1)).flatMap (twoOf (mRun s.1 es).2))) ?_ (fun x N6 H9 g6 s6 hx' => ?_) scKWhynot.nd
      · rw [flatMap_more hk, e2, ← List.append_assoc]
        refine ev_catL (R := I) (ev_name (i := 5) rfl hf) (ev_lst (ea_cons (ev_fld T.jC T.jfirst (fs := joinF (mRun s.1 es).2[k]) (ev_ixL (R := join CJ) (ev_fld T.rC T.rjoins (fs := runF CJ CG es (mRun s.1 es)) (ev_name (i := 2) rfl hu) lkR_joins) (ev_name (i := 6) rfl rfl) (at_ix ej)) lkJ_first) (ea_cons (ev_fld T.jC T.jlater (fs := joinF (mRun s.1 es).2[k]) (ev_ixL (R := join CJ) (ev_fld T.rC T.rjoins (fs := runF CJ CG es (mRun s.1 es)) (ev_name (i := 2) rfl hu) lkR_joins) (ev_name (i := 6) rfl rfl) (at_ix ej)) lkJ_later) ea_nil)) (.cons (fun _ _ z => z) (.cons (fun _ _ z => z) .nil))) ?_
        have a1 := flatMap_len (f := twoOf (mRun s.1 es).2) (c := 2) (l := (mNeeded (mRun s.1 es).2 c.t).take i) fun a _ => by unfold twoOf; split <;> simp
        have a2 : ((mNeeded (mRun s.1 es).2 c.t).take i).length ≤ 60 := Nat.le_trans (List.length_take_le' ..) ndl
        rw [List.length_append]
        simp only [List.length_cons, List.length_nil]
        omega
      · exact b_nil ⟨N6, s01.trans s6, g6.nh, x, _, rfl, g6, s45.trans s6, hx'⟩
    · subst e
      rw [List.take_length] at hf
      exact w_endX g5 (ev_name (i := 5) rfl hf) (congrArg outX (e0.trans (congrArg Except.ok eo)))
theorem getD_ix {l : List Int} {i : Nat} (h : i < l.length) : l[i]? = some (l.getD i 0) := by
  rw [List.getD_eq_getElem?_getD, List.getElem?_eq_getElem h]
  rfl
theorem checkOut_non : ∀ (k : Nat) v N, (I (k : Int)).p v N → decide (v = .non) = false := fun k v N h => by
  have h : v = .int k := h
  subst h; rfl
theorem ok_kCheck (F : Fun K "check" "Keeper.check" sKCheck f fd) (T : Txt K mg CJ CG CR CK) (GN : GF P w K mg base (L2.CX P w) 2 "need" ["truth", "answer"] (PureX CE RNeed)) (ML : MF P w K mg base (L2.CX P w) 3 CK "look" ["self", "words", "numbers"] (PureX CE (RLook CK)))
    (GW : GF P w K mg base CX0 5 "first_wrong" ["many", "pieces", "two", "pairs"] (Pure RWrong)) : FnOk P w K mg base (L2.CX P w) 10 f fd ["self", "two", "row"] (PureX CE (RKX2 CK 2 mCheck)) := by
  refine pureX_ok F scKCheck (fun Ps r h => by obtain ⟨b, l, z, rfl, _⟩ := h; rfl) fun cdv A outer st H0 E X hX hr tk hx hp vs Ps r N H h sm p er => ?_
  subst hX
  obtain ⟨s, l, row, rfl, ok, hl, hz, rfl⟩ := h
  obtain ⟨v, v2, v3, rfl, hv, hv2, hv3⟩ := paired3 p
  obtain ⟨t3, g3⟩ := T.cPER
  obtain ⟨t4, g4⟩ := T.cNOL
  have hlen := T.nlen
  refine w_look2 (s := s) (l := l) T ML (hr.mono (by decide)) hx (.refl sm) (by walk_at "nm") (ev_tup (ea_cons (ev_glob (v := .str "person") g3 ⟨_, rfl⟩) (ea_cons (ev_glob (v := .str "person") g3 ⟨_, rfl⟩) ea_nil))) (by walk_at "nm") hl (fun a b okt el e0 H1 g => ?_) (fun i hk => er i (congrArg outX hk))
  rw [el] at hv2
  refine w_need (b := decide ((row.length : Int) % 2 = 0)) (i := -2) GN (hr.mono (by decide)) hx g (ev_eqI (ev_mod (by decide) (ev_lenL (R := I) hlen (ev_name (i := 2) rfl hv3)) ev_int) ev_int) (by walk_at "nm") (fun hne H2 g2 => ?_) (fun hne => er (-2) (congrArg outX (e0.trans (if_neg (of_decide_eq_false hne)))))
  rw [if_pos (of_decide_eq_true hne)] at e0
  have el2 : ((row.length : Int) / 2).toNat = row.length / 2 := by omega
  refine w_lcR (i := 3) (j := 5) (x := "k") (lo := 0) (n := ((row.length : Int) / 2).toNat) (f := fun k => (row.getD (2 * k) 0, row.getD (2 * k + 1) 0)) (t := fun _ => true) (S := pairV) g2 (evi_1 T.nrange (ev_fdiv (by decide) (ev_lenL (R := I) hlen (ev_name (i := 2) rfl hv3)) ev_int) (by omega)) (by omega) (fun k N1 s1 hk => ⟨ifs_nil, fun _ _ _ _ _ _ => ?_⟩) (fun u N1 H3 g s1 hu => ?_) rfl scKCheck.nd (blkOk_by (N := ["self", "two", "row", "pairs", "found", "k"]) (sc := defScope sKCheck) (by decide +kernel)) (fun _ _ _ _ _ => pg_name scKCheck.nd rfl (Or.inl rfl)) (sw_true rfl rfl rfl (by decide +kernel))
  · have e1 : (2 : Int) * (0 + (k : Nat)) = ((2 * k : Nat) : Int) := by omega
    have e2 : (2 : Int) * (0 + (k : Nat)) + 1 = ((2 * k + 1 : Nat) : Int) := by omega
    have hv3 := (isI row).mono s1 hv3
    refine ev_tup (ea_cons (ev_ixL (R := I) (l := row) (i := (2 : Int) * (0 + (k : Nat))) (by walk_at "nm") (ev_mul (by decide) ev_int (by walk_at "nm")) ?_) (ea_cons (ev_ixL (R := I) (l := row) (i := (2 : Int) * (0 + (k : Nat)) + 1) (by walk_at "nm") (ev_add (ev_mul (by decide) ev_int (by walk_at "nm")) ev_int) ?_) ea_nil))
    · rw [e1]; exact at_ix (getD_ix (by omega))
    · rw [e2]; exact at_ix (getD_ix (by omega))
  · rw [filt_true, el2] at hu
    have hu : (isL pairV (mPairs row)).p u N1 := hu
    have hv := (keeper CK s).mono s1 hv
    have hv2 := (isNs [a, b]).mono s1 hv2
    refine w_asg (i := 4) g (P := isO (fun k : Nat => I (k : Int)) (mWrong s.1 s.2 (a, b) (mPairs row))) (ev_call GW (hr.mono (by decide)) (ea_cons (ev_fld T.kC T.kmany (fs := keeperF s) (by walk_at "nm") lkK_many) (ea_cons (ev_fld T.kC T.kpieces (fs := keeperF s) (by walk_at "nm") lkK_pieces) (ea_cons (P := isNs [a, b]) (by walk_at "nm") (ea_cons (P := isL pairV (mPairs row)) (by walk_at "nm") ea_nil)))) ⟨s.1, s.2, (a, b), _, rfl, okt, Nat.le_trans ok.1 (by decide), Nat.le_trans ok.2.1 (by decide), ok.2.2, rfl⟩) (fun u2 N2 H4 g s2 hu2 => ?_) scKCheck.nd
    refine w_when g (evt_isN (P := isO (fun k : Nat => I (k : Int)) (mWrong s.1 s.2 (a, b) (mPairs row))) (by walk_at "nm") (isO_non checkOut_non)) (fun h H5 g => ?_) (fun h H5 g => ?_)
    · refine w_endX (P := isI [1]) g (ev_lst (ea_cons ev_int ea_nil) (.cons (fun _ _ z => z) .nil)) (out_eq (l := [1]) (e0.trans ?_))
      cases q : mWrong s.1 s.2 (a, b) (mPairs row) with
      | none => rfl
      | some c => rw [q] at h; cases h
    · cases q : mWrong s.1 s.2 (a, b) (mPairs row) with
      | none => rw [q] at h; cases h
      | some c =>
        rw [q] at hu2 e0
        have hu2 : (I (c : Int)).p u2 N2 := hu2
        exact w_endX (P := isI [0, (c : Int)]) g (ev_lst (ea_cons ev_int (ea_cons (ev_name (i := 4) rfl hu2) ea_nil)) (.cons (fun _ _ z => z) (.cons (fun _ _ z => z) .nil))) (out_eq e0)
theorem core_few {n : Nat} {evs : List Piece} {o : Option (Nat × Nat)} {l : List Nat} (h : mCore n evs o = some l) : l.length ≤ evs.length := by
  unfold mCore at h
  split at h
  · cases h
    have : ∀ (k : Nat) (m : List Nat), (Vbkoab.coreFrom evs (fun es => mSo n es o) k m).length ≤ m.length := by
      intro k
      induction k with
      | zero => intro m; exact Nat.le_refl _
      | succ k ih =>
        intro m
        refine Nat.le_trans (ih _) ?_
        split
        · exact List.length_filter_le ..
        · exact Nat.le_refl _
    refine Nat.le_trans (this _ _) ?_
    rw [List.length_range]
    exact Nat.le_refl _
  · cases h
theorem ok_kCore (F : Fun K "core" "Keeper.core" sKCore f fd) (T : Txt K mg CJ CG CR CK) (ML : MF P w K mg base (L2.CX P w) 3 CK "look" ["self", "words", "numbers"] (PureX CE (RLook CK))) (GC : GF P w K mg base CX0 9 "core_proofs" ["many", "pieces", "two"] (Pure RCore)) (GL : GF P w K mg base CX0 1 "listed" ["row"] (Pure RListed)) :
    FnOk P w K mg base (L2.CX P w) 10 f fd ["self", "two"] (PureX CE (RKX CK 2 mKCore)) := by
  refine pureX_ok F scKCore (fun Ps r h => by obtain ⟨b, l, rfl, _⟩ := h; rfl) fun cdv A outer st H0 E X hX hr tk hx hp vs Ps r N H h sm p er => ?_
  subst hX
  obtain ⟨s, l, rfl, ok, hl, rfl⟩ := h
  obtain ⟨v, v2, rfl, hv, hv2⟩ := paired2 p
  obtain ⟨t3, g3⟩ := T.cPER
  refine w_look2 (s := s) (l := l) T ML (hr.mono (by decide)) hx (.refl sm) (by walk_at "nm") (ev_tup (ea_cons (ev_glob (v := .str "person") g3 ⟨_, rfl⟩) (ea_cons (ev_glob (v := .str "person") g3 ⟨_, rfl⟩) ea_nil))) (by walk_at "nm") hl (fun a b okt el e0 H1 g => ?_) (fun i hk => er i (congrArg outX hk))
  rw [el] at hv2
  refine w_asg (i := 2) g (P := isO isNs (mCore s.1 s.2 (some (a, b)))) (ev_call GC hr (ea_cons (ev_fld T.kC T.kmany (fs := keeperF s) (by walk_at "nm") lkK_many) (ea_cons (ev_fld T.kC T.kpieces (fs := keeperF s) (by walk_at "nm") lkK_pieces) (ea_cons (P := isNs [a, b]) (by walk_at "nm") ea_nil))) ⟨s.1, s.2, some (a, b), rfl, okt, Nat.le_trans ok.1 (by decide), Nat.le_trans ok.2.1 (by decide), ok.2.2, rfl⟩) (fun u N1 H2 g s1 hu => ?_) scKCore.nd
  refine w_when g (evt_isN (P := isO isNs (mCore s.1 s.2 (some (a, b)))) (by walk_at "nm") (isO_non fun l v N h => isL_non v N h)) (fun h H5 g => ?_) (fun h H5 g => ?_)
  · refine w_endX (P := isI [0]) g (ev_lst (ea_cons ev_int ea_nil) (.cons (fun _ _ z => z) .nil)) (out_eq (l := [0]) (e0.trans ?_))
    cases q : mCore s.1 s.2 (some (a, b)) with
    | none => rfl
    | some c => rw [q] at h; cases h
  · cases q : mCore s.1 s.2 (some (a, b)) with
    | none => rw [q] at h; cases h
    | some c =>
      rw [q] at hu e0
      have hu : (isNs c).p u N1 := hu
      have cl := core_few q
      have l30 := ok.2.1
      refine w_endX (P := isI ([1] ++ Vbkoab.ints (listedN c))) g (ev_catL (R := I) (ev_lst (ea_cons ev_int ea_nil) (.cons (fun _ _ z => z) .nil)) (ev_eq (ev_call GL (hr.mono (by decide)) (ea_cons (ev_name (i := 2) rfl hu) ea_nil) ⟨_, rfl, by omega, rfl⟩) ns_i) ?_) (out_eq e0)
      rw [ints_len]
      show 1 + (c.length + 1) ≤ _
      omega
theorem ok_kClash (F : Fun K "clash" "Keeper.clash" sKClash f fd) (T : Txt K mg CJ CG CR CK) (GC : GF P w K mg base CX0 9 "core_proofs" ["many", "pieces", "two"] (Pure RCore)) (GL : GF P w K mg base CX0 1 "listed" ["row"] (Pure RListed)) :
    FnOk P w K mg base CX0 10 f fd ["self"] (Pure (RKOut CK mKClash)) := by
  refine pure_ok F scKClash (fun Ps P h => by obtain ⟨a, rfl, _⟩ := h; rfl) fun cdv A outer st H0 E hr vs Ps P' N H h sm p => ?_
  obtain ⟨s, rfl, ok, rfl⟩ := h
  obtain ⟨v, rfl, hv⟩ := paired1 p
  refine w_asg (i := 1) (.refl sm) (P := isO isNs (mCore s.1 s.2 none)) (ev_call GC hr (ea_cons (ev_fld T.kC T.kmany (fs := keeperF s) (by walk_at "nm") lkK_many) (ea_cons (ev_fld T.kC T.kpieces (fs := keeperF s) (by walk_at "nm") lkK_pieces) (ea_cons ev_non ea_nil))) ⟨s.1, s.2, none, rfl, trivial, Nat.le_trans ok.1 (by decide), Nat.le_trans ok.2.1 (by decide), ok.2.2, rfl⟩) (fun u N1 H2 g s1 hu => ?_) scKClash.nd
  refine w_when g (evt_isN (P := isO isNs (mCore s.1 s.2 none)) (by walk_at "nm") (isO_non fun l v N h => isL_non v N h)) (fun h H5 g => ?_) (fun h H5 g => ?_)
  · refine w_end g (P := isI [0]) (ev_lst (ea_cons ev_int ea_nil) (.cons (fun _ _ z => z) .nil)) ?_
    unfold mKClash
    cases q : mCore s.1 s.2 none with
    | none => rfl
    | some c => rw [q] at h; cases h
  · cases q : mCore s.1 s.2 none with
    | none => rw [q] at h; cases h
    | some c =>
      rw [q] at hu
      have hu : (isNs c).p u N1 := hu
      have cl := core_few q
      have l30 := ok.2.1
      refine w_end (P := isI ([1] ++ Vbkoab.ints (listedN c))) g (ev_catL (R := I) (ev_lst (ea_cons ev_int ea_nil) (.cons (fun _ _ z => z) .nil)) (ev_eq (ev_call GL (hr.mono (by decide)) (ea_cons (ev_name (i := 1) rfl hu) ea_nil) ⟨_, rfl, by omega, rfl⟩) ns_i) ?_) (by unfold mKClash; rw [q]; rfl)
      rw [ints_len]
      show 1 + (c.length + 1) ≤ _
      omega
end
end PB
namespace PB
open PySem PySem.Spec PyProof.Rows L2
local macro_rules | `(tactic| walk_at "at") => `(tactic| first | exact at0 _ | exact at1 _ | rfl | assumption)
local macro_rules | `(tactic| walk_at "p") => `(tactic| first | assumption | exact (rfl : (is _).p _ _))
local macro_rules | `(tactic| walk_at "nm") => `(tactic| first
  | exact ev_glob (by assumption) (by first | exact ⟨_, rfl⟩ | rfl)
  | exact ev_nameI (by rfl) rfl (by walk_at "p"))
local macro_rules | `(tactic| walk_at "ev") => `(tactic| first
  | (with_reducible show Ev _ (PySem.Expr.Constant _ _ _) _ _ _); first | exact ev_int | exact ev_non | exact ev_bool | exact ev_str
  | (with_reducible show Ev _ (PySem.Expr.Name _ _) _ _ _); walk_at "nm"
  | (with_reducible show Ev _ (PySem.Expr.Subscript _ _ _) _ _ _); first | exact ev_ixT (by walk_at "ev") (by walk_at "ev") (by walk_at "at") | exact ev_ixL (by walk_at "ev") (by walk_at "ev") (by walk_at "at")
  | (with_reducible show Ev _ (PySem.Expr.Tuple _ _ _) _ _ _); exact ev_tup (by walk_at "ea")
  | (with_reducible show Ev _ (PySem.Expr.UnaryOp PySem.UnaryOp.USub _ _) _ _ _); exact ev_neg (by walk_at "ev")
  | (with_reducible show Ev _ (PySem.Expr.Compare _ [PySem.CmpOp.Eq] _ _) _ _ _); exact ev_eqI (by walk_at "ev") (by walk_at "ev")
  | (with_reducible show Ev _ (PySem.Expr.Compare _ [PySem.CmpOp.NotEq] _ _) _ _ _); exact ev_neI (by walk_at "ev") (by walk_at "ev"))
local macro_rules | `(tactic| walk_at "ea") => `(tactic| first
  | (with_reducible show EvA _ [] _ _ _); exact ea_nil
  | exact ea_cons (by walk_at "ev") (by walk_at "ea"))
local macro_rules | `(tactic| walk_at "et") => `(tactic| first
  | (with_reducible show EvT _ (PySem.Expr.Compare _ [PySem.CmpOp.Eq] _ _) _ _ _); exact evt_eqI (by walk_at "ev") (by walk_at "ev")
  | (with_reducible show EvT _ (PySem.Expr.Compare _ [PySem.CmpOp.NotEq] _ _) _ _ _); exact evt_neI (by walk_at "ev") (by walk_at "ev")
  | (with_reducible show EvT _ (PySem.Expr.Compare _ [PySem.CmpOp.Lt] _ _) _ _ _); exact evt_ltI (by walk_at "ev") (by walk_at "ev")
  | (with_reducible show EvT _ (PySem.Expr.Compare _ [PySem.CmpOp.LtE] _ _) _ _ _); exact evt_leI (by walk_at "ev") (by walk_at "ev")
  | (with_reducible show EvT _ (PySem.Expr.Compare _ [PySem.CmpOp.Gt] _ _) _ _ _); exact evt_gtI (by walk_at "ev") (by walk_at "ev")
  | (with_reducible show EvT _ (PySem.Expr.Compare _ [PySem.CmpOp.GtE] _ _) _ _ _); exact evt_geI (by walk_at "ev") (by walk_at "ev"))
/-! ### keeper.py: known, linked, value, ways -/
abbrev sKKnown : Stmt := inClass (top 59) 21
theorem scKKnown : FnScope ["self", "numbers"] ["self", "numbers"] (defScope sKKnown) := ⟨rfl, rfl, rfl, by decide +kernel, rfl, by decide +kernel, by decide +kernel⟩
def mKnown (s : KS) (l : List Int) : Res := match l with
  | [m, x, y] => afterLook s [("count", m), ("person", x), ("person", y)] (.ok [mVerdict s.1 (s.2.take m.toNat) (x.toNat, y.toNat)])
  | _ => .error 0
abbrev sKLinked : Stmt := inClass (top 59) 22
theorem scKLinked : FnScope ["self", "numbers", "groups", "piece"] ["self", "numbers"] (defScope sKLinked) := ⟨rfl, rfl, rfl, by decide +kernel, rfl, by decide +kernel, by decide +kernel⟩
def linkOf (g : List Nat) (x k : Nat) : Piece → Option Nat
  | .link z h w => if h = k ∧ Vbkoab.one g z x = true then some w else none
  | _ => none
def mLinked (s : KS) (l : List Int) : Res := match l with
  | [x, k] => afterLook s [("person", x), ("field", k)] (.ok (match s.2.findSome? (linkOf (mRun s.1 s.2).1 x.toNat k.toNat) with
    | none => [0]
    | some w => [1, (((mRun s.1 s.2).1.getD w w : Nat) : Int)]))
  | _ => .error 0
abbrev sKValue : Stmt := inClass (top 59) 23
theorem scKValue : FnScope ["self", "numbers", "groups", "piece"] ["self", "numbers"] (defScope sKValue) := ⟨rfl, rfl, rfl, by decide +kernel, rfl, by decide +kernel, by decide +kernel⟩
def valueOf (g : List Nat) (x k : Nat) : Piece → Option Nat
  | .single z h w => if h = k ∧ Vbkoab.one g z x = true then some w else none
  | _ => none
def mValue (s : KS) (l : List Int) : Res := match l with
  | [x, k] => afterLook s [("person", x), ("sort", k)] (.ok (match s.2.findSome? (valueOf (mRun s.1 s.2).1 x.toNat k.toNat) with
    | none => [0]
    | some w => [1, (w : Int)]))
  | _ => .error 0
abbrev sKWays : Stmt := inClass (top 59) 25
theorem scKWays : FnScope ["self", "two", "rows", "row"] ["self", "two"] (defScope sKWays) := ⟨rfl, rfl, rfl, by decide +kernel, rfl, by decide +kernel, by decide +kernel⟩
def inOne (a b : Nat) (g : List Nat) : Bool := decide (((g.getD a a : Nat) : Int) = ((g.getD b b : Nat) : Int))
def mWays (s : KS) (l : List Int) : Res := onTwoK s l fun a b => if (s.1 : Int) ≤ 7 then .ok [((mFit s.1 s.2).length : Int), (((mFit s.1 s.2).filter (inOne a b)).length : Int)] else .error (-9)
theorem fs_more {α β : Type} {f : α → Option β} {l : List α} {i : Nat} {y : α} (h : (l.take i).findSome? f = none) (e : l[i]? = some y) : (l.take (i + 1)).findSome? f = f y := by
  rw [take_more e, List.findSome?_append, h]
  simp
theorem fs_at {α β : Type} {f : α → Option β} {l : List α} {i : Nat} {y : α} {z : β} (h : (l.take i).findSome? f = none) (e : l[i]? = some y) (hz : f y = some z) : l.findSome? f = some z := by
  have a := fs_more h e
  rw [hz] at a
  rw [← List.take_append_drop (i + 1) l, List.findSome?_append, a]
  rfl
theorem mFit_sub {n : Nat} {evs : List Piece} {g : List Nat} (h : g ∈ mFit n evs) : g ∈ mAll n := (List.mem_filter.mp (List.mem_filter.mp h).1).1
theorem mFit_len {n : Nat} {evs : List Piece} : ∀ g ∈ mFit n evs, g.length = n := fun g h => (mAll_row n g (mFit_sub h)).1
theorem fct_few {n : Nat} (h : n ≤ 7) : fct n ≤ 10000 := by
  have : ∀ n, n ≤ 7 → fct n ≤ 10000 := by decide
  exact this n h
theorem mFit_few {n : Nat} {evs : List Piece} (h : n ≤ 7) : (mFit n evs).length < 1000000 := by
  have h1 := mAll_len n
  have h2 := fct_few h
  have h3 : (mFit n evs).length ≤ (mAll n).length := Nat.le_trans (List.length_filter_le ..) (List.length_filter_le ..)
  omega
theorem cut_take {α : Type} {l : List α} {n : Nat} : cutA l none (some (n : Int)) = l.take n := by
  unfold cutA
  rw [HT.sIx_none, HT.sIx_nat, List.drop_zero, Nat.sub_zero]
  rcases Nat.le_total n l.length with h | h
  · rw [Nat.min_eq_left h]
  · rw [Nat.min_eq_right h, List.take_length, List.take_of_length_le h]
theorem take_okEvs {n m : Nat} {evs : List Piece} (h : okEvs n evs) : okEvs n (evs.take m) := fun e he => h e (List.mem_of_mem_take he)
section
variable {P : Program} {w : World} {K : PySem.W.Frag} {mg : Str → Option Value} {base : Heap} {CJ CG CR CK CE fI : Addr} {f : Addr} {fd : FuncData}
theorem ok_kKnown (F : Fun K "known" "Keeper.known" sKKnown f fd) (T : Txt K mg CJ CG CR CK) (ML : MF P w K mg base (L2.CX P w) 3 CK "look" ["self", "words", "numbers"] (PureX CE (RLook CK))) (GV : GF P w K mg base CX0 9 "verdict_runs" ["many", "pieces", "two"] (Pure RVerd)) :
    FnOk P w K mg base (L2.CX P w) 10 f fd ["self", "numbers"] (PureX CE (RKX CK 3 mKnown)) := by
  refine pureX_ok F scKKnown (fun Ps r h => by obtain ⟨b, l, rfl, _⟩ := h; rfl) fun cdv A outer st H0 E X hX hr tk hx hp vs Ps r N H h sm p er => ?_
  subst hX
  obtain ⟨s, l, rfl, ok, hl, rfl⟩ := h
  obtain ⟨m, x, y, rfl⟩ : ∃ m x y, l = [m, x, y] := by
    match l, hl with
    | [m, x, y], _ => exact ⟨m, x, y, rfl⟩
  obtain ⟨v, v2, rfl, hv, hv2⟩ := paired2 p
  obtain ⟨t3, g3⟩ := T.cPER
  obtain ⟨t4, g4⟩ := T.cCOU
  refine w_look (s := s) (ws := ["count", "person", "person"]) (l := [m, x, y]) T ML (hr.mono (by decide)) hx (.refl sm) (by walk_at "nm") (ev_tup (ea_cons (ev_glob (v := .str "count") g4 ⟨_, rfl⟩) (ea_cons (ev_glob (v := .str "person") g3 ⟨_, rfl⟩) (ea_cons (ev_glob (v := .str "person") g3 ⟨_, rfl⟩) ea_nil)))) (by walk_at "nm") rfl (by decide +kernel) (fun hk H1 g => ?_) (fun i hk => er i ?_)
  · have hk : mLook s [("count", m), ("person", x), ("person", y)] = none := hk
    have a0 := look_all hk _ (List.mem_cons_self ..)
    have a1 := look_all hk _ (List.mem_cons_of_mem _ (List.mem_cons_self ..))
    have a2 := look_all hk _ (List.mem_cons_of_mem _ (List.mem_cons_of_mem _ (List.mem_cons_self ..)))
    have b0 := (inGreat_nat a0.1).1
    have b1 := (inGreat_nat a1.1).1
    have b2 := (inGreat_nat a2.1).1
    have c1 := there_person a1.2
    have c2 := there_person a2.2
    have e0 : mKnown s [m, x, y] = .ok [mVerdict s.1 (s.2.take m.toNat) (x.toNat, y.toNat)] := by
      show afterLook s _ _ = _
      unfold afterLook
      rw [hk]
    have l30 := ok.2.1
    refine w_endX (P := isI [mVerdict s.1 (s.2.take m.toNat) (x.toNat, y.toNat)]) g (ev_lst (ea_cons (ev_call GV hr (ea_cons (ev_fld T.kC T.kmany (fs := keeperF s) (by walk_at "nm") lkK_many) (ea_cons (P := isL piece (s.2.take m.toNat)) (ev_eq (ev_slL (R := piece) (j := some ((m.toNat : Nat) : Int)) (ev_fld T.kC T.kpieces (fs := keeperF s) (by walk_at "nm") lkK_pieces) eo_none (eo_some (ev_ixL (R := I) (l := [m, x, y]) (x := ((m.toNat : Nat) : Int)) (by walk_at "nm") ev_int (by rw [← b0]; rfl)))) (by rw [cut_take])) (ea_cons (P := isNs [x.toNat, y.toNat]) (ev_eq (ev_slL (R := I) (l := [m, x, y]) (i := some 1) (by walk_at "nm") (eo_some ev_int) eo_none) ?_) ea_nil))) ⟨s.1, _, _, (x.toNat, y.toNat), rfl, .inr rfl, ⟨?_, ?_⟩, Nat.le_trans ok.1 (by decide), ?_, take_okEvs ok.2.2, rfl⟩) ea_nil) (.cons (fun _ _ z => z) .nil)) (out_eq e0)
    · rw [ns_i]
      show isI [x, y] = isI [(x.toNat : Int), (y.toNat : Int)]
      rw [← b1, ← b2]
    · show x.toNat < s.1; omega
    · show y.toNat < s.1; omega
    · rw [List.length_take]; omega
  · have hk : mLook s [("count", m), ("person", x), ("person", y)] = some i := hk
    show outX (afterLook s _ _) = _
    unfold afterLook
    rw [hk]
    rfl
theorem ok_kWays (F : Fun K "ways" "Keeper.ways" sKWays f fd) (T : Txt K mg CJ CG CR CK) (GN : GF P w K mg base (L2.CX P w) 2 "need" ["truth", "answer"] (PureX CE RNeed)) (ML : MF P w K mg base (L2.CX P w) 3 CK "look" ["self", "words", "numbers"] (PureX CE (RLook CK)))
    (GF_ : GF P w K mg base CX0 3 "fitting" ["many", "pieces"] (Pure RFit)) : FnOk P w K mg base (L2.CX P w) 10 f fd ["self", "two"] (PureX CE (RKX CK 2 mWays)) := by
  refine pureX_ok F scKWays (fun Ps r h => by obtain ⟨b, l, rfl, _⟩ := h; rfl) fun cdv A outer st H0 E X hX hr tk hx hp vs Ps r N H h sm p er => ?_
  subst hX
  obtain ⟨s, l, rfl, ok, hl, rfl⟩ := h
  obtain ⟨v, v2, rfl, hv, hv2⟩ := paired2 p
  obtain ⟨t3, g3⟩ := T.cPER
  obtain ⟨t4, g4⟩ := T.cTOO
  obtain ⟨t5, g5⟩ := T.cMCO
  refine w_look2 (s := s) (l := l) T ML (hr.mono (by decide)) hx (.refl sm) (by walk_at "nm") (ev_tup (ea_cons (ev_glob (v := .str "person") g3 ⟨_, rfl⟩) (ea_cons (ev_glob (v := .str "person") g3 ⟨_, rfl⟩) ea_nil))) (by walk_at "nm") hl (fun a b okt el e0 H1 g => ?_) (fun i hk => er i (congrArg outX hk))
  rw [el] at hv2
  refine w_need (b := decide ((s.1 : Int) ≤ 7)) (i := -9) GN (hr.mono (by decide)) hx g (ev_leI (ev_fld T.kC T.kmany (fs := keeperF s) (by walk_at "nm") lkK_many) (ev_glob g5 ⟨_, rfl⟩)) (by walk_at "nm") (fun hne H2 g2 => ?_) (fun hne => er (-9) (congrArg outX (e0.trans (if_neg (of_decide_eq_false hne)))))
  have h7 : (s.1 : Int) ≤ 7 := of_decide_eq_true hne
  rw [if_pos h7] at e0
  have fl : ∀ g ∈ mFit s.1 s.2, g.length = s.1 := mFit_len
  have few : (mFit s.1 s.2).length < 1000000 := mFit_few (by omega)
  refine w_asg (i := 2) g2 (P := isL isNs (mFit s.1 s.2)) (ev_call GF_ (hr.mono (by decide)) (ea_cons (ev_fld T.kC T.kmany (fs := keeperF s) (by walk_at "nm") lkK_many) (ea_cons (ev_fld T.kC T.kpieces (fs := keeperF s) (by walk_at "nm") lkK_pieces) ea_nil)) ⟨s.1, s.2, rfl, by omega, Nat.le_trans ok.2.1 (by decide), ok.2.2, rfl⟩) (fun u N1 H3 g s1 hu => ?_) scKWays.nd
  have hv2 := (isNs [a, b]).mono s1 hv2
  refine w_endX (P := isI [((mFit s.1 s.2).length : Int), (((mFit s.1 s.2).filter (inOne a b)).length : Int)]) g (ev_lst (ea_cons (ev_lenL (R := isNs) T.nlen (by walk_at "nm")) (ea_cons (P := I (((mFit s.1 s.2).filter (inOne a b)).length : Int)) (ev_eq (ev_lenL (R := isNs) T.nlen (ev_lcL (j := 3) (x := "row") (R := isNs) (l := mFit s.1 s.2) (t := inOne a b) (f := id) (by walk_at "nm") few (fun t u N2 s2 ht hu => ⟨ifs_one fun _ _ _ _ _ => ?_, fun _ _ _ _ _ _ => by walk_at "nm"⟩) rfl scKWays.nd (blkOk_by (N := ["self", "two", "rows", "row"]) (sc := defScope sKWays) (by decide +kernel)) (fun _ _ _ _ _ => pg_name scKWays.nd rfl (Or.inl rfl)))) (by rw [List.map_id])) ea_nil)) (.cons (fun _ _ z => z) (.cons (fun _ _ z => z) .nil))) (out_eq e0)
  have hv2 := (isNs [a, b]).mono s2 hv2
  have tl := fl t ht
  exact evt_eqI (ev_ixL (R := fun n : Nat => I (n : Int)) (l := t) (by walk_at "nm") (ev_ixL (R := fun n : Nat => I (n : Int)) (l := [a, b]) (x := a) (by walk_at "nm") ev_int rfl) (at_getD (by rw [tl]; exact okt.1))) (ev_ixL (R := fun n : Nat => I (n : Int)) (l := t) (by walk_at "nm") (ev_ixL (R := fun n : Nat => I (n : Int)) (l := [a, b]) (x := b) (by walk_at "nm") ev_int rfl) (at_getD (by rw [tl]; exact okt.2)))
theorem ok_kLinked (F : Fun K "linked" "Keeper.linked" sKLinked f fd) (T : Txt K mg CJ CG CR CK) (ML : MF P w K mg base (L2.CX P w) 3 CK "look" ["self", "words", "numbers"] (PureX CE (RLook CK))) (MK : MF P w K mg base CX0 8 CK "run" ["self"] (Pure (RKRun CJ CG CR CK))) (MO : MF P w K mg base CX0 1 CG "are_one" ["self", "two"] (Pure (ROne CG))) :
    FnOk P w K mg base (L2.CX P w) 10 f fd ["self", "numbers"] (PureX CE (RKX CK 2 mLinked)) := by
  refine pureX_ok F scKLinked (fun Ps r h => by obtain ⟨b, l, rfl, _⟩ := h; rfl) fun cdv A outer st H0 E X hX hr tk hx hp vs Ps r N H h sm p er => ?_
  subst hX
  obtain ⟨s, l, rfl, ok, hl, rfl⟩ := h
  obtain ⟨x, k, rfl⟩ : ∃ x k, l = [x, k] := by
    match l, hl with
    | [x, k], _ => exact ⟨x, k, rfl⟩
  obtain ⟨v, v2, rfl, hv, hv2⟩ := paired2 p
  obtain ⟨t3, g3⟩ := T.cPER
  obtain ⟨t4, g4⟩ := T.cFIE
  obtain ⟨t5, g5⟩ := T.cLINK
  have gl := mRun_len s.1 s.2
  refine w_look (s := s) (ws := ["person", "field"]) (l := [x, k]) T ML (hr.mono (by decide)) hx (.refl sm) (by walk_at "nm") (ev_tup (ea_cons (ev_glob (v := .str "person") g3 ⟨_, rfl⟩) (ea_cons (ev_glob (v := .str "field") g4 ⟨_, rfl⟩) ea_nil))) (by walk_at "nm") rfl (by decide +kernel) (fun hk H1 g => ?_) (fun i hk => er i ?_)
  · have hk : mLook s [("person", x), ("field", k)] = none := hk
    have a0 := look_all hk _ (List.mem_cons_self ..)
    have a1 := look_all hk _ (List.mem_cons_of_mem _ (List.mem_cons_self ..))
    have b0 := (inGreat_nat a0.1).1
    have b1 := (inGreat_nat a1.1).1
    have c1 := there_person a0.2
    have xl : x.toNat < s.1 := by omega
    have e0 : mLinked s [x, k] = .ok (match s.2.findSome? (linkOf (mRun s.1 s.2).1 x.toNat k.toNat) with
      | none => [0]
      | some w => [1, (((mRun s.1 s.2).1.getD w w : Nat) : Int)]) := by
      show afterLook s _ _ = _
      unfold afterLook
      rw [hk]
    generalize hx' : x.toNat = x' at *
    generalize hk' : k.toNat = k' at *
    subst b0 b1
    refine w_asg (i := 2) g (P := groups CG (mRun s.1 s.2).1) (ev_fld T.rC T.rgroups (fs := runF CJ CG s.2 (mRun s.1 s.2)) (ev_kRun T MK (hr.mono (by decide)) (s := s) (by walk_at "nm") ok) lkR_groups) (fun u N1 H2 g s1 hu => ?_) scKLinked.nd
    refine b_forL (g := gName 3) (R := piece) (l := s.2) (ev_fld T.kC T.kpieces (fs := keeperF s) (ev_name (i := 0) rfl ((keeper CK s).mono s1 hv)) lkK_pieces) g.nh
      (fun N0 i σ1 N3 H3 => ∃ w3, σ1 = [some v, some v2, some u, w3] ∧ Grow N H N3 H3 ∧ Same N1 N3 ∧ (s.2.take i).findSome? (linkOf (mRun s.1 s.2).1 x' k') = none)
      (fun N0 H3 g3 => ⟨none, rfl, g.trans g3, g3.nn, rfl⟩) (fun N0 i j uj σ1 N3 H3 s0 hj s01 s11 ⟨w3, e, g3, s13, hf⟩ hju => ?_) (fun N0 σ1 N3 H3 s0 s01 s11 ⟨w3, e, g3, s13, hf⟩ => ?_) hp rfl (pg_name scKLinked.nd rfl (Or.inl rfl))
    · subst e
      have hju := (piece j).mono s01 hju
      have hu := (groups CG (mRun s.1 s.2).1).mono s13 hu
      have hv2 := (isI [(x' : Int), (k' : Int)]).mono (s1.trans s13) hv2
      have oj := ok.2.2 j (List.mem_of_getElem? hj)
      by_cases kj : kind j = 3
      · obtain ⟨z, h, y, rfl⟩ := kind3 kj
        have ez : linkOf (mRun s.1 s.2).1 x' k' (.link z h y) = if h = k' ∧ Vbkoab.one (mRun s.1 s.2).1 z x' = true then some y else none := rfl
        refine w_when g3 (t := true && (decide (h = k') && Vbkoab.one (mRun s.1 s.2).1 z x')) (evt_w (evw_and (c := true) (EvT.to (by walk_at "et") (decide_eq_true rfl)) fun _ => evw_and (c := decide (h = k')) (EvT.to (evt_eqI (i := (h : Int)) (j := (k' : Int)) (by walk_at "ev") (ev_ixL (R := I) (l := [(x' : Int), (k' : Int)]) (by walk_at "nm") ev_int rfl)) (by by_cases q : h = k' <;> simp [q] <;> omega)) fun _ => evw_and1 (evt_val (ev_meth MO T.gC (hr.mono (by decide)) (fs := groupsF (mRun s.1 s.2).1) (ev_name (i := 2) rfl hu) (lkG_m (by decide +kernel)) (ea_cons (P := two (z, x')) (ev_tup (ea_cons (by walk_at "ev") (ea_cons (ev_ixL (R := I) (l := [(x' : Int), (k' : Int)]) (by walk_at "nm") ev_int rfl) ea_nil))) ea_nil) ⟨_, _, (z, x'), rfl, .inl rfl, by rw [gl]; exact oj.1, by rw [gl]; exact xl, rfl⟩)))) (fun ht H4 g4 => ?_) (fun ht H4 g4 => ?_)
        · have hc : h = k' ∧ Vbkoab.one (mRun s.1 s.2).1 z x' = true := by simpa using ht
          rw [if_pos hc] at ez
          rw [fs_at hf hj ez] at e0
          exact w_endX (P := isI [1, (((mRun s.1 s.2).1.getD y y : Nat) : Int)]) g4 (ev_lst (ea_cons ev_int (ea_cons (ev_ixL (R := fun n : Nat => I (n : Int)) (ev_fld T.gC T.gleast (fs := groupsF (mRun s.1 s.2).1) (ev_name (i := 2) rfl hu) lk1) (by walk_at "ev") (at_getD (by rw [gl]; exact oj.2))) ea_nil)) (.cons (fun _ _ z => z) (.cons (fun _ _ z => z) .nil))) (out_eq e0)
        · have hc : ¬ (h = k' ∧ Vbkoab.one (mRun s.1 s.2).1 z x' = true) := fun q => by rw [decide_eq_true q.1, q.2] at ht; cases ht
          rw [if_neg hc] at ez
          exact b_nil ⟨N3, s01, g4.nh, _, rfl, g4, s13, (fs_more hf hj).trans ez⟩
      · refine w_when g3 (t := false) (evt_w (EvW.to (evw_and (d := false) (EvT.to (by walk_at "et") (decide_eq_false kj)) fun q => by cases q) (by rfl))) (fun ht H4 g4 => ?_) (fun ht H4 g4 => ?_)
        · cases ht
        · refine b_nil ⟨N3, s01, g4.nh, _, rfl, g4, s13, (fs_more hf hj).trans ?_⟩
          cases j <;> first | rfl | exact absurd rfl kj
    · subst e
      rw [List.take_length] at hf
      rw [hf] at e0
      exact w_endX (P := isI [0]) g3 (ev_lst (ea_cons ev_int ea_nil) (.cons (fun _ _ z => z) .nil)) (out_eq e0)
  · have hk : mLook s [("person", x), ("field", k)] = some i := hk
    show outX (afterLook s _ _) = _
    unfold afterLook
    rw [hk]
    rfl
theorem ok_kValue (F : Fun K "value" "Keeper.value" sKValue f fd) (T : Txt K mg CJ CG CR CK) (ML : MF P w K mg base (L2.CX P w) 3 CK "look" ["self", "words", "numbers"] (PureX CE (RLook CK))) (MK : MF P w K mg base CX0 8 CK "run" ["self"] (Pure (RKRun CJ CG CR CK))) (MO : MF P w K mg base CX0 1 CG "are_one" ["self", "two"] (Pure (ROne CG))) :
    FnOk P w K mg base (L2.CX P w) 10 f fd ["self", "numbers"] (PureX CE (RKX CK 2 mValue)) := by
  refine pureX_ok F scKValue (fun Ps r h => by obtain ⟨b, l, rfl, _⟩ := h; rfl) fun cdv A outer st H0 E X hX hr tk hx hp vs Ps r N H h sm p er => ?_
  subst hX
  obtain ⟨s, l, rfl, ok, hl, rfl⟩ := h
  obtain ⟨x, k, rfl⟩ : ∃ x k, l = [x, k] := by
    match l, hl with
    | [x, k], _ => exact ⟨x, k, rfl⟩
  obtain ⟨v, v2, rfl, hv, hv2⟩ := paired2 p
  obtain ⟨t3, g3⟩ := T.cPER
  obtain ⟨t4, g4⟩ := T.cSOR
  obtain ⟨t5, g5⟩ := T.cSINGLE
  have gl := mRun_len s.1 s.2
  refine w_look (s := s) (ws := ["person", "sort"]) (l := [x, k]) T ML (hr.mono (by decide)) hx (.refl sm) (by walk_at "nm") (ev_tup (ea_cons (ev_glob (v := .str "person") g3 ⟨_, rfl⟩) (ea_cons (ev_glob (v := .str "sort") g4 ⟨_, rfl⟩) ea_nil))) (by walk_at "nm") rfl (by decide +kernel) (fun hk H1 g => ?_) (fun i hk => er i ?_)
  · have hk : mLook s [("person", x), ("sort", k)] = none := hk
    have a0 := look_all hk _ (List.mem_cons_self ..)
    have a1 := look_all hk _ (List.mem_cons_of_mem _ (List.mem_cons_self ..))
    have b0 := (inGreat_nat a0.1).1
    have b1 := (inGreat_nat a1.1).1
    have c1 := there_person a0.2
    have xl : x.toNat < s.1 := by omega
    have e0 : mValue s [x, k] = .ok (match s.2.findSome? (valueOf (mRun s.1 s.2).1 x.toNat k.toNat) with
      | none => [0]
      | some w => [1, (w : Int)]) := by
      show afterLook s _ _ = _
      unfold afterLook
      rw [hk]
    generalize hx' : x.toNat = x' at *
    generalize hk' : k.toNat = k' at *
    subst b0 b1
    refine w_asg (i := 2) g (P := groups CG (mRun s.1 s.2).1) (ev_fld T.rC T.rgroups (fs := runF CJ CG s.2 (mRun s.1 s.2)) (ev_kRun T MK (hr.mono (by decide)) (s := s) (by walk_at "nm") ok) lkR_groups) (fun u N1 H2 g s1 hu => ?_) scKValue.nd
    refine b_forL (g := gName 3) (R := piece) (l := s.2) (ev_fld T.kC T.kpieces (fs := keeperF s) (ev_name (i := 0) rfl ((keeper CK s).mono s1 hv)) lkK_pieces) g.nh
      (fun N0 i σ1 N3 H3 => ∃ w3, σ1 = [some v, some v2, some u, w3] ∧ Grow N H N3 H3 ∧ Same N1 N3 ∧ (s.2.take i).findSome? (valueOf (mRun s.1 s.2).1 x' k') = none)
      (fun N0 H3 g3 => ⟨none, rfl, g.trans g3, g3.nn, rfl⟩) (fun N0 i j uj σ1 N3 H3 s0 hj s01 s11 ⟨w3, e, g3, s13, hf⟩ hju => ?_) (fun N0 σ1 N3 H3 s0 s01 s11 ⟨w3, e, g3, s13, hf⟩ => ?_) hp rfl (pg_name scKValue.nd rfl (Or.inl rfl))
    · subst e
      have hju := (piece j).mono s01 hju
      have hu := (groups CG (mRun s.1 s.2).1).mono s13 hu
      have hv2 := (isI [(x' : Int), (k' : Int)]).mono (s1.trans s13) hv2
      have oj := ok.2.2 j (List.mem_of_getElem? hj)
      by_cases kj : kind j = 5
      · obtain ⟨z, h, y, rfl⟩ := kind5 kj
        have ez : valueOf (mRun s.1 s.2).1 x' k' (.single z h y) = if h = k' ∧ Vbkoab.one (mRun s.1 s.2).1 z x' = true then some y else none := rfl
        refine w_when g3 (t := true && (decide (h = k') && Vbkoab.one (mRun s.1 s.2).1 z x')) (evt_w (evw_and (c := true) (EvT.to (by walk_at "et") (decide_eq_true rfl)) fun _ => evw_and (c := decide (h = k')) (EvT.to (evt_eqI (i := (h : Int)) (j := (k' : Int)) (by walk_at "ev") (ev_ixL (R := I) (l := [(x' : Int), (k' : Int)]) (by walk_at "nm") ev_int rfl)) (by by_cases q : h = k' <;> simp [q] <;> omega)) fun _ => evw_and1 (evt_val (ev_meth MO T.gC (hr.mono (by decide)) (fs := groupsF (mRun s.1 s.2).1) (ev_name (i := 2) rfl hu) (lkG_m (by decide +kernel)) (ea_cons (P := two (z, x')) (ev_tup (ea_cons (by walk_at "ev") (ea_cons (ev_ixL (R := I) (l := [(x' : Int), (k' : Int)]) (by walk_at "nm") ev_int rfl) ea_nil))) ea_nil) ⟨_, _, (z, x'), rfl, .inl rfl, by rw [gl]; exact oj, by rw [gl]; exact xl, rfl⟩)))) (fun ht H4 g4 => ?_) (fun ht H4 g4 => ?_)
        · have hc : h = k' ∧ Vbkoab.one (mRun s.1 s.2).1 z x' = true := by simpa using ht
          rw [if_pos hc] at ez
          rw [fs_at hf hj ez] at e0
          exact w_endX (P := isI [1, (y : Int)]) g4 (ev_lst (ea_cons ev_int (ea_cons (by walk_at "ev") ea_nil)) (.cons (fun _ _ z => z) (.cons (fun _ _ z => z) .nil))) (out_eq e0)
        · have hc : ¬ (h = k' ∧ Vbkoab.one (mRun s.1 s.2).1 z x' = true) := fun q => by rw [decide_eq_true q.1, q.2] at ht; cases ht
          rw [if_neg hc] at ez
          exact b_nil ⟨N3, s01, g4.nh, _, rfl, g4, s13, (fs_more hf hj).trans ez⟩
      · refine w_when g3 (t := false) (evt_w (EvW.to (evw_and (d := false) (EvT.to (by walk_at "et") (decide_eq_false kj)) fun q => by cases q) (by rfl))) (fun ht H4 g4 => ?_) (fun ht H4 g4 => ?_)
        · cases ht
        · refine b_nil ⟨N3, s01, g4.nh, _, rfl, g4, s13, (fs_more hf hj).trans ?_⟩
          cases j <;> first | rfl | exact absurd rfl kj
    · subst e
      rw [List.take_length] at hf
      rw [hf] at e0
      exact w_endX (P := isI [0]) g3 (ev_lst (ea_cons ev_int ea_nil) (.cons (fun _ _ z => z) .nil)) (out_eq e0)
  · have hk : mLook s [("person", x), ("sort", k)] = some i := hk
    show outX (afterLook s _ _) = _
    unfold afterLook
    rw [hk]
    rfl
end
end PB
namespace PB
open PySem PySem.Spec PyProof.Rows L2
local macro_rules | `(tactic| walk_at "at") => `(tactic| first | exact at0 _ | exact at1 _ | rfl | assumption)
local macro_rules | `(tactic| walk_at "p") => `(tactic| first | assumption | exact (rfl : (is _).p _ _))
local macro_rules | `(tactic| walk_at "nm") => `(tactic| first
  | exact ev_glob (by assumption) (by first | exact ⟨_, rfl⟩ | rfl)
  | exact ev_nameI (by rfl) rfl (by walk_at "p"))
local macro_rules | `(tactic| walk_at "ev") => `(tactic| first
  | (with_reducible show Ev _ (PySem.Expr.Constant _ _ _) _ _ _); first | exact ev_int | exact ev_non | exact ev_bool | exact ev_str
  | (with_reducible show Ev _ (PySem.Expr.Name _ _) _ _ _); walk_at "nm"
  | (with_reducible show Ev _ (PySem.Expr.Subscript _ _ _) _ _ _); first | exact ev_ixT (by walk_at "ev") (by walk_at "ev") (by walk_at "at") | exact ev_ixL (by walk_at "ev") (by walk_at "ev") (by walk_at "at")
  | (with_reducible show Ev _ (PySem.Expr.Tuple _ _ _) _ _ _); exact ev_tup (by walk_at "ea")
  | (with_reducible show Ev _ (PySem.Expr.UnaryOp PySem.UnaryOp.USub _ _) _ _ _); exact ev_neg (by walk_at "ev")
  | (with_reducible show Ev _ (PySem.Expr.Compare _ [PySem.CmpOp.Eq] _ _) _ _ _); exact ev_eqI (by walk_at "ev") (by walk_at "ev")
  | (with_reducible show Ev _ (PySem.Expr.Compare _ [PySem.CmpOp.NotEq] _ _) _ _ _); exact ev_neI (by walk_at "ev") (by walk_at "ev"))
local macro_rules | `(tactic| walk_at "ea") => `(tactic| first
  | (with_reducible show EvA _ [] _ _ _); exact ea_nil
  | exact ea_cons (by walk_at "ev") (by walk_at "ea"))
local macro_rules | `(tactic| walk_at "et") => `(tactic| first
  | (with_reducible show EvT _ (PySem.Expr.Compare _ [PySem.CmpOp.Eq] _ _) _ _ _); exact evt_eqI (by walk_at "ev") (by walk_at "ev")
  | (with_reducible show EvT _ (PySem.Expr.Compare _ [PySem.CmpOp.NotEq] _ _) _ _ _); exact evt_neI (by walk_at "ev") (by walk_at "ev")
  | (with_reducible show EvT _ (PySem.Expr.Compare _ [PySem.CmpOp.Lt] _ _) _ _ _); exact evt_ltI (by walk_at "ev") (by walk_at "ev")
  | (with_reducible show EvT _ (PySem.Expr.Compare _ [PySem.CmpOp.LtE] _ _) _ _ _); exact evt_leI (by walk_at "ev") (by walk_at "ev")
  | (with_reducible show EvT _ (PySem.Expr.Compare _ [PySem.CmpOp.Gt] _ _) _ _ _); exact evt_gtI (by walk_at "ev") (by walk_at "ev")
  | (with_reducible show EvT _ (PySem.Expr.Compare _ [PySem.CmpOp.GtE] _ _) _ _ _); exact evt_geI (by walk_at "ev") (by walk_at "ev"))
/-! ### keeper.py: what changes the keeper -/
abbrev ResM := Except Int (KS × List Int)
def outM : ResM → Except Int (KS × VP)
  | .ok p => .ok (p.1, isI p.2)
  | .error i => .error i
theorem outM_ok {r : ResM} {p : KS × List Int} (h : r = .ok p) : outM r = .ok (p.1, isI p.2) := by rw [h]; rfl
theorem outM_err {r : ResM} {i : Int} (h : r = .error i) : outM r = .error i := by rw [h]; rfl
theorem outM_inv {r : ResM} {t : KS} {P : VP} (h : outM r = .ok (t, P)) : ∃ l, r = .ok (t, l) ∧ P = isI l := by
  cases r with
  | error i => cases h
  | ok p => cases h; exact ⟨_, rfl, rfl⟩
theorem outM_errinv {r : ResM} {i : Int} (h : outM r = .error i) : r = .error i := by
  cases r with
  | error j => cases h; rfl
  | ok p => cases h
abbrev SpK (CE CK : Addr) (R : KS → List VP → Except Int (KS × VP) → Prop) : Sp := SpM CE CK keeperF R
abbrev sPerson : Stmt := inClass (top 59) 2
theorem scPerson : FnScope ["self"] ["self"] (defScope sPerson) := ⟨rfl, rfl, rfl, by decide +kernel, rfl, by decide +kernel, by decide +kernel⟩
def mPerson (s : KS) : ResM := if (s.1 : Int) < 16 then .ok ((s.1 + 1, s.2), [(s.1 : Int)]) else .error (-7)
def RPerson : KS → List VP → Except Int (KS × VP) → Prop := fun s Ps r => Ps = [] ∧ okS s ∧ r = outM (mPerson s)
abbrev sKPut : Stmt := inClass (top 59) 3
theorem scKPut : FnScope ["self", "piece", "two"] ["self", "piece", "two"] (defScope sKPut) := ⟨rfl, rfl, rfl, by decide +kernel, rfl, by decide +kernel, by decide +kernel⟩
def pairO : Option (Int × Int) → VP
  | none => N_
  | some t => isI [t.1, t.2]
def unlike : Option (Int × Int) → Bool
  | none => true
  | some t => !decide (t.1 = t.2)
def mPut (s : KS) (e : Piece) (o : Option (Int × Int)) : ResM := if unlike o = true then (if (s.2.length : Int) < 30 then .ok ((s.1, s.2 ++ [e]), [(s.2.length : Int)]) else .error (-7)) else .error (-5)
def RKPut : KS → List VP → Except Int (KS × VP) → Prop := fun s Ps r => ∃ e o, Ps = [piece e, pairO o] ∧ okS s ∧ okEv s.1 e ∧ r = outM (mPut s e o)
theorem noins_i {l : List Int} : NoIns (isI l) := noins_l fun _ => noins_is
theorem noins_piece {e : Piece} : NoIns (piece e) := noins_t fun P h => by
  obtain ⟨x, _, rfl⟩ := List.mem_map.mp h
  exact noins_is
theorem flds_k {vs : List (Str × V)} {s : KS} {N : Hp} (h : Flds vs (keeperF s) N) : ∃ p, vs = ([("many", .int (s.1 : Int)), ("pieces", p)] : List (Str × V)) ∧ (isL piece s.2).p p N := by
  unfold keeperF at h
  rcases h with _ | ⟨h1, _ | ⟨h2, _ | _⟩⟩
  rename_i x y
  obtain ⟨x1, x2⟩ := x
  obtain ⟨y1, y2⟩ := y
  obtain ⟨a1, a2⟩ := h1
  obtain ⟨b1, b2⟩ := h2
  have a1 : x1 = "many" := a1
  have b1 : y1 = "pieces" := b1
  have a2 : x2 = .int (s.1 : Int) := a2
  subst a1 b1 a2
  exact ⟨y2, rfl, b2⟩
theorem k_putMany {s : KS} {N : Hp} {j : Int} {m : Nat} (e : j = (m : Int)) : ∀ vs, Flds vs (keeperF s) N → Flds (putF "many" (.int j) vs) (keeperF (m, s.2)) N := by
  intro vs h
  obtain ⟨p, rfl, hp⟩ := flds_k h
  subst e
  rw [put_here]
  exact .cons ⟨rfl, rfl⟩ (.cons ⟨rfl, hp⟩ .nil)
theorem k_putPieces {s : KS} {N : Hp} {es : List Piece} {v : V} (hv : (isL piece es).p v N) : ∀ vs, Flds vs (keeperF s) N → Flds (putF "pieces" v vs) (keeperF (s.1, es)) N := by
  intro vs h
  obtain ⟨p, rfl, hp⟩ := flds_k h
  rw [put_past (by decide +kernel), put_here]
  exact .cons ⟨rfl, rfl⟩ (.cons ⟨rfl, hv⟩ .nil)
section
variable {P : Program} {w : World} {K : PySem.W.Frag} {mg : Str → Option Value} {base : Heap} {CJ CG CR CK CE fI : Addr} {f : Addr} {fd : FuncData}
theorem ok_person (F : Fun K "person" "Keeper.person" sPerson f fd) (T : Txt K mg CJ CG CR CK) (GN : GF P w K mg base (L2.CX P w) 2 "need" ["truth", "answer"] (PureX CE RNeed)) : FnOk P w K mg base (L2.CX P w) 3 f fd ["self"] (SpK CE CK RPerson) := by
  refine spM_ok F scPerson (fun s Ps r h => by obtain ⟨rfl, _⟩ := h; rfl) fun cdv A outer st H0 E X hX hr tk hx hp c args s Ps r N H h nc sm ka p er => ?_
  subst hX
  obtain ⟨rfl, ok, rfl⟩ := h
  cases p
  obtain ⟨t1, g1⟩ := T.cMPE
  obtain ⟨t2, g2⟩ := T.cFUL
  obtain ⟨ob, s1, hk, hob, s2⟩ := ka.known nc sm
  refine w_need (b := decide ((s.1 : Int) < 16)) (i := -7) GN hr hx (.refl s1) (ev_ltI (ev_fld T.kC T.kmany (fs := keeperF s) (ev_name (i := 0) rfl hk) lkK_many) (by walk_at "nm")) (by walk_at "nm") (fun h H1 g => ?_) (fun h => er (-7) (outM_err (if_neg (of_decide_eq_false h))))
  have h : (s.1 : Int) < 16 := of_decide_eq_true h
  have sm1 : Same N H1 := sm.trans g.hh
  have ka1 := ka.more (Same.refl N) (g.hh c)
  refine b_inc (i := (s.1 : Int)) (j := 1) nc sm1 ka1 T.kC T.kmany (by show 2 < 1000; decide) lkK_many ev_int (ev_name (i := 0) rfl rfl) (fs' := keeperF (s.1 + 1, s.2)) (fun vs N' h => k_putMany (by omega) vs h) (fun N2 H2 bt n2 k2 => ?_)
  refine endM_ret (F := keeperF) (t := (s.1 + 1, s.2)) (P := isI [(s.1 : Int)]) ((But.of (.keep sm g.hh)).trans bt) n2 k2 (fun ob hk s3 => ?_) noins_i (outM_ok (p := ((s.1 + 1, s.2), [(s.1 : Int)])) (if_pos h))
  exact ev_lst (ea_cons (ev_eq (ev_sub (ev_fld T.kC T.kmany (fs := keeperF (_, _)) (ev_name (i := 0) rfl hk) lkK_many) ev_int) (by show I (((_ + 1 : Nat) : Int) - 1) = I _; rw [show ((s.1 + 1 : Nat) : Int) - 1 = (s.1 : Int) by omega])) ea_nil) (.cons (fun _ _ z => z) .nil)
theorem pairO_non {o : Option (Int × Int)} : ∀ v N, (pairO o).p v N → decide (v = .non) = o.isNone := by
  intro v N h
  cases o with
  | none => have h : v = .non := h; subst h; rfl
  | some t => exact isL_non v N h
theorem ok_kPut (F : Fun K "put" "Keeper.put" sKPut f fd) (T : Txt K mg CJ CG CR CK) (GN : GF P w K mg base (L2.CX P w) 2 "need" ["truth", "answer"] (PureX CE RNeed)) : FnOk P w K mg base (L2.CX P w) 3 f fd ["self", "piece", "two"] (SpK CE CK RKPut) := by
  refine spM_ok F scKPut (fun s Ps r h => by obtain ⟨e, o, rfl, _⟩ := h; rfl) fun cdv A outer st H0 E X hX hr tk hx hp c args s Ps r N H h nc sm ka p er => ?_
  subst hX
  obtain ⟨e, o, rfl, ok, oe, rfl⟩ := h
  obtain ⟨v2, v3, rfl, hv2, hv3⟩ := paired2 p
  obtain ⟨t1, g1⟩ := T.cALI
  obtain ⟨t2, g2⟩ := T.cFUL
  obtain ⟨t3, g3⟩ := T.cMPI
  have l30 := ok.2.1
  obtain ⟨ob, s1, hk, hob, s2⟩ := ka.known nc sm
  have hv3' := (pairO o).mono s2 hv3
  refine w_need (b := unlike o) (i := -5) GN hr hx (.refl s1) ?_ (by walk_at "nm") (fun h H1 g => ?_) (fun h => er (-5) (outM_err (if_neg (by rw [h]; decide))))
  · cases o with
    | none => exact ev_or (c := true) (d := false) (ev_isN (P := pairO none) (ev_name (i := 2) rfl hv3') pairO_non) (fun h => by cases h)
    | some t => exact ev_or (c := false) (d := !decide (t.1 = t.2)) (ev_isN (P := pairO (some t)) (ev_name (i := 2) rfl hv3') pairO_non) (fun _ => ev_one (ev_neI (ev_ixL (R := I) (l := [t.1, t.2]) (ev_name (i := 2) rfl hv3') ev_int rfl) (ev_ixL (R := I) (l := [t.1, t.2]) (ev_name (i := 2) rfl hv3') ev_int rfl)))
  · have e1 : mPut s e o = if (s.2.length : Int) < 30 then .ok ((s.1, s.2 ++ [e]), [(s.2.length : Int)]) else .error (-7) := if_pos h
    refine w_need (b := decide ((s.2.length : Int) < 30)) (i := -7) GN hr hx g (ev_ltI (ev_lenL (R := piece) T.nlen (ev_fld T.kC T.kpieces (fs := keeperF s) (ev_name (i := 0) rfl hk) lkK_pieces)) (by walk_at "nm")) (by walk_at "nm") (fun h2 H2 g2 => ?_) (fun h2 => er (-7) (outM_err (e1.trans (if_neg (of_decide_eq_false h2)))))
    have h2 : (s.2.length : Int) < 30 := of_decide_eq_true h2
    have sm1 : Same N H2 := sm.trans g2.hh
    have ka1 := ka.more (Same.refl N) (g2.hh c)
    refine b_store (fs := keeperF s) (fs' := keeperF (s.1, s.2 ++ [e])) (P := isL piece (s.2 ++ [e])) nc sm1 ka1 T.kC T.kpieces (by show 2 < 1000; decide) (fun ob hk s3 => ?_) (noins_l fun _ => noins_piece) (ev_name (i := 0) rfl rfl) (fun vs v N' h hv => k_putPieces hv vs h) (fun N2 H3 bt n2 k2 => ?_)
    · exact ev_catL (R := piece) (ev_fld T.kC T.kpieces (fs := keeperF s) (ev_name (i := 0) rfl hk) lkK_pieces) (ev_lst (l := [e]) (ea_cons (P := piece e) (ev_name (i := 1) rfl ((piece e).mono s3 hv2)) ea_nil) (.cons (fun _ _ z => z) .nil)) (by show _ + 1 ≤ _; omega)
    · refine endM_ret (F := keeperF) (t := (s.1, s.2 ++ [e])) (P := isI [(s.2.length : Int)]) ((But.of (.keep sm g2.hh)).trans bt) n2 k2 (fun ob hk s3 => ?_) noins_i (outM_ok (p := ((s.1, s.2 ++ [e]), [(s.2.length : Int)])) (e1.trans (if_pos h2)))
      exact ev_lst (ea_cons (ev_eq (ev_sub (ev_lenL (R := piece) T.nlen (ev_fld T.kC T.kpieces (fs := keeperF (s.1, s.2 ++ [e])) (ev_name (i := 0) rfl hk) lkK_pieces)) ev_int) (by rw [List.length_append]; show I (((s.2.length + 1 : Nat) : Int) - 1) = I _; rw [show ((s.2.length + 1 : Nat) : Int) - 1 = (s.2.length : Int) by omega])) ea_nil) (.cons (fun _ _ z => z) .nil)
end
end PB
namespace PB
open PySem PySem.Spec PyProof.Rows L2
local macro_rules | `(tactic| walk_at "at") => `(tactic| first | exact at0 _ | exact at1 _ | rfl | assumption)
local macro_rules | `(tactic| walk_at "p") => `(tactic| first | assumption | exact (rfl : (is _).p _ _))
local macro_rules | `(tactic| walk_at "nm") => `(tactic| first
  | exact ev_glob (by assumption) (by first | exact ⟨_, rfl⟩ | rfl)
  | exact ev_nameI (by rfl) rfl (by walk_at "p"))
local macro_rules | `(tactic| walk_at "ev") => `(tactic| first
  | (with_reducible show Ev _ (PySem.Expr.Constant _ _ _) _ _ _); first | exact ev_int | exact ev_non | exact ev_bool | exact ev_str
  | (with_reducible show Ev _ (PySem.Expr.Name _ _) _ _ _); walk_at "nm"
  | (with_reducible show Ev _ (PySem.Expr.Subscript _ _ _) _ _ _); first | exact ev_ixT (by walk_at "ev") (by walk_at "ev") (by walk_at "at") | exact ev_ixL (by walk_at "ev") (by walk_at "ev") (by walk_at "at")
  | (with_reducible show Ev _ (PySem.Expr.Tuple _ _ _) _ _ _); exact ev_tup (by walk_at "ea")
  | (with_reducible show Ev _ (PySem.Expr.UnaryOp PySem.UnaryOp.USub _ _) _ _ _); exact ev_neg (by walk_at "ev")
  | (with_reducible show Ev _ (PySem.Expr.Compare _ [PySem.CmpOp.Eq] _ _) _ _ _); exact ev_eqI (by walk_at "ev") (by walk_at "ev")
  | (with_reducible show Ev _ (PySem.Expr.Compare _ [PySem.CmpOp.NotEq] _ _) _ _ _); exact ev_neI (by walk_at "ev") (by walk_at "ev"))
local macro_rules | `(tactic| walk_at "ea") => `(tactic| first
  | (with_reducible show EvA _ [] _ _ _); exact ea_nil
  | exact ea_cons (by walk_at "ev") (by walk_at "ea"))
local macro_rules | `(tactic| walk_at "et") => `(tactic| first
  | (with_reducible show EvT _ (PySem.Expr.Compare _ [PySem.CmpOp.Eq] _ _) _ _ _); exact evt_eqI (by walk_at "ev") (by walk_at "ev")
  | (with_reducible show EvT _ (PySem.Expr.Compare _ [PySem.CmpOp.NotEq] _ _) _ _ _); exact evt_neI (by walk_at "ev") (by walk_at "ev")
  | (with_reducible show EvT _ (PySem.Expr.Compare _ [PySem.CmpOp.Lt] _ _) _ _ _); exact evt_ltI (by walk_at "ev") (by walk_at "ev")
  | (with_reducible show EvT _ (PySem.Expr.Compare _ [PySem.CmpOp.LtE] _ _) _ _ _); exact evt_leI (by walk_at "ev") (by walk_at "ev")
  | (with_reducible show EvT _ (PySem.Expr.Compare _ [PySem.CmpOp.Gt] _ _) _ _ _); exact evt_gtI (by walk_at "ev") (by walk_at "ev")
  | (with_reducible show EvT _ (PySem.Expr.Compare _ [PySem.CmpOp.GtE] _ _) _ _ _); exact evt_geI (by walk_at "ev") (by walk_at "ev"))
/-! ### keeper.py: evidence is put in, and out -/
def afterM (s : KS) (ps : List (Str × Int)) (r : ResM) : ResM := match mLook s ps with
  | some i => .error i
  | none => r
/-- a call's number and its numbers: what has to be there, the piece, those who mustn't be one -/
inductive IsEv : Int → List Int → List (Str × Int) → Piece → Option (Int × Int) → Prop
  | same (x y : Int) : IsEv 1 [x, y] [("person", x), ("person", y)] (.same x.toNat y.toNat) (some (x, y))
  | differ (x y : Int) : IsEv 2 [x, y] [("person", x), ("person", y)] (.differ x.toNat y.toNat) (some (x, y))
  | link (x f y : Int) : IsEv 3 [x, f, y] [("person", x), ("field", f), ("person", y)] (.link x.toNat f.toNat y.toNat) none
  | key (x k v : Int) : IsEv 4 [x, k, v] [("person", x), ("sort", k), ("worth", v)] (.key x.toNat k.toNat v.toNat) none
  | single (x k v : Int) : IsEv 5 [x, k, v] [("person", x), ("sort", k), ("worth", v)] (.single x.toNat k.toNat v.toNat) none
  | if_ (x y u v : Int) : IsEv 6 [x, y, u, v] [("person", x), ("person", y), ("person", u), ("person", v)] (.if_ x.toNat y.toNat u.toNat v.toNat) (some (u, v))
  | both (x y p q u v : Int) : IsEv 7 [x, y, p, q, u, v] [("person", x), ("person", y), ("person", p), ("person", q), ("person", u), ("person", v)] (.both x.toNat y.toNat p.toNat q.toNat u.toNat v.toNat) (some (u, v))
def RPutW (ks : List Int) : KS → List VP → Except Int (KS × VP) → Prop := fun s Ps r => ∃ w l ps e o, w ∈ ks ∧ Ps = [I w, isI l] ∧ IsEv w l ps e o ∧ okS s ∧ r = outM (afterM s ps (mPut s e o))
def RPutL : KS → List VP → Except Int (KS × VP) → Prop := fun s Ps r => ∃ l ps e o, Ps = [isI l] ∧ IsEv 3 l ps e o ∧ okS s ∧ r = outM (afterM s ps (mPut s e o))
theorem look_p {s : KS} {ps : List (Str × Int)} (h : mLook s ps = none) {x : Int} (m : (("person" : Str), x) ∈ ps) : x = (x.toNat : Int) ∧ x.toNat < s.1 := by
  have a := look_all h _ m
  have b := (inGreat_nat a.1).1
  have c := there_person a.2
  exact ⟨b, by omega⟩
theorem look_n {s : KS} {ps : List (Str × Int)} (h : mLook s ps = none) {w : Str} {x : Int} (m : (w, x) ∈ ps) : x = (x.toNat : Int) := (inGreat_nat (look_all h _ m).1).1
theorem IsEv.ok {w : Int} {l : List Int} {ps : List (Str × Int)} {e : Piece} {o : Option (Int × Int)} {s : KS} (h : IsEv w l ps e o) (hk : mLook s ps = none) : okEv s.1 e ∧ Vbkoab.evNums e = w :: l := by
  cases h with
  | same x y =>
    have a := look_p hk (x := x) (by simp)
    have b := look_p hk (x := y) (by simp)
    exact ⟨⟨a.2, b.2⟩, by show [1, (x.toNat : Int), (y.toNat : Int)] = _; rw [← a.1, ← b.1]⟩
  | differ x y =>
    have a := look_p hk (x := x) (by simp)
    have b := look_p hk (x := y) (by simp)
    exact ⟨⟨a.2, b.2⟩, by show [2, (x.toNat : Int), (y.toNat : Int)] = _; rw [← a.1, ← b.1]⟩
  | link x f y =>
    have a := look_p hk (x := x) (by simp)
    have b := look_p hk (x := y) (by simp)
    have c := look_n hk (w := "field") (x := f) (by simp)
    exact ⟨⟨a.2, b.2⟩, by show [3, (x.toNat : Int), (f.toNat : Int), (y.toNat : Int)] = _; rw [← a.1, ← b.1, ← c]⟩
  | key x k v =>
    have a := look_p hk (x := x) (by simp)
    have b := look_n hk (w := "sort") (x := k) (by simp)
    have c := look_n hk (w := "worth") (x := v) (by simp)
    exact ⟨a.2, by show [4, (x.toNat : Int), (k.toNat : Int), (v.toNat : Int)] = _; rw [← a.1, ← b, ← c]⟩
  | single x k v =>
    have a := look_p hk (x := x) (by simp)
    have b := look_n hk (w := "sort") (x := k) (by simp)
    have c := look_n hk (w := "worth") (x := v) (by simp)
    exact ⟨a.2, by show [5, (x.toNat : Int), (k.toNat : Int), (v.toNat : Int)] = _; rw [← a.1, ← b, ← c]⟩
  | if_ x y u v =>
    have a := look_p hk (x := x) (by simp)
    have b := look_p hk (x := y) (by simp)
    have c := look_p hk (x := u) (by simp)
    have d := look_p hk (x := v) (by simp)
    exact ⟨⟨a.2, b.2, c.2, d.2⟩, by show [6, (x.toNat : Int), (y.toNat : Int), (u.toNat : Int), (v.toNat : Int)] = _; rw [← a.1, ← b.1, ← c.1, ← d.1]⟩
  | both x y p q u v =>
    have a := look_p hk (x := x) (by simp)
    have b := look_p hk (x := y) (by simp)
    have a2 := look_p hk (x := p) (by simp)
    have b2 := look_p hk (x := q) (by simp)
    have c := look_p hk (x := u) (by simp)
    have d := look_p hk (x := v) (by simp)
    exact ⟨⟨a.2, b.2, a2.2, b2.2, c.2, d.2⟩, by show [7, (x.toNat : Int), (y.toNat : Int), (p.toNat : Int), (q.toNat : Int), (u.toNat : Int), (v.toNat : Int)] = _; rw [← a.1, ← b.1, ← a2.1, ← b2.1, ← c.1, ← d.1]⟩
theorem afterM_none {s : KS} {ps : List (Str × Int)} {r : ResM} (h : mLook s ps = none) : afterM s ps r = r := by unfold afterM; rw [h]
theorem afterM_some {s : KS} {ps : List (Str × Int)} {r : ResM} {i : Int} (h : mLook s ps = some i) : afterM s ps r = .error i := by unfold afterM; rw [h]
section
variable {X : Cx} {a b o : Expr} {apos pos p : Pos} {σ : L2.St} {N N0 H0 H : Hp} {CE CJ CG CR CK c : Addr} {rest : List Stmt} {E : XK} {s : KS} {e : Piece} {oo : Option (Int × Int)} {r : Except Int (KS × VP)} {nx : L2.St → Hp → Prop} {bk ct : L2.St → Hp → Prop}
/-- the end of a def by a call that may change the keeper -/
theorem end_of {e : Expr} {r' : Except Int (KS × VP)} (h : bE X e σ H fun v H' => EndM CK keeperF r c N H v H') (sm : Same N H0) (s0 : Same H0 H) : bB X (.Return (some e) pos :: rest) { nx := nx, rt := fun v H' => EndM CK keeperF r c N H0 v H', bk := bk, ct := ct } σ H :=
  b_retE (by
    refine bE_in.mpr fun pins s I => ?_
    refine thn (bE_in.mp h pins s I) fun u s1 ⟨v, H', I', rv, b, P, e, N', bt, k, p⟩ => ⟨v, H', I', rv, b, P, e, N', (But.of (.keep sm s0)).trans bt, k, p⟩)
/-- return self.put(piece, two) -/
theorem w_put {pl : Sem Bool} (T : Txt X.K X.mg CJ CG CR CK) (MP : MF X.prog X.w X.K X.mg X.base (L2.CX X.prog X.w) 3 CK "put" ["self", "piece", "two"] (SpK CE CK RKPut)) (hr : Room 3 X.A) (hx : Passes (L2.CX X.prog X.w) X E) (nc : N c = none) (sm : Same N H0) (s0 : Same H0 H) (ka : Kat CK c (keeperF s) N H) (ho : Ev X o σ N (is (.ref c))) (ha : Ev X a σ N (piece e)) (hb : Ev X b σ N (pairO oo)) (ok : okS s) (oe : okEv s.1 e) (e1 : r = outM (mPut s e oo)) (er : ∀ i, r = .error i → Fail CE i H0 E)
    (hst : starEach [a, b] X.env = (false, eval a X.env) :: starEach [b] X.env := by rfl) (hst2 : starEach [b] X.env = (false, eval b X.env) :: starEach [] X.env := by rfl) (hpl : (backTo p (starEach [b] X.env)).any (·.1) = false := by rfl)
    (ht : eval (.Call (.Attribute o "put" apos) [a, b] [] p) X.env = (do
      let ov ← eval o X.env
      standAt apos.atName
      let (f, first) ← holding [ov] (getMethod ov "put" pl)
      callWith p f first (backTo p (starEach [a, b] X.env)) (backToKw p (keywordEach [] X.env))) := by rfl) :
    bB X (.Return (some (.Call (.Attribute o "put" apos) [a, b] [] p)) pos :: rest) { nx := nx, rt := fun v H' => EndM CK keeperF r c N H0 v H', bk := bk, ct := ct } σ H := by
  subst e1
  exact end_of (r' := .error 0) (bE_methM (F := keeperF) (s0 := s) MP T.kC hr hx ho nc (sm.trans s0) ka (lkK_m (by decide +kernel) (by decide +kernel)) (ea_cons ha (ea_cons hb ea_nil hst2) hst) ⟨e, oo, rfl, ok, oe, rfl⟩ (fun b P h v N' H' bt k p => ⟨b, P, h, N', bt, k, p⟩) (fun i h => (er i h).more s0) hst hpl ht) sm s0
theorem paired_rep {α β : Type} {F : α → β → Prop} {x : α} {y : β} (h : F x y) : ∀ k : Nat, Paired F (List.replicate k x) (List.replicate k y)
  | 0 => .nil
  | k + 1 => .cons h (paired_rep h k)
/-- (P,) * k -/
theorem ev_tupMul {P : VP} {k : Nat} (ha : Ev X a σ N (isT [P])) (hb : Ev X b σ N (I (k : Int))) (h : 2 ≤ k ∧ k ≤ 1000) : Ev X (.BinOp a .Mult b pos) σ N (isT (List.replicate k P)) :=
  ev_op op_repT ha hb fun x y N' H' s' p1 p2 Q q => by
    obtain ⟨ad, xs, rfl, hp, pr⟩ := p1
    obtain ⟨u, rfl, pu⟩ := paired1 pr
    refine ⟨ad, (k : Int), [u], rfl, p2, SqT.of (s' _ _ hp), by simp, by omega, by omega, by show 1 ≤ 1000; decide, fun z hz => q _ _ _ (.new s' hz) ⟨z, _, rfl, upd_same, ?_⟩⟩
    have e : (List.replicate ((k : Int).toNat) [u]).flatten = List.replicate k u := by
      rw [Int.toNat_natCast]
      simp
    rw [e]
    have pu' := P.mono (same_new (o := .tup (List.replicate ((k : Int).toNat) [u]).flatten) (s'.free hz)) pu
    rw [e] at pu'
    exact paired_rep (F := fun v (y : VP) => y.p v (upd N' z (HO.tup (List.replicate k u)))) pu' k
end
abbrev sPutTwo : Stmt := inClass (top 59) 4
theorem scPutTwo : FnScope ["self", "word", "numbers"] ["self", "word", "numbers"] (defScope sPutTwo) := ⟨rfl, rfl, rfl, by decide +kernel, rfl, by decide +kernel, by decide +kernel⟩
abbrev sPutLink : Stmt := inClass (top 59) 5
theorem scPutLink : FnScope ["self", "numbers"] ["self", "numbers"] (defScope sPutLink) := ⟨rfl, rfl, rfl, by decide +kernel, rfl, by decide +kernel, by decide +kernel⟩
abbrev sPutWorth : Stmt := inClass (top 59) 6
theorem scPutWorth : FnScope ["self", "word", "numbers"] ["self", "word", "numbers"] (defScope sPutWorth) := ⟨rfl, rfl, rfl, by decide +kernel, rfl, by decide +kernel, by decide +kernel⟩
abbrev sPutIf : Stmt := inClass (top 59) 7
theorem scPutIf : FnScope ["self", "word", "numbers"] ["self", "word", "numbers"] (defScope sPutIf) := ⟨rfl, rfl, rfl, by decide +kernel, rfl, by decide +kernel, by decide +kernel⟩
section
variable {P : Program} {w : World} {K : PySem.W.Frag} {mg : Str → Option Value} {base : Heap} {CJ CG CR CK CE fI : Addr} {f : Addr} {fd : FuncData}
theorem ok_putTwo (F : Fun K "put_two" "Keeper.put_two" sPutTwo f fd) (T : Txt K mg CJ CG CR CK) (ML : MF P w K mg base (L2.CX P w) 3 CK "look" ["self", "words", "numbers"] (PureX CE (RLook CK))) (MP : MF P w K mg base (L2.CX P w) 3 CK "put" ["self", "piece", "two"] (SpK CE CK RKPut)) :
    FnOk P w K mg base (L2.CX P w) 4 f fd ["self", "word", "numbers"] (SpK CE CK (RPutW [1, 2])) := by
  refine spM_ok F scPutTwo (fun s Ps r h => by obtain ⟨_, _, _, _, _, _, rfl, _⟩ := h; rfl) fun cdv A outer st H0 E X hX hr tk hx hp c args s Ps r N H h nc sm ka p er => ?_
  subst hX
  obtain ⟨w, l, ps, e, o, hw, rfl, he, ok, rfl⟩ := h
  obtain ⟨v2, v3, rfl, hv2, hv3⟩ := paired2 p
  obtain ⟨t3, g3⟩ := T.cPER
  obtain ⟨ob, s1, hk, hob, s2⟩ := ka.known nc sm
  obtain ⟨x, y, rfl, rfl, rfl⟩ : ∃ x y, l = [x, y] ∧ ps = ([("person", x), ("person", y)] : List (Str × Int)) ∧ o = some (x, y) := by
    cases he <;> first | exact ⟨_, _, rfl, rfl, rfl⟩ | (simp at hw; done)
  refine w_look (s := s) (ws := ["person", "person"]) (l := [x, y]) T ML hr hx (.refl s1) (ev_name (i := 0) rfl hk) (ev_tup (ea_cons (ev_glob (v := .str "person") g3 ⟨_, rfl⟩) (ea_cons (ev_glob (v := .str "person") g3 ⟨_, rfl⟩) ea_nil))) (ev_name (i := 2) rfl ((isI [x, y]).mono s2 hv3)) rfl w6_two (fun hl H1 g => ?_) (fun i hl => er i (outM_err (afterM_some hl)))
  have hl : mLook s [("person", x), ("person", y)] = none := hl
  obtain ⟨oe, en⟩ := he.ok hl
  refine w_put T MP hr hx nc sm g.hh (ka.more (Same.refl N) (g.hh c)) (ev_name (i := 0) rfl rfl) (ev_eq (ev_catT (ev_tup (ea_cons (P := I w) (ev_name (i := 1) rfl hv2) ea_nil)) (ev_tupleL (l := [x, y]) T.ntuple (ev_name (i := 2) rfl hv3)) (by simp) (by simp) (by show 1 + 2 ≤ _; decide)) ?_) (oo := some (x, y)) (ev_name (i := 2) rfl hv3) ok oe (by rw [afterM_none hl]) er
  show isT ((w :: [x, y]).map I) = isT ((Vbkoab.evNums e).map I)
  rw [en]
theorem w6_lnk : ∀ w ∈ (["person", "field", "person"] : List Str), w ∈ words6 := by decide +kernel
theorem w6_wor : ∀ w ∈ (["person", "sort", "worth"] : List Str), w ∈ words6 := by decide +kernel
theorem ok_putLink (F : Fun K "put_link" "Keeper.put_link" sPutLink f fd) (T : Txt K mg CJ CG CR CK) (ML : MF P w K mg base (L2.CX P w) 3 CK "look" ["self", "words", "numbers"] (PureX CE (RLook CK))) (MP : MF P w K mg base (L2.CX P w) 3 CK "put" ["self", "piece", "two"] (SpK CE CK RKPut)) :
    FnOk P w K mg base (L2.CX P w) 4 f fd ["self", "numbers"] (SpK CE CK RPutL) := by
  refine spM_ok F scPutLink (fun s Ps r h => by obtain ⟨_, _, _, _, rfl, _⟩ := h; rfl) fun cdv A outer st H0 E X hX hr tk hx hp c args s Ps r N H h nc sm ka p er => ?_
  subst hX
  obtain ⟨l, ps, e, o, rfl, he, ok, rfl⟩ := h
  obtain ⟨v3, rfl, hv3⟩ := paired1 p
  obtain ⟨t3, g3⟩ := T.cPER
  obtain ⟨t4, g4⟩ := T.cFIE
  obtain ⟨t5, g5⟩ := T.cLINK
  obtain ⟨ob, s1, hk, hob, s2⟩ := ka.known nc sm
  obtain ⟨x, k, y, rfl, rfl, rfl⟩ : ∃ x k y, l = [x, k, y] ∧ ps = ([("person", x), ("field", k), ("person", y)] : List (Str × Int)) ∧ o = none := by
    cases he; exact ⟨_, _, _, rfl, rfl, rfl⟩
  refine w_look (s := s) (ws := ["person", "field", "person"]) (l := [x, k, y]) T ML hr hx (.refl s1) (ev_name (i := 0) rfl hk) (ev_tup (ea_cons (ev_glob (v := .str "person") g3 ⟨_, rfl⟩) (ea_cons (ev_glob (v := .str "field") g4 ⟨_, rfl⟩) (ea_cons (ev_glob (v := .str "person") g3 ⟨_, rfl⟩) ea_nil)))) (ev_name (i := 1) rfl ((isI [x, k, y]).mono s2 hv3)) rfl w6_lnk (fun hl H1 g => ?_) (fun i hl => er i (outM_err (afterM_some hl)))
  have hl : mLook s [("person", x), ("field", k), ("person", y)] = none := hl
  obtain ⟨oe, en⟩ := he.ok hl
  refine w_put T MP hr hx nc sm g.hh (ka.more (Same.refl N) (g.hh c)) (ev_name (i := 0) rfl rfl) (ev_eq (ev_catT (ev_tup (ea_cons (P := I 3) (ev_glob g5 ⟨_, rfl⟩) ea_nil)) (ev_tupleL (l := [x, k, y]) T.ntuple (ev_name (i := 1) rfl hv3)) (by simp) (by simp) (by show 1 + 3 ≤ _; decide)) ?_) (oo := none) ev_non ok oe (by rw [afterM_none hl]) er
  show isT ((3 :: [x, k, y]).map I) = isT ((Vbkoab.evNums e).map I)
  rw [en]
theorem ok_putWorth (F : Fun K "put_worth" "Keeper.put_worth" sPutWorth f fd) (T : Txt K mg CJ CG CR CK) (ML : MF P w K mg base (L2.CX P w) 3 CK "look" ["self", "words", "numbers"] (PureX CE (RLook CK))) (MP : MF P w K mg base (L2.CX P w) 3 CK "put" ["self", "piece", "two"] (SpK CE CK RKPut)) :
    FnOk P w K mg base (L2.CX P w) 4 f fd ["self", "word", "numbers"] (SpK CE CK (RPutW [4, 5])) := by
  refine spM_ok F scPutWorth (fun s Ps r h => by obtain ⟨_, _, _, _, _, _, rfl, _⟩ := h; rfl) fun cdv A outer st H0 E X hX hr tk hx hp c args s Ps r N H h nc sm ka p er => ?_
  subst hX
  obtain ⟨w, l, ps, e, o, hw, rfl, he, ok, rfl⟩ := h
  obtain ⟨v2, v3, rfl, hv2, hv3⟩ := paired2 p
  obtain ⟨t3, g3⟩ := T.cPER
  obtain ⟨t4, g4⟩ := T.cSOR
  obtain ⟨t5, g5⟩ := T.cWOR
  obtain ⟨ob, s1, hk, hob, s2⟩ := ka.known nc sm
  obtain ⟨x, k, y, rfl, rfl, rfl⟩ : ∃ x k y, l = [x, k, y] ∧ ps = ([("person", x), ("sort", k), ("worth", y)] : List (Str × Int)) ∧ o = none := by
    cases he <;> first | exact ⟨_, _, _, rfl, rfl, rfl⟩ | (simp at hw; done)
  refine w_look (s := s) (ws := ["person", "sort", "worth"]) (l := [x, k, y]) T ML hr hx (.refl s1) (ev_name (i := 0) rfl hk) (ev_tup (ea_cons (ev_glob (v := .str "person") g3 ⟨_, rfl⟩) (ea_cons (ev_glob (v := .str "sort") g4 ⟨_, rfl⟩) (ea_cons (ev_glob (v := .str "worth") g5 ⟨_, rfl⟩) ea_nil)))) (ev_name (i := 2) rfl ((isI [x, k, y]).mono s2 hv3)) rfl w6_wor (fun hl H1 g => ?_) (fun i hl => er i (outM_err (afterM_some hl)))
  have hl : mLook s [("person", x), ("sort", k), ("worth", y)] = none := hl
  obtain ⟨oe, en⟩ := he.ok hl
  refine w_put T MP hr hx nc sm g.hh (ka.more (Same.refl N) (g.hh c)) (ev_name (i := 0) rfl rfl) (ev_eq (ev_catT (ev_tup (ea_cons (P := I w) (ev_name (i := 1) rfl hv2) ea_nil)) (ev_tupleL (l := [x, k, y]) T.ntuple (ev_name (i := 2) rfl hv3)) (by simp) (by simp) (by show 1 + 3 ≤ _; decide)) ?_) (oo := none) ev_non ok oe (by rw [afterM_none hl]) er
  show isT ((w :: [x, k, y]).map I) = isT ((Vbkoab.evNums e).map I)
  rw [en]
theorem w6_rep {n : Nat} : ∀ w ∈ List.replicate n ("person" : Str), w ∈ words6 := fun w h => by
  rw [(List.mem_replicate.mp h).2]
  exact List.mem_cons_self
theorem ok_putIf (F : Fun K "put_if" "Keeper.put_if" sPutIf f fd) (T : Txt K mg CJ CG CR CK) (ML : MF P w K mg base (L2.CX P w) 3 CK "look" ["self", "words", "numbers"] (PureX CE (RLook CK))) (MP : MF P w K mg base (L2.CX P w) 3 CK "put" ["self", "piece", "two"] (SpK CE CK RKPut)) :
    FnOk P w K mg base (L2.CX P w) 4 f fd ["self", "word", "numbers"] (SpK CE CK (RPutW [6, 7])) := by
  refine spM_ok F scPutIf (fun s Ps r h => by obtain ⟨_, _, _, _, _, _, rfl, _⟩ := h; rfl) fun cdv A outer st H0 E X hX hr tk hx hp c args s Ps r N H h nc sm ka p er => ?_
  subst hX
  obtain ⟨w, l, ps, e, o, hw, rfl, he, ok, rfl⟩ := h
  obtain ⟨v2, v3, rfl, hv2, hv3⟩ := paired2 p
  obtain ⟨t3, g3⟩ := T.cPER
  obtain ⟨ob, s1, hk, hob, s2⟩ := ka.known nc sm
  obtain ⟨hlen, hps, t, ho, hcut⟩ : (2 ≤ l.length ∧ l.length ≤ 6) ∧ (List.replicate l.length ("person" : Str)).zip l = ps ∧ ∃ t : Int × Int, o = some t ∧ cutA l (some (-2)) none = [t.1, t.2] := by
    cases he <;> first | exact ⟨⟨Nat.le_of_ble_eq_true rfl, Nat.le_of_ble_eq_true rfl⟩, rfl, _, rfl, rfl⟩ | exact ⟨⟨by simp, by simp⟩, by simp [List.replicate], _, rfl, by simp [cutA, HT.sIx]⟩ | (simp at hw; done)
  subst ho hps
  refine w_look (s := s) (ws := List.replicate l.length "person") (l := l) T ML hr hx (.refl s1) (ev_name (i := 0) rfl hk) (ev_eq (ev_tupMul (P := is (.str "person")) (k := l.length) (ev_tup (ea_cons (ev_glob (v := .str "person") g3 ⟨_, rfl⟩) ea_nil)) (ev_lenL (R := I) T.nlen (ev_name (i := 2) rfl ((isI l).mono s2 hv3))) (by omega)) (by unfold wordsV; rw [List.map_replicate])) (ev_name (i := 2) rfl ((isI l).mono s2 hv3)) (by rw [List.length_replicate]) w6_rep (fun hl H1 g => ?_) (fun i hl => er i (outM_err (afterM_some hl)))
  obtain ⟨oe, en⟩ := he.ok hl
  have hne : l.map I ≠ [] := fun z => by
    have q : (l.map I).length = 0 := by rw [z]; rfl
    rw [List.length_map] at q
    omega
  refine w_put T MP hr hx nc sm g.hh (ka.more (Same.refl N) (g.hh c)) (ev_name (i := 0) rfl rfl) (ev_eq (ev_catT (ev_tup (ea_cons (P := I w) (ev_name (i := 1) rfl hv2) ea_nil)) (ev_tupleL (l := l) T.ntuple (ev_name (i := 2) rfl hv3)) (by simp) hne (by rw [List.length_map]; show 1 + _ ≤ _; omega)) ?_) (oo := some t) (ev_eq (ev_slL (R := I) (l := l) (i := some (-2)) (ev_name (i := 2) rfl hv3) (eo_some (ev_neg ev_int)) eo_none) (by rw [hcut]; rfl)) ok oe (by rw [afterM_none hl]) er
  show isT ((w :: l).map I) = isT ((Vbkoab.evNums e).map I)
  rw [en]
end
end PB
namespace PB
open PySem PySem.Spec PyProof.Rows L2
local macro_rules | `(tactic| walk_at "at") => `(tactic| first | exact at0 _ | exact at1 _ | rfl | assumption)
local macro_rules | `(tactic| walk_at "p") => `(tactic| first | assumption | exact (rfl : (is _).p _ _))
local macro_rules | `(tactic| walk_at "nm") => `(tactic| first
  | exact ev_glob (by assumption) (by first | exact ⟨_, rfl⟩ | rfl)
  | exact ev_nameI (by rfl) rfl (by walk_at "p"))
local macro_rules | `(tactic| walk_at "ev") => `(tactic| first
  | (with_reducible show Ev _ (PySem.Expr.Constant _ _ _) _ _ _); first | exact ev_int | exact ev_non | exact ev_bool | exact ev_str
  | (with_reducible show Ev _ (PySem.Expr.Name _ _) _ _ _); walk_at "nm"
  | (with_reducible show Ev _ (PySem.Expr.Subscript _ _ _) _ _ _); first | exact ev_ixT (by walk_at "ev") (by walk_at "ev") (by walk_at "at") | exact ev_ixL (by walk_at "ev") (by walk_at "ev") (by walk_at "at")
  | (with_reducible show Ev _ (PySem.Expr.Tuple _ _ _) _ _ _); exact ev_tup (by walk_at "ea")
  | (with_reducible show Ev _ (PySem.Expr.UnaryOp PySem.UnaryOp.USub _ _) _ _ _); exact ev_neg (by walk_at "ev")
  | (with_reducible show Ev _ (PySem.Expr.Compare _ [PySem.CmpOp.Eq] _ _) _ _ _); exact ev_eqI (by walk_at "ev") (by walk_at "ev")
  | (with_reducible show Ev _ (PySem.Expr.Compare _ [PySem.CmpOp.NotEq] _ _) _ _ _); exact ev_neI (by walk_at "ev") (by walk_at "ev"))
local macro_rules | `(tactic| walk_at "ea") => `(tactic| first
  | (with_reducible show EvA _ [] _ _ _); exact ea_nil
  | exact ea_cons (by walk_at "ev") (by walk_at "ea"))
local macro_rules | `(tactic| walk_at "et") => `(tactic| first
  | (with_reducible show EvT _ (PySem.Expr.Compare _ [PySem.CmpOp.Eq] _ _) _ _ _); exact evt_eqI (by walk_at "ev") (by walk_at "ev")
  | (with_reducible show EvT _ (PySem.Expr.Compare _ [PySem.CmpOp.NotEq] _ _) _ _ _); exact evt_neI (by walk_at "ev") (by walk_at "ev")
  | (with_reducible show EvT _ (PySem.Expr.Compare _ [PySem.CmpOp.Lt] _ _) _ _ _); exact evt_ltI (by walk_at "ev") (by walk_at "ev")
  | (with_reducible show EvT _ (PySem.Expr.Compare _ [PySem.CmpOp.LtE] _ _) _ _ _); exact evt_leI (by walk_at "ev") (by walk_at "ev")
  | (with_reducible show EvT _ (PySem.Expr.Compare _ [PySem.CmpOp.Gt] _ _) _ _ _); exact evt_gtI (by walk_at "ev") (by walk_at "ev")
  | (with_reducible show EvT _ (PySem.Expr.Compare _ [PySem.CmpOp.GtE] _ _) _ _ _); exact evt_geI (by walk_at "ev") (by walk_at "ev"))
/-! ### keeper.py: put_evidence, drop, __init__ -/
abbrev sPutEv : Stmt := inClass (top 59) 8
theorem scPutEv : FnScope ["self", "word", "numbers"] ["self", "word", "numbers"] (defScope sPutEv) := ⟨rfl, rfl, rfl, by decide +kernel, rfl, by decide +kernel, by decide +kernel⟩
abbrev sDrop : Stmt := inClass (top 59) 9
theorem scDrop : FnScope ["self", "numbers"] ["self", "numbers"] (defScope sDrop) := ⟨rfl, rfl, rfl, by decide +kernel, rfl, by decide +kernel, by decide +kernel⟩
def cutOut (l : List Piece) (k : Nat) : List Piece := l.take k ++ l.drop (k + 1)
def mDrop (s : KS) (k : Int) : ResM := afterM s [("piece", k)] (.ok ((s.1, cutOut s.2 k.toNat), [((cutOut s.2 k.toNat).length : Int)]))
def RDrop : KS → List VP → Except Int (KS × VP) → Prop := fun s Ps r => ∃ k : Int, Ps = [isI [k]] ∧ okS s ∧ r = outM (mDrop s k)
abbrev sKInit : Stmt := inClass (top 59) 0
theorem scKInit : FnScope ["self"] ["self"] (defScope sKInit) := ⟨rfl, rfl, rfl, by decide +kernel, rfl, by decide +kernel, by decide +kernel⟩
def RKInit : List VP → List (Str × VP) → Prop := fun Ps fs => Ps = [] ∧ fs = keeperF (0, [])
theorem cut_drop {α : Type} {l : List α} {k : Nat} : cutA l (some (((k : Nat) : Int) + 1)) none = l.drop (k + 1) := by
  unfold cutA
  have e1 : ((k : Int) + 1) = ((k + 1 : Nat) : Int) := by omega
  rw [e1, HT.sIx_nat, HT.sIx_none]
  rcases Nat.le_total (k + 1) l.length with h | h
  · rw [Nat.min_eq_left h, List.take_of_length_le (by rw [List.length_drop]; exact Nat.le_refl _)]
  · rw [Nat.min_eq_right h, List.drop_length, List.drop_of_length_le h]
    simp
section
variable {P : Program} {w : World} {K : PySem.W.Frag} {mg : Str → Option Value} {base : Heap} {CJ CG CR CK CE fI : Addr} {f : Addr} {fd : FuncData}
theorem ok_putEv (F : Fun K "put_evidence" "Keeper.put_evidence" sPutEv f fd) (T : Txt K mg CJ CG CR CK) (M2 : MF P w K mg base (L2.CX P w) 4 CK "put_two" ["self", "word", "numbers"] (SpK CE CK (RPutW [1, 2]))) (ML : MF P w K mg base (L2.CX P w) 4 CK "put_link" ["self", "numbers"] (SpK CE CK RPutL))
    (MW : MF P w K mg base (L2.CX P w) 4 CK "put_worth" ["self", "word", "numbers"] (SpK CE CK (RPutW [4, 5]))) (MI : MF P w K mg base (L2.CX P w) 4 CK "put_if" ["self", "word", "numbers"] (SpK CE CK (RPutW [6, 7]))) :
    FnOk P w K mg base (L2.CX P w) 5 f fd ["self", "word", "numbers"] (SpK CE CK (RPutW [1, 2, 3, 4, 5, 6, 7])) := by
  refine spM_ok F scPutEv (fun s Ps r h => by obtain ⟨_, _, _, _, _, _, rfl, _⟩ := h; rfl) fun cdv A outer st H0 E X hX hr tk hx hp c args s Ps r N H h nc sm ka p er => ?_
  subst hX
  obtain ⟨w, l, ps, e, o, hw, rfl, he, ok, rfl⟩ := h
  obtain ⟨v2, v3, rfl, hv2, hv3⟩ := paired2 p
  obtain ⟨t1, g1⟩ := T.cSAME
  obtain ⟨t2, g2⟩ := T.cDIFFER
  obtain ⟨t3, g3⟩ := T.cLINK
  obtain ⟨t4, g4⟩ := T.cKEY
  obtain ⟨t5, g5⟩ := T.cSINGLE
  obtain ⟨t6, g6⟩ := T.cIF
  obtain ⟨t7, g7⟩ := T.cBOTH
  refine b_when (N := N) (t := decide (w ∈ ([1, 2] : List Int))) (evt_inT (l := [1, 2]) (ev_name (i := 1) rfl hv2) (ev_tup (ea_cons (P := I 1) (ev_glob g1 ⟨_, rfl⟩) (ea_cons (P := I 2) (ev_glob g2 ⟨_, rfl⟩) ea_nil))) rfl) sm (fun h H1 s1 => ?_) (fun h H1 s1 => ?_)
  · exact end_of (r' := .error 0) (bE_methM (F := keeperF) (s0 := s) M2 T.kC hr hx (ev_name (i := 0) rfl rfl) nc (sm.trans s1) (ka.more (Same.refl N) (s1 c)) (lkK_m (by decide +kernel) (by decide +kernel)) (ea_cons (P := I w) (ev_name (i := 1) rfl hv2) (ea_cons (P := isI l) (ev_name (i := 2) rfl hv3) ea_nil)) ⟨w, l, ps, e, o, of_decide_eq_true h, rfl, he, ok, rfl⟩ (fun b P h v N' H' bt k p => ⟨b, P, h, N', bt, k, p⟩) (fun i h => (er i h).more s1)) sm s1
  · have h12 := of_decide_eq_false h
    refine b_when (N := N) (t := decide (w = 3)) (evt_eqI (ev_name (i := 1) rfl hv2) (ev_glob g3 ⟨_, rfl⟩)) (sm.trans s1) (fun h H2 s2 => ?_) (fun h H2 s2 => ?_)
    · have h3 : w = 3 := of_decide_eq_true h
      subst h3
      have s12 := s1.trans s2
      exact end_of (r' := .error 0) (bE_methM (F := keeperF) (s0 := s) ML T.kC hr hx (ev_name (i := 0) rfl rfl) nc (sm.trans s12) (ka.more (Same.refl N) (s12 c)) (lkK_m (by decide +kernel) (by decide +kernel)) (ea_cons (P := isI l) (ev_name (i := 2) rfl hv3) ea_nil) ⟨l, ps, e, o, rfl, he, ok, rfl⟩ (fun b P h v N' H' bt k p => ⟨b, P, h, N', bt, k, p⟩) (fun i h => (er i h).more s12)) sm s12
    · have h3 : ¬ w = 3 := of_decide_eq_false h
      have s12 := s1.trans s2
      refine b_when (N := N) (t := decide (w ∈ ([4, 5] : List Int))) (evt_inT (l := [4, 5]) (ev_name (i := 1) rfl hv2) (ev_tup (ea_cons (P := I 4) (ev_glob g4 ⟨_, rfl⟩) (ea_cons (P := I 5) (ev_glob g5 ⟨_, rfl⟩) ea_nil))) rfl) (sm.trans s12) (fun h H3 s3 => ?_) (fun h H3 s3 => ?_)
      · have s13 := s12.trans s3
        exact end_of (r' := .error 0) (bE_methM (F := keeperF) (s0 := s) MW T.kC hr hx (ev_name (i := 0) rfl rfl) nc (sm.trans s13) (ka.more (Same.refl N) (s13 c)) (lkK_m (by decide +kernel) (by decide +kernel)) (ea_cons (P := I w) (ev_name (i := 1) rfl hv2) (ea_cons (P := isI l) (ev_name (i := 2) rfl hv3) ea_nil)) ⟨w, l, ps, e, o, of_decide_eq_true h, rfl, he, ok, rfl⟩ (fun b P h v N' H' bt k p => ⟨b, P, h, N', bt, k, p⟩) (fun i h => (er i h).more s13)) sm s13
      · have s13 := s12.trans s3
        have h45 := of_decide_eq_false h
        have h67 : w = 6 ∨ w = 7 := by
          simp only [List.mem_cons, List.not_mem_nil, or_false] at hw h12 h45
          omega
        have hix : atI ([6, 7] : List Int) (if decide (w = 7) then 1 else 0) = some w := by rcases h67 with rfl | rfl <;> rfl
        exact end_of (r' := .error 0) (bE_methM (F := keeperF) (s0 := s) MI T.kC hr hx (ev_name (i := 0) rfl rfl) nc (sm.trans s13) (ka.more (Same.refl N) (s13 c)) (lkK_m (by decide +kernel) (by decide +kernel)) (ea_cons (P := I w) (ev_ixL (R := I) (l := [6, 7]) (ev_lst (ea_cons (P := I 6) (ev_glob g6 ⟨_, rfl⟩) (ea_cons (P := I 7) (ev_glob g7 ⟨_, rfl⟩) ea_nil)) (.cons (fun _ _ z => z) (.cons (fun _ _ z => z) .nil))) (ev_intB T.nint (ev_eqI (ev_name (i := 1) rfl hv2) (ev_glob g7 ⟨_, rfl⟩))) hix) (ea_cons (P := isI l) (ev_name (i := 2) rfl hv3) ea_nil)) ⟨w, l, ps, e, o, by rcases h67 with rfl | rfl <;> simp, rfl, he, ok, rfl⟩ (fun b P h v N' H' bt k p => ⟨b, P, h, N', bt, k, p⟩) (fun i h => (er i h).more s13)) sm s13
theorem ok_drop (F : Fun K "drop" "Keeper.drop" sDrop f fd) (T : Txt K mg CJ CG CR CK) (ML : MF P w K mg base (L2.CX P w) 3 CK "look" ["self", "words", "numbers"] (PureX CE (RLook CK))) : FnOk P w K mg base (L2.CX P w) 4 f fd ["self", "numbers"] (SpK CE CK RDrop) := by
  refine spM_ok F scDrop (fun s Ps r h => by obtain ⟨_, rfl, _⟩ := h; rfl) fun cdv A outer st H0 E X hX hr tk hx hp c args s Ps r N H h nc sm ka p er => ?_
  subst hX
  obtain ⟨k, rfl, ok, rfl⟩ := h
  obtain ⟨v2, rfl, hv2⟩ := paired1 p
  obtain ⟨t1, g1⟩ := T.cPIE
  obtain ⟨ob, s1, hk, hob, s2⟩ := ka.known nc sm
  refine w_look (s := s) (ws := ["piece"]) (l := [k]) T ML hr hx (.refl s1) (ev_name (i := 0) rfl hk) (ev_tup (ea_cons (ev_glob (v := .str "piece") g1 ⟨_, rfl⟩) ea_nil)) (ev_name (i := 1) rfl ((isI [k]).mono s2 hv2)) rfl (by decide +kernel) (fun hl H1 g => ?_) (fun i hl => er i (outM_err (afterM_some hl)))
  have hl : mLook s [("piece", k)] = none := hl
  have a0 := look_all hl _ (List.mem_cons_self ..)
  have b0 := (inGreat_nat a0.1).1
  have c0 := there_piece a0.2
  have e0 : mDrop s k = .ok ((s.1, cutOut s.2 k.toNat), [((cutOut s.2 k.toNat).length : Int)]) := afterM_none hl
  have l30 := ok.2.1
  have e1 : cutA s.2 none (some k) = s.2.take k.toNat := by rw [b0, cut_take, Int.toNat_natCast]
  have e2 : cutA s.2 (some (k + 1)) none = s.2.drop (k.toNat + 1) := by rw [b0, cut_drop, Int.toNat_natCast]
  refine b_store (fs := keeperF s) (fs' := keeperF (s.1, cutOut s.2 k.toNat)) (P := isL piece (cutOut s.2 k.toNat)) nc (sm.trans g.hh) (ka.more (Same.refl N) (g.hh c)) T.kC T.kpieces (by show 2 < 1000; decide) (fun ob hk s3 => ?_) (noins_l fun _ => noins_piece) (ev_name (i := 0) rfl rfl) (fun vs v N' h hv => k_putPieces hv vs h) (fun N2 H3 bt n2 k2 => ?_)
  · have hv2 := (isI [k]).mono s3 hv2
    exact ev_catL (R := piece) (ev_eq (ev_slL (R := piece) (ev_fld T.kC T.kpieces (fs := keeperF s) (ev_name (i := 0) rfl hk) lkK_pieces) eo_none (eo_some (ev_ixL (R := I) (l := [k]) (x := k) (ev_name (i := 1) rfl hv2) ev_int rfl))) (by rw [e1])) (ev_eq (ev_slL (R := piece) (ev_fld T.kC T.kpieces (fs := keeperF s) (ev_name (i := 0) rfl hk) lkK_pieces) (eo_some (ev_add (ev_ixL (R := I) (l := [k]) (x := k) (ev_name (i := 1) rfl hv2) ev_int rfl) ev_int)) eo_none) (by rw [e2])) (by rw [List.length_take, List.length_drop]; omega)
  · refine endM_ret (F := keeperF) (t := (s.1, cutOut s.2 k.toNat)) (P := isI [((cutOut s.2 k.toNat).length : Int)]) ((But.of (.keep sm g.hh)).trans bt) n2 k2 (fun ob hk s3 => ?_) noins_i (outM_ok (p := ((s.1, cutOut s.2 k.toNat), _)) e0)
    exact ev_lst (ea_cons (ev_lenL (R := piece) T.nlen (ev_fld T.kC T.kpieces (fs := keeperF (s.1, cutOut s.2 k.toNat)) (ev_name (i := 0) rfl hk) lkK_pieces)) ea_nil) (.cons (fun _ _ z => z) .nil)
theorem ok_kInit (F : Fun K "__init__" "Keeper.__init__" sKInit f fd) (T : Txt K mg CJ CG CR CK) : FnOk P w K mg base CX0 1 f fd ["self"] (Init CK RKInit) := by
  refine init_ok F scKInit (fun Ps P h => by obtain ⟨rfl, _⟩ := h; rfl) fun cdv A outer s H0 E hr x dx args Ps fs N H h nx sm hx p => ?_
  obtain ⟨rfl, rfl⟩ := h
  cases p
  refine b_fld (N := N) (N2 := N) hx (by show 0 < 1000; decide) T.kC T.kmany (P := I 0) ev_int sm (ev_name (i := 0) rfl rfl) sm (fun v N1 H1 g1 p1 e1 => ?_)
  cases p1
  have n1x := g1.nw x nx (by rw [hx]; simp)
  have b1 := (But.of g1).trans (But.put (o := .ins CK dx (putF "many" (.int 0) [])) g1.nh n1x)
  have ex : (upd H1 x (.ins CK dx (putF "many" (.int 0) []))) x = some (.ins CK dx (putF "many" (.int 0) [])) := upd_same
  generalize (upd H1 x (.ins CK dx (putF "many" (.int 0) []))) = H2 at b1 ex
  refine b_fldM (N2 := N1) ex (by show 1 < 1000; decide) T.kC T.kpieces (ev_name (i := 0) rfl rfl) b1.nh (fun l H3 hl s3 hl3 hx3 => b_nil ?_)
  have hl0 : H l = none := by
    cases q : H l with
    | none => rfl
    | some o => exact absurd hl (b1.dm l (by rw [q]; simp))
  have xl : x ≠ l := fun z => by rw [← z, ex] at hl; cases hl
  have b3 := (b1.more s3).fix (b1.nh.free hl) hl0 hl3
  have n3x : (upd N1 l (.lst [])) x = none := by rw [upd_ne xl]; exact n1x
  refine ⟨upd N1 l (.lst []), _, b3.trans (But.put b3.nh n3x), upd_same, ?_⟩
  rw [put_nil, put_past (by decide +kernel), put_nil]
  exact .cons ⟨rfl, rfl⟩ (.cons ⟨rfl, l, [], rfl, upd_same, .nil⟩ .nil)
end
end PB
namespace PB
open PySem PySem.Spec PyProof.Rows L2
local macro_rules | `(tactic| walk_at "at") => `(tactic| first | exact at0 _ | exact at1 _ | rfl | assumption)
local macro_rules | `(tactic| walk_at "p") => `(tactic| first | assumption | exact (rfl : (is _).p _ _))
local macro_rules | `(tactic| walk_at "nm") => `(tactic| first
  | exact ev_glob (by assumption) (by first | exact ⟨_, rfl⟩ | rfl)
  | exact ev_nameI (by rfl) rfl (by walk_at "p"))
local macro_rules | `(tactic| walk_at "ev") => `(tactic| first
  | (with_reducible show Ev _ (PySem.Expr.Constant _ _ _) _ _ _); first | exact ev_int | exact ev_non | exact ev_bool | exact ev_str
  | (with_reducible show Ev _ (PySem.Expr.Name _ _) _ _ _); walk_at "nm"
  | (with_reducible show Ev _ (PySem.Expr.Subscript _ _ _) _ _ _); first | exact ev_ixT (by walk_at "ev") (by walk_at "ev") (by walk_at "at") | exact ev_ixL (by walk_at "ev") (by walk_at "ev") (by walk_at "at")
  | (with_reducible show Ev _ (PySem.Expr.Tuple _ _ _) _ _ _); exact ev_tup (by walk_at "ea")
  | (with_reducible show Ev _ (PySem.Expr.UnaryOp PySem.UnaryOp.USub _ _) _ _ _); exact ev_neg (by walk_at "ev")
  | (with_reducible show Ev _ (PySem.Expr.Compare _ [PySem.CmpOp.Eq] _ _) _ _ _); exact ev_eqI (by walk_at "ev") (by walk_at "ev")
  | (with_reducible show Ev _ (PySem.Expr.Compare _ [PySem.CmpOp.NotEq] _ _) _ _ _); exact ev_neI (by walk_at "ev") (by walk_at "ev"))
local macro_rules | `(tactic| walk_at "ea") => `(tactic| first
  | (with_reducible show EvA _ [] _ _ _); exact ea_nil
  | exact ea_cons (by walk_at "ev") (by walk_at "ea"))
local macro_rules | `(tactic| walk_at "et") => `(tactic| first
  | (with_reducible show EvT _ (PySem.Expr.Compare _ [PySem.CmpOp.Eq] _ _) _ _ _); exact evt_eqI (by walk_at "ev") (by walk_at "ev")
  | (with_reducible show EvT _ (PySem.Expr.Compare _ [PySem.CmpOp.NotEq] _ _) _ _ _); exact evt_neI (by walk_at "ev") (by walk_at "ev")
  | (with_reducible show EvT _ (PySem.Expr.Compare _ [PySem.CmpOp.Lt] _ _) _ _ _); exact evt_ltI (by walk_at "ev") (by walk_at "ev")
  | (with_reducible show EvT _ (PySem.Expr.Compare _ [PySem.CmpOp.LtE] _ _) _ _ _); exact evt_leI (by walk_at "ev") (by walk_at "ev")
  | (with_reducible show EvT _ (PySem.Expr.Compare _ [PySem.CmpOp.Gt] _ _) _ _ _); exact evt_gtI (by walk_at "ev") (by walk_at "ev")
  | (with_reducible show EvT _ (PySem.Expr.Compare _ [PySem.CmpOp.GtE] _ _) _ _ _); exact evt_geI (by walk_at "ev") (by walk_at "ev"))
/-! ### books.py: early, late -/
def keepM (s : KS) : Res → ResM
  | .ok l => .ok (s, l)
  | .error i => .error i
def evOf (w : Nat) (l : List Int) : Option (List (Str × Int) × Piece × Option (Int × Int)) := match w, l with
  | 1, [x, y] => some ([("person", x), ("person", y)], .same x.toNat y.toNat, some (x, y))
  | 2, [x, y] => some ([("person", x), ("person", y)], .differ x.toNat y.toNat, some (x, y))
  | 3, [x, f, y] => some ([("person", x), ("field", f), ("person", y)], .link x.toNat f.toNat y.toNat, none)
  | 4, [x, k, v] => some ([("person", x), ("sort", k), ("worth", v)], .key x.toNat k.toNat v.toNat, none)
  | 5, [x, k, v] => some ([("person", x), ("sort", k), ("worth", v)], .single x.toNat k.toNat v.toNat, none)
  | 6, [x, y, u, v] => some ([("person", x), ("person", y), ("person", u), ("person", v)], .if_ x.toNat y.toNat u.toNat v.toNat, some (u, v))
  | 7, [x, y, p, q, u, v] => some ([("person", x), ("person", y), ("person", p), ("person", q), ("person", u), ("person", v)], .both x.toNat y.toNat p.toNat q.toNat u.toNat v.toNat, some (u, v))
  | _, _ => none
def mPutEv (s : KS) (w : Nat) (l : List Int) : ResM := match evOf w l with
  | some (ps, e, o) => afterM s ps (mPut s e o)
  | none => .error 0
theorem evOf_is {w : Nat} {l : List Int} {ps : List (Str × Int)} {e : Piece} {o : Option (Int × Int)} (h : evOf w l = some (ps, e, o)) : IsEv (w : Int) l ps e o := by
  unfold evOf at h
  split at h <;> first | (cases h; constructor) | cases h
section
variable {X : Cx} {e : Expr} {pos : Pos} {σ : L2.St} {N H0 H : Hp} {CE CK c : Addr} {rest : List Stmt} {E : XK} {s : KS} {r : Except Int (KS × VP)} {nx : L2.St → Hp → Prop} {bk ct : L2.St → Hp → Prop}
theorem end_readX {res : Res} (nc : N c = none) (sm : Same N H0) (s0 : Same H0 H) (ka : Kat CK c (keeperF s) N H) (h : ∀ ob, (keeper CK s).p (.ref c) (upd N c ob) → Same N (upd N c ob) → EvX CE E X e σ (upd N c ob) (outX res)) (hr : r = outM (keepM s res)) (er : ∀ i, r = .error i → Fail CE i H0 E) :
    bB X (.Return (some e) pos :: rest) { nx := nx, rt := fun v H' => EndM CK keeperF r c N H0 v H', bk := bk, ct := ct } σ H := by
  obtain ⟨ob, s1, hk, hob, s2⟩ := ka.known nc (sm.trans s0)
  refine b_retE (h ob hk s2 H s1 _ (fun P e1 v N' H' g p => ?_) fun i e1 => ?_)
  · cases res with
    | error j => cases e1
    | ok l =>
      cases e1
      obtain ⟨b1, k1, dx, vs, e'⟩ := ka.back nc g hob
      exact ⟨s, isI l, hr, _, (But.of (.keep sm s0)).trans b1, k1, noins_i v N' c CK dx vs e' p⟩
  · cases res with
    | ok l => cases e1
    | error j => cases e1; exact (er _ hr).more s0
theorem end_read {l : List Int} (nc : N c = none) (sm : Same N H0) (s0 : Same H0 H) (ka : Kat CK c (keeperF s) N H) (h : ∀ ob, (keeper CK s).p (.ref c) (upd N c ob) → Same N (upd N c ob) → Ev X e σ (upd N c ob) (isI l)) (hr : r = outM (.ok (s, l))) :
    bB X (.Return (some e) pos :: rest) { nx := nx, rt := fun v H' => EndM CK keeperF r c N H0 v H', bk := bk, ct := ct } σ H := by
  obtain ⟨ob, s1, hk, hob, s2⟩ := ka.known nc (sm.trans s0)
  refine b_ret (h ob hk s2) s1 fun v N' H' g p => ?_
  obtain ⟨b1, k1, dx, vs, e'⟩ := ka.back nc g hob
  exact ⟨s, isI l, hr, _, (But.of (.keep sm s0)).trans b1, k1, noins_i v N' c CK dx vs e' p⟩
end
abbrev sEarly : Stmt := top 63
theorem scEarly : FnScope ["keeper", "word", "numbers"] ["keeper", "word", "numbers"] (defScope sEarly) := ⟨rfl, rfl, rfl, by decide +kernel, rfl, by decide +kernel, by decide +kernel⟩
/-- the calls 0 to 14 -/
noncomputable def mEarly (s : KS) (w : Nat) (l : List Int) : ResM :=
  if w = 0 then mPerson s else if w < 8 then mPutEv s w l else if w = 8 then mDrop s (l.headD 0) else if w = 9 then .ok (s, mFits s) else if w = 10 then .ok (s, mJoins s) else if w = 11 then .ok (s, Vbkoab.ints (mBooks s))
  else if w = 12 then keepM s (mVerd s l) else if w = 13 then keepM s (mWhy s l) else keepM s (mWhynot s l)
def NUM (w : Nat) : Nat := (NUMS.getD w 0).toNat
noncomputable def REarly : KS → List VP → Except Int (KS × VP) → Prop := fun s Ps r => ∃ (w : Nat) (l : List Int), Ps = [I (w : Int), isI l] ∧ w < 15 ∧ l.length = NUM w ∧ okS s ∧ r = outM (mEarly s w l)
theorem evOf_some {w : Nat} {l : List Int} (h0 : w ≠ 0) (h8 : w < 8) (hl : l.length = NUM w) : ∃ ps e o, evOf w l = some (ps, e, o) := by
  have : w = 1 ∨ w = 2 ∨ w = 3 ∨ w = 4 ∨ w = 5 ∨ w = 6 ∨ w = 7 := by omega
  rcases this with rfl | rfl | rfl | rfl | rfl | rfl | rfl
  · match l, hl with | [x, y], _ => exact ⟨_, _, _, rfl⟩
  · match l, hl with | [x, y], _ => exact ⟨_, _, _, rfl⟩
  · match l, hl with | [x, y, z], _ => exact ⟨_, _, _, rfl⟩
  · match l, hl with | [x, y, z], _ => exact ⟨_, _, _, rfl⟩
  · match l, hl with | [x, y, z], _ => exact ⟨_, _, _, rfl⟩
  · match l, hl with | [x, y, u, v], _ => exact ⟨_, _, _, rfl⟩
  · match l, hl with | [x, y, p, q, u, v], _ => exact ⟨_, _, _, rfl⟩
theorem nat_lt {a b : Nat} : decide ((a : Int) < (b : Int)) = decide (a < b) := by
  by_cases h : a < b
  · rw [decide_eq_true h, decide_eq_true (by omega)]
  · rw [decide_eq_false h, decide_eq_false (by omega)]
theorem nat_eq {a b : Nat} : decide ((a : Int) = (b : Int)) = decide (a = b) := by
  by_cases h : a = b
  · rw [decide_eq_true h, decide_eq_true (by omega)]
  · rw [decide_eq_false h, decide_eq_false (by omega)]
/-- all methods of the keeper that early calls -/
structure MEarly (P : Program) (w : World) (K : PySem.W.Frag) (mg : Str → Option Value) (base : Heap) (CE CK : Addr) : Prop where
  person : MF P w K mg base (L2.CX P w) 3 CK "person" ["self"] (SpK CE CK RPerson)
  putEv : MF P w K mg base (L2.CX P w) 5 CK "put_evidence" ["self", "word", "numbers"] (SpK CE CK (RPutW [1, 2, 3, 4, 5, 6, 7]))
  drop : MF P w K mg base (L2.CX P w) 4 CK "drop" ["self", "numbers"] (SpK CE CK RDrop)
  fits : MF P w K mg base CX0 9 CK "fits" ["self"] (Pure (RKOut CK mFits))
  joins : MF P w K mg base CX0 9 CK "told_joins" ["self"] (Pure (RKOut CK mJoins))
  books : MF P w K mg base CX0 9 CK "books" ["self"] (Pure fun Ps P => ∃ s, Ps = [keeper CK s] ∧ okS s ∧ P = isNs (mBooks s))
  verdict : MF P w K mg base (L2.CX P w) 10 CK "verdict" ["self", "two"] (PureX CE (RKX CK 2 mVerd))
  why : MF P w K mg base (L2.CX P w) 10 CK "why" ["self", "two"] (PureX CE (RKX CK 2 mWhy))
  whynot : MF P w K mg base (L2.CX P w) 10 CK "whynot" ["self", "two"] (PureX CE (RKX CK 2 mWhynot))
section
variable {P : Program} {w : World} {K : PySem.W.Frag} {mg : Str → Option Value} {base : Heap} {CJ CG CR CK CE fI : Addr} {f : Addr} {fd : FuncData}
theorem ok_early (F : Fun K "early" "early" sEarly f fd) (T : Txt K mg CJ CG CR CK) (M : MEarly P w K mg base CE CK) : FnOk P w K mg base (L2.CX P w) 11 f fd ["keeper", "word", "numbers"] (SpK CE CK REarly) := by
  refine spM_ok F scEarly (fun s Ps r h => by obtain ⟨_, _, rfl, _⟩ := h; rfl) fun cdv A outer st H0 E X hX hr tk hx hp c args s Ps r N H h nc sm ka p er => ?_
  subst hX
  obtain ⟨w, l, rfl, hw, hl, ok, rfl⟩ := h
  obtain ⟨v2, v3, rfl, hv2, hv3⟩ := paired2 p
  have kn : ∀ ob, (keeper CK s).p (.ref c) (upd N c ob) → Same N (upd N c ob) → (keeper CK s).p (.ref c) (upd N c ob) ∧ (isI l).p v3 (upd N c ob) := fun ob hk s2 => ⟨hk, (isI l).mono s2 hv3⟩
  refine b_when (N := N) (t := decide (w = 0)) ((evt_eqI (ev_name (i := 1) rfl hv2) ev_int).to (nat_eq (b := 0))) sm (fun h H1 s1 => ?_) (fun h H1 s1 => ?_)
  · have h : w = 0 := of_decide_eq_true h
    exact end_of (r' := .error 0) (bE_methM0 (F := keeperF) (s0 := s) M.person T.kC (hr.mono (by decide)) hx (ev_name (i := 0) rfl rfl) nc (sm.trans s1) (ka.more (Same.refl N) (s1 c)) (lkK_m (by decide +kernel) (by decide +kernel)) ⟨rfl, ok, rfl⟩ (fun b P h' v N' H' bt k p => ⟨b, P, by rw [← h']; unfold mEarly; rw [if_pos h], N', bt, k, p⟩) (fun i h' => (er i (by rw [← h']; unfold mEarly; rw [if_pos h])).more s1)) sm s1
  have h0 : ¬ w = 0 := of_decide_eq_false h
  refine b_when (N := N) (t := decide (w < 8)) ((evt_ltI (ev_name (i := 1) rfl hv2) ev_int).to (nat_lt (b := 8))) (sm.trans s1) (fun h H2 s2 => ?_) (fun h H2 s2 => ?_)
  · have h8 : w < 8 := of_decide_eq_true h
    have s12 := s1.trans s2
    obtain ⟨ps, e, o, he⟩ := evOf_some h0 h8 hl
    have em : mEarly s w l = afterM s ps (mPut s e o) := by unfold mEarly mPutEv; rw [if_neg h0, if_pos h8, he]
    rw [em] at er ⊢
    have hm : (w : Int) ∈ ([1, 2, 3, 4, 5, 6, 7] : List Int) := by simp only [List.mem_cons, List.not_mem_nil, or_false]; omega
    exact end_of (r' := .error 0) (bE_methM (F := keeperF) (s0 := s) M.putEv T.kC (hr.mono (by decide)) hx (ev_name (i := 0) rfl rfl) nc (sm.trans s12) (ka.more (Same.refl N) (s12 c)) (lkK_m (by decide +kernel) (by decide +kernel)) (ea_cons (P := I (w : Int)) (ev_name (i := 1) rfl hv2) (ea_cons (P := isI l) (ev_name (i := 2) rfl hv3) ea_nil)) ⟨w, l, ps, e, o, hm, rfl, evOf_is he, ok, rfl⟩ (fun b P h v N' H' bt k p => ⟨b, P, h, N', bt, k, p⟩) (fun i h => (er i h).more s12)) sm s12
  have h8 : ¬ w < 8 := of_decide_eq_false h
  have s02 := s1.trans s2
  refine b_when (N := N) (t := decide (w = 8)) ((evt_eqI (ev_name (i := 1) rfl hv2) ev_int).to (nat_eq (b := 8))) (sm.trans s02) (fun h H3 s3 => ?_) (fun h H3 s3 => ?_)
  · have h : w = 8 := of_decide_eq_true h
    have s13 := s02.trans s3
    subst h
    obtain ⟨k, rfl⟩ : ∃ k, l = [k] := by match l, hl with | [k], _ => exact ⟨k, rfl⟩
    exact end_of (r' := .error 0) (bE_methM (F := keeperF) (s0 := s) M.drop T.kC (hr.mono (by decide)) hx (ev_name (i := 0) rfl rfl) nc (sm.trans s13) (ka.more (Same.refl N) (s13 c)) (lkK_m (by decide +kernel) (by decide +kernel)) (ea_cons (P := isI [k]) (ev_name (i := 2) rfl hv3) ea_nil) ⟨k, rfl, ok, rfl⟩ (fun b P h v N' H' bt k p => ⟨b, P, h, N', bt, k, p⟩) (fun i h => (er i h).more s13)) sm s13
  have h8' : ¬ w = 8 := of_decide_eq_false h
  have s03 := s02.trans s3
  refine b_when (N := N) (t := decide (w = 9)) ((evt_eqI (ev_name (i := 1) rfl hv2) ev_int).to (nat_eq (b := 9))) (sm.trans s03) (fun h H4 s4 => ?_) (fun h H4 s4 => ?_)
  · have h : w = 9 := of_decide_eq_true h
    subst h
    exact end_read nc sm (s03.trans s4) (ka.more (Same.refl N) ((s03.trans s4) c)) (fun ob hk s2 => ev_meth0 M.fits T.kC (hr.mono (by decide)) (fs := keeperF s) (ev_name (i := 0) rfl hk) (lkK_m (by decide +kernel) (by decide +kernel)) ⟨s, rfl, ok, rfl⟩) rfl
  have h9 : ¬ w = 9 := of_decide_eq_false h
  have s04 := s03.trans s4
  refine b_when (N := N) (t := decide (w = 10)) ((evt_eqI (ev_name (i := 1) rfl hv2) ev_int).to (nat_eq (b := 10))) (sm.trans s04) (fun h H5 s5 => ?_) (fun h H5 s5 => ?_)
  · have h : w = 10 := of_decide_eq_true h
    subst h
    exact end_read nc sm (s04.trans s5) (ka.more (Same.refl N) ((s04.trans s5) c)) (fun ob hk s2 => ev_meth0 M.joins T.kC (hr.mono (by decide)) (fs := keeperF s) (ev_name (i := 0) rfl hk) (lkK_m (by decide +kernel) (by decide +kernel)) ⟨s, rfl, ok, rfl⟩) rfl
  have h10 : ¬ w = 10 := of_decide_eq_false h
  have s05 := s04.trans s5
  refine b_when (N := N) (t := decide (w = 11)) ((evt_eqI (ev_name (i := 1) rfl hv2) ev_int).to (nat_eq (b := 11))) (sm.trans s05) (fun h H6 s6 => ?_) (fun h H6 s6 => ?_)
  · have h : w = 11 := of_decide_eq_true h
    subst h
    exact end_read (l := Vbkoab.ints (mBooks s)) nc sm (s05.trans s6) (ka.more (Same.refl N) ((s05.trans s6) c)) (fun ob hk s2 => ev_eq (ev_meth0 M.books T.kC (hr.mono (by decide)) (fs := keeperF s) (ev_name (i := 0) rfl hk) (lkK_m (by decide +kernel) (by decide +kernel)) ⟨s, rfl, ok, rfl⟩) ns_i) rfl
  have h11 : ¬ w = 11 := of_decide_eq_false h
  have s06 := s05.trans s6
  refine b_when (N := N) (t := decide (w = 12)) ((evt_eqI (ev_name (i := 1) rfl hv2) ev_int).to (nat_eq (b := 12))) (sm.trans s06) (fun h H7 s7 => ?_) (fun h H7 s7 => ?_)
  · have h : w = 12 := of_decide_eq_true h
    subst h
    exact end_readX (res := mVerd s l) nc sm (s06.trans s7) (ka.more (Same.refl N) ((s06.trans s7) c)) (fun ob hk s2 => evx_meth M.verdict T.kC (hr.mono (by decide)) hx (fs := keeperF s) (ev_name (i := 0) rfl hk) (lkK_m (by decide +kernel) (by decide +kernel)) (ea_cons (P := isI l) (ev_name (i := 2) rfl (kn ob hk s2).2) ea_nil) ⟨s, l, rfl, ok, hl, rfl⟩) rfl er
  have h12 : ¬ w = 12 := of_decide_eq_false h
  have s07 := s06.trans s7
  refine b_when (N := N) (t := decide (w = 13)) ((evt_eqI (ev_name (i := 1) rfl hv2) ev_int).to (nat_eq (b := 13))) (sm.trans s07) (fun h H8 s8 => ?_) (fun h H8 s8 => ?_)
  · have h : w = 13 := of_decide_eq_true h
    subst h
    exact end_readX (res := mWhy s l) nc sm (s07.trans s8) (ka.more (Same.refl N) ((s07.trans s8) c)) (fun ob hk s2 => evx_meth M.why T.kC (hr.mono (by decide)) hx (fs := keeperF s) (ev_name (i := 0) rfl hk) (lkK_m (by decide +kernel) (by decide +kernel)) (ea_cons (P := isI l) (ev_name (i := 2) rfl (kn ob hk s2).2) ea_nil) ⟨s, l, rfl, ok, hl, rfl⟩) rfl er
  · have h13 : ¬ w = 13 := of_decide_eq_false h
    have h : w = 14 := by omega
    subst h
    exact end_readX (res := mWhynot s l) nc sm (s07.trans s8) (ka.more (Same.refl N) ((s07.trans s8) c)) (fun ob hk s2 => evx_meth M.whynot T.kC (hr.mono (by decide)) hx (fs := keeperF s) (ev_name (i := 0) rfl hk) (lkK_m (by decide +kernel) (by decide +kernel)) (ea_cons (P := isI l) (ev_name (i := 2) rfl (kn ob hk s2).2) ea_nil) ⟨s, l, rfl, ok, hl, rfl⟩) rfl er
end
abbrev sLate : Stmt := top 64
theorem scLate : FnScope ["keeper", "word", "numbers", "row"] ["keeper", "word", "numbers", "row"] (defScope sLate) := ⟨rfl, rfl, rfl, by decide +kernel, rfl, by decide +kernel, by decide +kernel⟩
/-- the calls 15 to 22 -/
def mLate (s : KS) (w : Nat) (l row : List Int) : ResM :=
  if w = 15 then keepM s (mCheck s l row) else if w = 16 then keepM s (mKCore s l) else if w = 17 then .ok (s, mKClash s) else if w = 18 then keepM s (mKnown s l) else if w = 19 then keepM s (mLinked s l) else if w = 20 then keepM s (mValue s l) else if w = 21 then .ok (s, mAllTold s) else keepM s (mWays s l)
def RLate : KS → List VP → Except Int (KS × VP) → Prop := fun s Ps r => ∃ (w : Nat) (l row : List Int), Ps = [I (w : Int), isI l, isI row] ∧ 15 ≤ w ∧ w < 23 ∧ l.length = NUM w ∧ row.length < 100000 ∧ okS s ∧ r = outM (mLate s w l row)
structure MLate (P : Program) (w : World) (K : PySem.W.Frag) (mg : Str → Option Value) (base : Heap) (CE CK : Addr) : Prop where
  check : MF P w K mg base (L2.CX P w) 10 CK "check" ["self", "two", "row"] (PureX CE (RKX2 CK 2 mCheck))
  core : MF P w K mg base (L2.CX P w) 10 CK "core" ["self", "two"] (PureX CE (RKX CK 2 mKCore))
  clash : MF P w K mg base CX0 10 CK "clash" ["self"] (Pure (RKOut CK mKClash))
  known : MF P w K mg base (L2.CX P w) 10 CK "known" ["self", "numbers"] (PureX CE (RKX CK 3 mKnown))
  linked : MF P w K mg base (L2.CX P w) 10 CK "linked" ["self", "numbers"] (PureX CE (RKX CK 2 mLinked))
  value : MF P w K mg base (L2.CX P w) 10 CK "value" ["self", "numbers"] (PureX CE (RKX CK 2 mValue))
  told : MF P w K mg base CX0 1 CK "told" ["self"] (Pure (RKOut CK mAllTold))
  ways : MF P w K mg base (L2.CX P w) 10 CK "ways" ["self", "two"] (PureX CE (RKX CK 2 mWays))
section
variable {P : Program} {w : World} {K : PySem.W.Frag} {mg : Str → Option Value} {base : Heap} {CJ CG CR CK CE fI : Addr} {f : Addr} {fd : FuncData}
theorem ok_late (F : Fun K "late" "late" sLate f fd) (T : Txt K mg CJ CG CR CK) (M : MLate P w K mg base CE CK) : FnOk P w K mg base (L2.CX P w) 11 f fd ["keeper", "word", "numbers", "row"] (SpK CE CK RLate) := by
  refine spM_ok F scLate (fun s Ps r h => by obtain ⟨_, _, _, rfl, _⟩ := h; rfl) fun cdv A outer st H0 E X hX hr tk hx hp c args s Ps r N H h nc sm ka p er => ?_
  subst hX
  obtain ⟨w, l, row, rfl, hw, hw2, hl, hrow, ok, rfl⟩ := h
  obtain ⟨v2, v3, v4, rfl, hv2, hv3, hv4⟩ := paired3 p
  obtain ⟨t1, g1⟩ := T.cCHECK
  have s00 : Same H H := Same.refl H
  refine b_when (N := N) (t := decide (w = 15)) ((evt_eqI (ev_name (i := 1) rfl hv2) (ev_glob g1 ⟨_, rfl⟩)).to (nat_eq (b := 15))) (sm.trans s00) (fun h H1 s1 => ?_) (fun h H1 s1 => ?_)
  · have h : w = 15 := of_decide_eq_true h
    subst h
    exact end_readX (res := mCheck s l row) nc sm (s00.trans s1) (ka.more (Same.refl N) ((s00.trans s1) c)) (fun ob hk s2 => evx_meth M.check T.kC (hr.mono (by decide)) hx (fs := keeperF s) (ev_name (i := 0) rfl hk) (lkK_m (by decide +kernel) (by decide +kernel)) (ea_cons (P := isI l) (ev_name (i := 2) rfl ((isI l).mono s2 hv3)) (ea_cons (P := isI row) (ev_name (i := 3) rfl ((isI row).mono s2 hv4)) ea_nil)) ⟨s, l, row, rfl, ok, hl, hrow, rfl⟩) rfl er
  have h15 : ¬ w = 15 := of_decide_eq_false h
  have s01 := s00.trans s1
  refine b_when (N := N) (t := decide (w = 16)) ((evt_eqI (ev_name (i := 1) rfl hv2) ev_int).to (nat_eq (b := 16))) (sm.trans s01) (fun h H2 s2 => ?_) (fun h H2 s2 => ?_)
  · have h : w = 16 := of_decide_eq_true h
    subst h
    exact end_readX (res := mKCore s l) nc sm (s01.trans s2) (ka.more (Same.refl N) ((s01.trans s2) c)) (fun ob hk s2 => evx_meth M.core T.kC (hr.mono (by decide)) hx (fs := keeperF s) (ev_name (i := 0) rfl hk) (lkK_m (by decide +kernel) (by decide +kernel)) (ea_cons (P := isI l) (ev_name (i := 2) rfl ((isI l).mono s2 hv3)) ea_nil) ⟨s, l, rfl, ok, hl, rfl⟩) rfl er
  have h16 : ¬ w = 16 := of_decide_eq_false h
  have s02 := s01.trans s2
  refine b_when (N := N) (t := decide (w = 17)) ((evt_eqI (ev_name (i := 1) rfl hv2) ev_int).to (nat_eq (b := 17))) (sm.trans s02) (fun h H3 s3 => ?_) (fun h H3 s3 => ?_)
  · have h : w = 17 := of_decide_eq_true h
    subst h
    exact end_read nc sm (s02.trans s3) (ka.more (Same.refl N) ((s02.trans s3) c)) (fun ob hk s2 => ev_meth0 M.clash T.kC (hr.mono (by decide)) (fs := keeperF s) (ev_name (i := 0) rfl hk) (lkK_m (by decide +kernel) (by decide +kernel)) ⟨s, rfl, ok, rfl⟩) rfl
  have h17 : ¬ w = 17 := of_decide_eq_false h
  have s03 := s02.trans s3
  refine b_when (N := N) (t := decide (w = 18)) ((evt_eqI (ev_name (i := 1) rfl hv2) ev_int).to (nat_eq (b := 18))) (sm.trans s03) (fun h H4 s4 => ?_) (fun h H4 s4 => ?_)
  · have h : w = 18 := of_decide_eq_true h
    subst h
    exact end_readX (res := mKnown s l) nc sm (s03.trans s4) (ka.more (Same.refl N) ((s03.trans s4) c)) (fun ob hk s2 => evx_meth M.known T.kC (hr.mono (by decide)) hx (fs := keeperF s) (ev_name (i := 0) rfl hk) (lkK_m (by decide +kernel) (by decide +kernel)) (ea_cons (P := isI l) (ev_name (i := 2) rfl ((isI l).mono s2 hv3)) ea_nil) ⟨s, l, rfl, ok, hl, rfl⟩) rfl er
  have h18 : ¬ w = 18 := of_decide_eq_false h
  have s04 := s03.trans s4
  refine b_when (N := N) (t := decide (w = 19)) ((evt_eqI (ev_name (i := 1) rfl hv2) ev_int).to (nat_eq (b := 19))) (sm.trans s04) (fun h H5 s5 => ?_) (fun h H5 s5 => ?_)
  · have h : w = 19 := of_decide_eq_true h
    subst h
    exact end_readX (res := mLinked s l) nc sm (s04.trans s5) (ka.more (Same.refl N) ((s04.trans s5) c)) (fun ob hk s2 => evx_meth M.linked T.kC (hr.mono (by decide)) hx (fs := keeperF s) (ev_name (i := 0) rfl hk) (lkK_m (by decide +kernel) (by decide +kernel)) (ea_cons (P := isI l) (ev_name (i := 2) rfl ((isI l).mono s2 hv3)) ea_nil) ⟨s, l, rfl, ok, hl, rfl⟩) rfl er
  have h19 : ¬ w = 19 := of_decide_eq_false h
  have s05 := s04.trans s5
  refine b_when (N := N) (t := decide (w = 20)) ((evt_eqI (ev_name (i := 1) rfl hv2) ev_int).to (nat_eq (b := 20))) (sm.trans s05) (fun h H6 s6 => ?_) (fun h H6 s6 => ?_)
  · have h : w = 20 := of_decide_eq_true h
    subst h
    exact end_readX (res := mValue s l) nc sm (s05.trans s6) (ka.more (Same.refl N) ((s05.trans s6) c)) (fun ob hk s2 => evx_meth M.value T.kC (hr.mono (by decide)) hx (fs := keeperF s) (ev_name (i := 0) rfl hk) (lkK_m (by decide +kernel) (by decide +kernel)) (ea_cons (P := isI l) (ev_name (i := 2) rfl ((isI l).mono s2 hv3)) ea_nil) ⟨s, l, rfl, ok, hl, rfl⟩) rfl er
  have h20 : ¬ w = 20 := of_decide_eq_false h
  have s06 := s05.trans s6
  refine b_when (N := N) (t := decide (w = 21)) ((evt_eqI (ev_name (i := 1) rfl hv2) ev_int).to (nat_eq (b := 21))) (sm.trans s06) (fun h H7 s7 => ?_) (fun h H7 s7 => ?_)
  · have h : w = 21 := of_decide_eq_true h
    subst h
    exact end_read nc sm (s06.trans s7) (ka.more (Same.refl N) ((s06.trans s7) c)) (fun ob hk s2 => ev_meth0 M.told T.kC (hr.mono (by decide)) (fs := keeperF s) (ev_name (i := 0) rfl hk) (lkK_m (by decide +kernel) (by decide +kernel)) ⟨s, rfl, ok, rfl⟩) rfl
  have h21 : ¬ w = 21 := of_decide_eq_false h
  have s07 := s06.trans s7
  have h : w = 22 := by omega
  subst h
  exact end_readX (res := mWays s l) nc sm s07 (ka.more (Same.refl N) (s07 c)) (fun ob hk s2 => evx_meth M.ways T.kC (hr.mono (by decide)) hx (fs := keeperF s) (ev_name (i := 0) rfl hk) (lkK_m (by decide +kernel) (by decide +kernel)) (ea_cons (P := isI l) (ev_name (i := 2) rfl ((isI l).mono s2 hv3)) ea_nil) ⟨s, l, rfl, ok, hl, rfl⟩) rfl er
end
end PB
namespace PB
open PySem PySem.Spec PyProof.Rows L2
local macro_rules | `(tactic| walk_at "at") => `(tactic| first | exact at0 _ | exact at1 _ | rfl | assumption)
local macro_rules | `(tactic| walk_at "p") => `(tactic| first | assumption | exact (rfl : (is _).p _ _))
local macro_rules | `(tactic| walk_at "nm") => `(tactic| first
  | exact ev_glob (by assumption) (by first | exact ⟨_, rfl⟩ | rfl)
  | exact ev_nameI (by rfl) rfl (by walk_at "p"))
local macro_rules | `(tactic| walk_at "ev") => `(tactic| first
  | (with_reducible show Ev _ (PySem.Expr.Constant _ _ _) _ _ _); first | exact ev_int | exact ev_non | exact ev_bool | exact ev_str
  | (with_reducible show Ev _ (PySem.Expr.Name _ _) _ _ _); walk_at "nm"
  | (with_reducible show Ev _ (PySem.Expr.Subscript _ _ _) _ _ _); first | exact ev_ixT (by walk_at "ev") (by walk_at "ev") (by walk_at "at") | exact ev_ixL (by walk_at "ev") (by walk_at "ev") (by walk_at "at")
  | (with_reducible show Ev _ (PySem.Expr.Tuple _ _ _) _ _ _); exact ev_tup (by walk_at "ea")
  | (with_reducible show Ev _ (PySem.Expr.UnaryOp PySem.UnaryOp.USub _ _) _ _ _); exact ev_neg (by walk_at "ev")
  | (with_reducible show Ev _ (PySem.Expr.Compare _ [PySem.CmpOp.Eq] _ _) _ _ _); exact ev_eqI (by walk_at "ev") (by walk_at "ev")
  | (with_reducible show Ev _ (PySem.Expr.Compare _ [PySem.CmpOp.NotEq] _ _) _ _ _); exact ev_neI (by walk_at "ev") (by walk_at "ev"))
local macro_rules | `(tactic| walk_at "ea") => `(tactic| first
  | (with_reducible show EvA _ [] _ _ _); exact ea_nil
  | exact ea_cons (by walk_at "ev") (by walk_at "ea"))
local macro_rules | `(tactic| walk_at "et") => `(tactic| first
  | (with_reducible show EvT _ (PySem.Expr.Compare _ [PySem.CmpOp.Eq] _ _) _ _ _); exact evt_eqI (by walk_at "ev") (by walk_at "ev")
  | (with_reducible show EvT _ (PySem.Expr.Compare _ [PySem.CmpOp.NotEq] _ _) _ _ _); exact evt_neI (by walk_at "ev") (by walk_at "ev")
  | (with_reducible show EvT _ (PySem.Expr.Compare _ [PySem.CmpOp.Lt] _ _) _ _ _); exact evt_ltI (by walk_at "ev") (by walk_at "ev")
  | (with_reducible show EvT _ (PySem.Expr.Compare _ [PySem.CmpOp.LtE] _ _) _ _ _); exact evt_leI (by walk_at "ev") (by walk_at "ev")
  | (with_reducible show EvT _ (PySem.Expr.Compare _ [PySem.CmpOp.Gt] _ _) _ _ _); exact evt_gtI (by walk_at "ev") (by walk_at "ev")
  | (with_reducible show EvT _ (PySem.Expr.Compare _ [PySem.CmpOp.GtE] _ _) _ _ _); exact evt_geI (by walk_at "ev") (by walk_at "ev"))
/-! ### books.py: told_by, answers -/
abbrev sToldBy : Stmt := top 65
theorem scToldBy : FnScope ["keeper", "word", "numbers", "row", "e"] ["keeper", "word", "numbers", "row"] (defScope sToldBy) := ⟨rfl, rfl, rfl, by decide +kernel, rfl, by decide +kernel, by decide +kernel⟩
noncomputable def mCall (s : KS) (w : Nat) (l row : List Int) : ResM := if w < 15 then mEarly s w l else mLate s w l row
noncomputable def mToldBy (s : KS) (w : Nat) (l row : List Int) : KS × List Int := match mCall s w l row with
  | .ok p => p
  | .error i => (s, [i])
noncomputable def RToldBy : KS → List VP → Except Int (KS × VP) → Prop := fun s Ps r => ∃ (w : Nat) (l row : List Int), Ps = [I (w : Int), isI l, isI row] ∧ w < 23 ∧ l.length = NUM w ∧ row.length < 100000 ∧ okS s ∧ r = outM (.ok (mToldBy s w l row))
def rLt : R2 := rI0 fun i j => .bl (decide (i < j))
def tb_told (CE CK : Addr) (W : WX) : TS :=
  tSeq (tIfS (tTest (tOp rLt (tVar 1) (tC (.int 15)))) (tRet (tCallS (SpK CE CK REarly) (WE W) (tCons (tVar 0) (tCons (tVar 1) (tCons (tVar 2) tNil))))) tNext) (tRet (tCallS (SpK CE CK RLate) (WE W) (tCons (tVar 0) (tCons (tVar 1) (tCons (tVar 2) (tCons (tVar 3) tNil))))))
theorem if_true_of' {c : Bool} {A B : Prop} (hc : c = true) (h : A) : if c = true then A else B := by rw [if_pos hc]; exact h
theorem if_false_of' {c : Bool} {A B : Prop} (hc : c = false) (h : B) : if c = true then A else B := by rw [hc, if_neg Bool.false_ne_true]; exact h
def ts_told (CE : Addr) : Addr → Value → Option Addr → TS := fun a cls d => tRet (tLst (tCons (tAnsRef CE a cls d (tVar 4)) tNil))
section
variable {P : Program} {w : World} {K : PySem.W.Frag} {mg : Str → Option Value} {base : Heap} {CJ CG CR CK CE fI : Addr} {f : Addr} {fd : FuncData}
theorem ok_toldBy (F : Fun K "told_by" "told_by" sToldBy f fd) (T : Txt K mg CJ CG CR CK) (T2 : Txt2 K w mg CE fI) (GE : GF P w K mg base (L2.CX P w) 11 "early" ["keeper", "word", "numbers"] (SpK CE CK REarly)) (GL : GF P w K mg base (L2.CX P w) 11 "late" ["keeper", "word", "numbers", "row"] (SpK CE CK RLate)) :
    FnOk P w K mg base CX0 12 f fd ["keeper", "word", "numbers", "row"] (SpM CE CK keeperF RToldBy) := by
  obtain ⟨fe, fde, GE, hme, hke, hbe⟩ := GE
  obtain ⟨fl, fdl, GL, hml, hkl, hbl⟩ := GL
  obtain ⟨t1, g1⟩ := T.cCHECK
  refine F.ok scToldBy (fun vs H Q E h => ?_) (fun cdv A outer st H vs Q E hr h => ⟨_, pss_one (ps_try_as (i := 4) (tb := tb_told CE CK) (ts := ts_told CE) (Wout := fun _ _ _ _ => False) rfl rfl scToldBy.nd rfl rfl ⟨rfl, by decide, Or.inl T2.ref.gC⟩ takes0
      (fun W pn xe tk _ => pss_cons (ps_if (pt_cmpR op_lt (pv 1) (pe_glob (by rfl) g1 ⟨_, rfl⟩ (by rfl)) (nomark _)) (pss_one (ps_ret (by exact (pe_callS GE hr rfl hme hke hbe (fun σ => passAt tk σ) (by exact (pa_cons (pv 0) (pa_cons (pv 1) (pa_cons (pv 2) pa_nil)))))))) pss_nil)
        (pss_one (ps_ret (by exact (pe_callS GL hr rfl hml hkl hbl (fun σ => passAt tk σ) (by exact (pa_cons (pv 0) (pa_cons (pv 1) (pa_cons (pv 2) (pa_cons (pv 3) pa_nil))))))))))
      (fun a oe cls d pn hz hf => pss_one (ps_ret (pe_lst (by exact (pa_cons (pe_ansRef T2.ref hz hf (pv 4)) pa_nil)))))), ?_⟩)
  · obtain ⟨c, args, s, Ps, r, N, rfl, ⟨_, _, _, rfl, _⟩, _, _, _, p, _⟩ := h
    rw [List.length_cons, paired_len p]; rfl
  · obtain ⟨c, args, s, Ps, r, N, rfl, ⟨w, l, row, rfl, hw, hl, hrow, ok, rfl⟩, nc, sm, ka, p, q, _⟩ := h
    obtain ⟨v2, v3, v4, rfl, hv2, hv3, hv4⟩ := paired3 p
    have hv2 : v2 = .int (w : Int) := hv2
    subst hv2
    have good : ∀ b P, outM (mCall s w l row) = .ok (b, P) → ∀ v N' H', But c N H N' H' → Kat CK c (keeperF b) N' H' → P.p v N' → Q v H' := fun b P e v N' H' bt k pv => by
      obtain ⟨out, e1, rfl⟩ := outM_inv e
      refine q b (isI out) ?_ v N' H' bt k pv
      unfold mToldBy
      rw [e1]
      rfl
    have fin : ∀ i, outM (mCall s w l row) = .error i → ∀ H', Same H H' → ∀ pz, H' pz = none → Q (.ref pz) (upd H' pz (.lst [.int i])) := fun i e H' s' pz hp => by
      have e1 := outM_errinv e
      have g : Grow N H (upd N pz (.lst [.int i])) (upd H' pz (.lst [.int i])) := (Grow.keep sm s').trans (.new (sm.trans s') hp)
      refine q s (isI [i]) ?_ (.ref pz) _ _ (.of g) (ka.more g.nn (g.hh c)) ⟨pz, [.int i], rfl, upd_same, .cons rfl .nil⟩
      unfold mToldBy
      rw [e1]
      rfl
    refine ⟨_, rfl, _, _, rfl, rfl, _, rfl, ?_⟩
    by_cases hc : w < 15
    · refine if_true_of' (decide_eq_true (by omega)) ?_
      have em : mCall s w l row = mEarly s w l := if_pos hc
      rw [em] at good fin
      refine ⟨_, rfl, _, rfl, _, rfl, c, _, s, [I (w : Int), isI l], outM (mEarly s w l), N, rfl, ⟨w, l, rfl, hc, hl, ok, rfl⟩, nc, sm, ka, .cons rfl (.cons hv3 .nil), good, fun i e d H' s' hd => ⟨true, T2.ref.te, fun _ a0 _ => ?_, fun q => Bool.noConfusion q⟩⟩
      exact ⟨_, rfl, rfl, rfl, d, _, rfl, hd, by show 1 ≤ sizeLine; decide, fun pz hp => fin i e H' s' pz hp⟩
    · refine if_false_of' (decide_eq_false (by omega)) ?_
      have em : mCall s w l row = mLate s w l row := if_neg hc
      rw [em] at good fin
      refine ⟨_, rfl, _, rfl, _, rfl, _, rfl, c, _, s, [I (w : Int), isI l, isI row], outM (mLate s w l row), N, rfl, ⟨w, l, row, rfl, by omega, hw, hl, hrow, ok, rfl⟩, nc, sm, ka, .cons rfl (.cons hv3 (.cons hv4 .nil)), good, fun i e d H' s' hd => ⟨true, T2.ref.te, fun _ a0 _ => ?_, fun q => Bool.noConfusion q⟩⟩
      exact ⟨_, rfl, rfl, rfl, d, _, rfl, hd, by show 1 ≤ sizeLine; decide, fun pz hp => fin i e H' s' pz hp⟩
end
end PB
namespace PB
/-! ### the plain law: the run -/
def e2N (i : Int) : Option Nat := if i = -1 then none else some i.toNat
def toJ (j : MJ) : Vbkoab.Join := ⟨j.e, e2N j.e2, j.t.1, j.t.2⟩
theorem e2N_nat (n : Nat) : e2N (n : Int) = some n := by unfold e2N; rw [if_neg (by omega)]; rfl
/-! lists by places -/
abbrev evD : Piece := .same 0 0
def evAt (evs : List Piece) (n : Nat) : Piece := evs.getD n evD
theorem evAt_get {evs : List Piece} {n : Nat} (h : n < evs.length) : evs[n]? = some (evAt evs n) := by
  unfold evAt
  rw [List.getD_eq_getElem?_getD, List.getElem?_eq_getElem h]
  rfl
theorem numbered_map (evs : List Piece) : Vbkoab.numbered evs = (List.range evs.length).map fun n => (n, evAt evs n) := by
  unfold Vbkoab.numbered
  refine List.ext_getElem (by simp) fun i h1 h2 => ?_
  have hi : i < evs.length := by simpa using h2
  rw [List.getElem_zip, List.getElem_map, List.getElem_range]
  have := evAt_get hi
  rw [List.getElem?_eq_getElem hi] at this
  rw [Option.some.inj this]
theorem flatMap_same {α β : Type} {f g : α → List β} : ∀ {l : List α}, (∀ a ∈ l, f a = g a) → l.flatMap f = l.flatMap g
  | [], _ => rfl
  | a :: r, h => by rw [List.flatMap_cons, List.flatMap_cons, h a (by simp), flatMap_same (l := r) fun b hb => h b (by simp [hb])]
theorem filterMap_same {α β : Type} {f g : α → Option β} : ∀ {l : List α}, (∀ a ∈ l, f a = g a) → l.filterMap f = l.filterMap g
  | [], _ => rfl
  | a :: r, h => by rw [List.filterMap_cons, List.filterMap_cons, h a (by simp), filterMap_same (l := r) fun b hb => h b (by simp [hb])]
theorem findSome_same {α β : Type} {f g : α → Option β} : ∀ {l : List α}, (∀ a ∈ l, f a = g a) → l.findSome? f = l.findSome? g
  | [], _ => rfl
  | a :: r, h => by rw [List.findSome?_cons, List.findSome?_cons, h a (by simp), findSome_same (l := r) fun b hb => h b (by simp [hb])]
theorem find_same {α : Type} {f g : α → Bool} : ∀ {l : List α}, (∀ a ∈ l, f a = g a) → l.find? f = l.find? g
  | [], _ => rfl
  | a :: r, h => by rw [List.find?_cons, List.find?_cons, h a (by simp), find_same (l := r) fun b hb => h b (by simp [hb])]
theorem range_past (s : Nat) : ∀ L : Nat, (List.range L).filter (fun n => decide (s < n)) = (List.range (L - (s + 1))).map fun i => s + 1 + i
  | 0 => by simp
  | L + 1 => by
    rw [List.range_succ, List.filter_append, range_past s L]
    by_cases h : s < L
    · have e : L + 1 - (s + 1) = (L - (s + 1)) + 1 := by omega
      have e2 : s + 1 + (L - (s + 1)) = L := by omega
      rw [e, List.range_succ, List.map_append]
      simp [h, e2]
    · have e : L + 1 - (s + 1) = L - (s + 1) := by omega
      rw [e]; simp [h]
/-! all joins -/
theorem byOne_eq (g : List Nat) (n : Nat) (e : Piece) (h : inTwos e = false) (evs : List Piece) (hn : evs[n]? = some e) : ((mAlone evs n).toList.filter fun j => j.needs.all fun t => Vbkoab.one g t.1 t.2).map toJ = (Vbkoab.byOne g n e).toList := by
  unfold mAlone
  rw [hn]
  cases e with
  | same x y => rfl
  | differ x y => rfl
  | link x f y => cases h
  | key x k v => cases h
  | single x k v => rfl
  | if_ x y u v =>
    show (([(⟨n, -1, (u, v), [(x, y)]⟩ : MJ)].filter fun j => j.needs.all fun t => Vbkoab.one g t.1 t.2).map toJ) = (if Vbkoab.one g x y = true then some (⟨n, none, u, v⟩ : Vbkoab.Join) else none).toList
    cases q : Vbkoab.one g x y <;> simp [q, toJ, e2N]
  | both x y p q u v =>
    show (([(⟨n, -1, (u, v), [(x, y), (p, q)]⟩ : MJ)].filter fun j => j.needs.all fun t => Vbkoab.one g t.1 t.2).map toJ) = (if (Vbkoab.one g x y && Vbkoab.one g p q) = true then some (⟨n, none, u, v⟩ : Vbkoab.Join) else none).toList
    cases q1 : Vbkoab.one g x y <;> cases q2 : Vbkoab.one g p q <;> simp [q1, q2, toJ, e2N]
theorem byTwo_eq (g : List Nat) (n m : Nat) (a b : Piece) : (((byTwo a b).map fun t => (⟨n, (m : Int), t, conds2 a b⟩ : MJ)).filter fun j => j.needs.all fun t => Vbkoab.one g t.1 t.2).map toJ = Vbkoab.byTwo g n m a b := by
  cases a <;> cases b <;> try rfl
  · rename_i x f y z h w
    show (((if f = h then some (y, w) else none).map fun t => (⟨n, (m : Int), t, [(x, z)]⟩ : MJ)).filter fun j => j.needs.all fun t => Vbkoab.one g t.1 t.2).map toJ = (if f = h ∧ Vbkoab.one g x z = true then some (⟨n, some m, y, w⟩ : Vbkoab.Join) else none)
    by_cases hf : f = h
    · cases q : Vbkoab.one g x z <;> simp [hf, q, toJ, e2N_nat, Option.filter]
    · simp [hf]
  · rename_i x k v z j w
    show (((if k = j ∧ v = w then some (x, z) else none).map fun t => (⟨n, (m : Int), t, []⟩ : MJ)).filter fun j => j.needs.all fun t => Vbkoab.one g t.1 t.2).map toJ = (if k = j ∧ v = w then some (⟨n, some m, x, z⟩ : Vbkoab.Join) else none)
    by_cases hf : k = j ∧ v = w
    · simp [hf, toJ, e2N_nat, Option.filter]
    · simp [hf]
theorem joinsIn_eq (g : List Nat) (evs : List Piece) : Vbkoab.joinsIn g evs = ((mEvery evs).filter fun j => j.needs.all fun t => Vbkoab.one g t.1 t.2).map toJ := by
  unfold Vbkoab.joinsIn mEvery
  rw [numbered_map, List.flatMap_map, List.filter_flatMap, List.map_flatMap]
  refine flatMap_same fun n hn => ?_
  have hn : n < evs.length := List.mem_range.mp hn
  have en := evAt_get hn
  have l2 : ((List.range evs.length).map fun n => (n, evAt evs n)).filter (fun t => decide (n < t.1)) = (List.range (evs.length - (n + 1))).map fun i => (n + 1 + i, evAt evs (n + 1 + i)) := by
    rw [List.filter_map]
    have := range_past n evs.length
    show List.map _ ((List.range evs.length).filter fun m => decide (n < m)) = _
    rw [this, List.map_map]
    rfl
  show (Vbkoab.byOne g n (evAt evs n)).toList ++ (((List.range evs.length).map fun n => (n, evAt evs n)).filter (fun t => decide (n < t.1))).filterMap (fun t => Vbkoab.byTwo g n t.1 (evAt evs n) t.2) = _
  rw [l2, List.filterMap_map]
  unfold mFrom
  rw [en]
  show _ = List.map toJ (List.filter _ (if inTwos (evAt evs n) = true then _ else _))
  cases hk : inTwos (evAt evs n) with
  | true =>
    rw [if_pos rfl, List.filter_filterMap, List.map_filterMap]
    have e0 : (Vbkoab.byOne g n (evAt evs n)).toList = [] := by
      cases q : evAt evs n <;> rw [q] at hk <;> first | rfl | cases hk
    rw [e0, List.nil_append]
    refine filterMap_same fun i hi => ?_
    have hi : n + 1 + i < evs.length := by have := List.mem_range.mp hi; omega
    show Vbkoab.byTwo g n (n + 1 + i) (evAt evs n) (evAt evs (n + 1 + i)) = _
    unfold mTwo
    rw [en, evAt_get hi]
    exact (byTwo_eq g n (n + 1 + i) _ _).symm
  | false =>
    rw [if_neg (by decide), byOne_eq g n _ hk evs en]
    have e0 : (List.range (evs.length - (n + 1))).filterMap ((fun t : Nat × Piece => Vbkoab.byTwo g n t.1 (evAt evs n) t.2) ∘ fun i => (n + 1 + i, evAt evs (n + 1 + i))) = [] := by
      rw [List.filterMap_eq_nil_iff]
      intro i _
      show Vbkoab.byTwo g n (n + 1 + i) (evAt evs n) (evAt evs (n + 1 + i)) = none
      cases q : evAt evs n <;> rw [q] at hk <;> first | rfl | cases hk
    rw [e0, List.append_nil]
theorem nextJoin_eq (g : List Nat) (evs : List Piece) : Vbkoab.nextJoin g evs = ((mEvery evs).find? (cond g)).map toJ := by
  unfold Vbkoab.nextJoin
  rw [joinsIn_eq, List.find?_map, List.find?_filter]
  congr 1
  refine find_same fun j _ => ?_
  unfold cond
  show decide ((j.needs.all fun t => Vbkoab.one g t.1 t.2) = true ∧ (!Vbkoab.one g j.t.1 j.t.2) = true) = _
  cases (j.needs.all fun t => Vbkoab.one g t.1 t.2) <;> cases Vbkoab.one g j.t.1 j.t.2 <;> rfl
theorem runFrom_eq (evs : List Piece) : ∀ (k : Nat) (g : List Nat) (l : List MJ), Vbkoab.runFrom evs k g (l.map toJ) = ((mRunFrom (mEvery evs) k g l).1, (mRunFrom (mEvery evs) k g l).2.map toJ)
  | 0, g, l => rfl
  | k + 1, g, l => by
    unfold Vbkoab.runFrom
    rw [nextJoin_eq]
    cases e : (mEvery evs).find? (cond g) with
    | none => rw [mRunFrom_none e]; rfl
    | some j =>
      rw [mRunFrom_some e]
      show Vbkoab.runFrom evs k (Vbkoab.united g j.t.1 j.t.2) (l.map toJ ++ [toJ j]) = _
      rw [← runFrom_eq evs k, List.map_append]
      rfl
theorem leaders_pos {n : Nat} {g : List Nat} {js : List MJ} (h : RunInv n g js) (hn : 0 < n) : 0 < (leaders g).length := by
  refine List.length_pos_of_mem (a := 0) ?_
  unfold leaders
  rw [List.mem_filter, List.mem_range]
  have := h.le 0 hn
  exact ⟨by rw [h.len]; exact hn, by rw [beq_iff_eq]; omega⟩
theorem mRunFrom_fuel {n : Nat} {every : List MJ} (ok : ∀ j ∈ every, okJ n j) : ∀ (k1 k2 : Nat) (g : List Nat) (js : List MJ), RunInv n g js → (leaders g).length ≤ k1 + 1 → (leaders g).length ≤ k2 + 1 → mRunFrom every k1 g js = mRunFrom every k2 g js := by
  intro k1
  induction k1 with
  | zero =>
    intro k2 g js R h1 h2
    cases e : every.find? (cond g) with
    | none => rw [mRunFrom_none e, mRunFrom_none e]
    | some j =>
      exfalso
      have o := ok j (List.mem_of_find?_eq_some e)
      have R2 := R.step o (List.find?_some e)
      have hp := leaders_pos R2 (by have := o.1.1; omega)
      have hc := List.find?_some e
      have : (leaders (Vbkoab.united g j.t.1 j.t.2)).length + (js ++ [j]).length = n := R2.cnt
      have c := R.cnt
      rw [List.length_append] at this
      simp at this
      omega
  | succ k1 ih =>
    intro k2 g js R h1 h2
    cases e : every.find? (cond g) with
    | none => rw [mRunFrom_none e, mRunFrom_none e]
    | some j =>
      have o := ok j (List.mem_of_find?_eq_some e)
      have R2 := R.step o (List.find?_some e)
      have hp := leaders_pos R2 (by have := o.1.1; omega)
      have : (leaders (Vbkoab.united g j.t.1 j.t.2)).length + (js ++ [j]).length = n := R2.cnt
      have c := R.cnt
      rw [List.length_append] at this
      simp at this
      cases k2 with
      | zero => exfalso; omega
      | succ k2 =>
        rw [mRunFrom_some e, mRunFrom_some e]
        exact ih k2 _ _ R2 (by omega) (by omega)
theorem range_sum_ge : ∀ n : Nat, n ≤ (List.range n).sum + 1
  | 0 => Nat.zero_le _
  | n + 1 => by
    rw [List.range_succ, List.sum_append]
    have := range_sum_ge n
    have e : [n].sum = n := by simp
    omega
theorem run_eq {n : Nat} {evs : List Piece} (h : okEvs n evs) : Vbkoab.run n evs = ((mRun n evs).1, (mRun n evs).2.map toJ) := by
  unfold Vbkoab.run Vbkoab.alone
  have := runFrom_eq evs n (List.range n) []
  rw [List.map_nil] at this
  rw [this]
  have R := RunInv.start n
  have e : mRunFrom (mEvery evs) n (List.range n) [] = mRun n evs := by
    unfold mRun
    have c := R.cnt
    simp at c
    exact mRunFrom_fuel (mEvery_ok h) _ _ _ _ R (by omega) (by have := range_sum_ge n; omega)
  rw [e]
theorem closure_eq {n : Nat} {evs : List Piece} (h : okEvs n evs) : Vbkoab.closure n evs = (mRun n evs).1 := by
  unfold Vbkoab.closure
  rw [run_eq h]
/-! the told clash -/
def toC (c : MC) : Vbkoab.Clash := ⟨c.e, e2N c.e2, c.t.1, c.t.2⟩
theorem findSome_past {β : Type} (s : Nat) (f : Nat → Option β) (h0 : ∀ n, n ≤ s → f n = none) : ∀ L : Nat, (List.range L).findSome? f = (List.range (L - (s + 1))).findSome? fun i => f (s + 1 + i)
  | 0 => by simp
  | L + 1 => by
    rw [List.range_succ, List.findSome?_append, findSome_past s f h0 L]
    by_cases h : s < L
    · have e : L + 1 - (s + 1) = (L - (s + 1)) + 1 := by omega
      have e2 : s + 1 + (L - (s + 1)) = L := by omega
      rw [e, List.range_succ, List.findSome?_append]
      congr 1
      simp [e2]
    · have e : L + 1 - (s + 1) = L - (s + 1) := by omega
      rw [e]
      simp [h0 L (by omega)]
theorem clash_eq' (g : List Nat) (evs : List Piece) : ((Vbkoab.numbered evs).findSome? fun s => Vbkoab.clashAt g evs s.1 s.2) = (mClash evs g).map toC := by
  unfold mClash
  rw [numbered_map, List.findSome?_map, List.map_findSome?]
  refine findSome_same fun n hn => ?_
  have hn : n < evs.length := List.mem_range.mp hn
  show Vbkoab.clashAt g evs n (evAt evs n) = (mClashFrom evs g n).map toC
  unfold mClashFrom
  rw [evAt_get hn]
  cases q : evAt evs n with
  | differ x y =>
    show (if Vbkoab.one g x y = true then some _ else none) = Option.map toC (if Vbkoab.one g x y = true then some _ else none)
    cases Vbkoab.one g x y <;> rfl
  | single x k v =>
    show ((Vbkoab.numbered evs).findSome? fun t => if t.1 ≤ n then none else match t.2 with
      | .single z j w => if k = j ∧ v ≠ w ∧ Vbkoab.one g x z = true then some (⟨n, some t.1, x, z⟩ : Vbkoab.Clash) else none
      | _ => none) = Option.map toC ((List.range (evs.length - (n + 1))).findSome? fun i => mClashTwo evs g n (.single x k v) (n + 1 + i))
    rw [numbered_map, List.findSome?_map, findSome_past n _ (fun m hm => by show (if m ≤ n then none else _) = none; rw [if_pos hm]), List.map_findSome?]
    refine findSome_same fun i hi => ?_
    have hi : n + 1 + i < evs.length := by have := List.mem_range.mp hi; omega
    show (if n + 1 + i ≤ n then none else match evAt evs (n + 1 + i) with
      | .single z j w => if k = j ∧ v ≠ w ∧ Vbkoab.one g x z = true then some (⟨n, some (n + 1 + i), x, z⟩ : Vbkoab.Clash) else none
      | _ => none) = Option.map toC (mClashTwo evs g n (.single x k v) (n + 1 + i))
    rw [if_neg (by omega)]
    unfold mClashTwo
    rw [evAt_get hi]
    cases evAt evs (n + 1 + i) with
    | single z j w =>
      show (if k = j ∧ v ≠ w ∧ Vbkoab.one g x z = true then _ else none) = Option.map toC (if ((decide (k = j) && !decide (v = w)) && Vbkoab.one g x z) = true then some _ else none)
      by_cases h : k = j ∧ v ≠ w ∧ Vbkoab.one g x z = true
      · obtain ⟨h1, h2, h3⟩ := h
        have h2' : ¬ v = w := h2
        simp [h1, h2', h3, toC, evX, e2N]
        omega
      · rw [if_neg h, if_neg]
        · rfl
        · intro z
          simp only [Bool.and_eq_true, decide_eq_true_eq, Bool.not_eq_true', decide_eq_false_iff_not] at z
          exact h ⟨z.1.1, z.1.2, z.2⟩
    | _ => simp [disag]
  | _ => rfl
theorem clash_eq {n : Nat} {evs : List Piece} (h : okEvs n evs) : Vbkoab.clash n evs = (mClash evs (mRun n evs).1).map toC := by
  unfold Vbkoab.clash
  rw [closure_eq h]
  exact clash_eq' _ _
theorem clashes_eq {n : Nat} {evs : List Piece} (h : okEvs n evs) : Vbkoab.clashes n evs = (mClash evs (mRun n evs).1).isSome := by
  unfold Vbkoab.clashes
  rw [clash_eq h, Option.isSome_map]
end PB
namespace PB
/-! ### the plain law: what a joining needs -/
/-- the edges of a list of numbered joins -/
abbrev NJ := List (Nat × Vbkoab.Join)
/-- L holds joins of js, each by its number -/
def OfJs (js : List MJ) (L : NJ) : Prop := ∀ p ∈ L, ∃ j, js[p.1]? = some j ∧ p.2 = toJ j
def ids (L : NJ) : Nat → Prop := fun i => ∃ p ∈ L, p.1 = i
def without (L : NJ) (i : Nat) : NJ := L.filter fun p => p.1 != i
theorem ids_without {L : NJ} {i k : Nat} : ids (without L i) k ↔ ids L k ∧ k ≠ i := by
  unfold ids without
  constructor
  · rintro ⟨p, hp, rfl⟩
    have := List.mem_filter.mp hp
    exact ⟨⟨p, this.1, rfl⟩, by simpa using this.2⟩
  · rintro ⟨⟨p, hp, rfl⟩, hk⟩
    exact ⟨p, List.mem_filter.mpr ⟨hp, by simpa using hk⟩, rfl⟩
theorem OfJs.less {js : List MJ} {L : NJ} (h : OfJs js L) (i : Nat) : OfJs js (without L i) := fun p hp => h p (List.mem_filter.mp hp).1
theorem without_len {L : NJ} {i : Nat} (h : ids L i) : (without L i).length < L.length := by
  obtain ⟨p, hp, rfl⟩ := h
  unfold without
  refine Nat.lt_of_le_of_ne (List.length_filter_le _ _) fun e => ?_
  have := (List.length_filter_eq_length_iff.mp e) p hp
  simp at this
theorem Conn.nil {js : List MJ} {S : Nat → Prop} {a b : Nat} (h : Conn js S a b) (hs : ∀ i, ¬ S i) : a = b := by
  cases h with
  | refl _ => rfl
  | step e _ => obtain ⟨i, _, _, s, _⟩ := e; exact absurd s (hs i)
/-- by an edge, or without it -/
theorem Conn.splitAt {js : List MJ} {S : Nat → Prop} {i : Nat} {j : MJ} (hj : js[i]? = some j) {a b : Nat} (h : Conn js S a b) :
    Conn js (fun k => S k ∧ k ≠ i) a b ∨ (Conn js (fun k => S k ∧ k ≠ i) a j.t.1 ∧ Conn js (fun k => S k ∧ k ≠ i) j.t.2 b) ∨ (Conn js (fun k => S k ∧ k ≠ i) a j.t.2 ∧ Conn js (fun k => S k ∧ k ≠ i) j.t.1 b) := by
  induction h with
  | refl _ => exact .inl (.refl _)
  | step e _ ih =>
    obtain ⟨k, q, h1, h2, h3⟩ := e
    by_cases hk : k = i
    · subst hk
      rw [hj] at h1
      cases h1
      rcases h3 with ⟨rfl, rfl⟩ | ⟨rfl, rfl⟩
      · rcases ih with c | ⟨c1, c2⟩ | ⟨c1, c2⟩
        · exact .inr (.inl ⟨.refl _, c⟩)
        · exact .inr (.inl ⟨.refl _, c2⟩)
        · exact .inl c2
      · rcases ih with c | ⟨c1, c2⟩ | ⟨c1, c2⟩
        · exact .inr (.inr ⟨.refl _, c⟩)
        · exact .inl c2
        · exact .inr (.inr ⟨.refl _, c2⟩)
    · have ed : Conn js (fun k => S k ∧ k ≠ i) _ _ := .one ⟨k, q, h1, ⟨h2, hk⟩, h3⟩
      rcases ih with c | ⟨c1, c2⟩ | ⟨c1, c2⟩
      · exact .inl (ed.trans c)
      · exact .inr (.inl ⟨ed.trans c1, c2⟩)
      · exact .inr (.inr ⟨ed.trans c1, c2⟩)
/-- the first edge of a way that never comes back by it -/
theorem first_edge {js : List MJ} : ∀ (n : Nat) (L : NJ), L.length ≤ n → OfJs js L → ∀ {x y : Nat}, Conn js (ids L) x y → x = y ∨ ∃ i j b, js[i]? = some j ∧ ids L i ∧ ((j.t.1 = x ∧ j.t.2 = b) ∨ (j.t.1 = b ∧ j.t.2 = x)) ∧ Conn js (ids (without L i)) b y := by
  intro n
  induction n with
  | zero =>
    intro L hl _ x y h
    have : L = [] := List.eq_nil_of_length_eq_zero (by omega)
    subst this
    exact .inl (h.nil fun i ⟨p, hp, _⟩ => by cases hp)
  | succ n ih =>
    intro L hl ho x y h
    cases h with
    | refl _ => exact .inl rfl
    | @step _ b _ e h =>
      obtain ⟨i, j, hj, hi, ht⟩ := e
      have up : ∀ {a c : Nat}, Conn js (fun k => ids L k ∧ k ≠ i) a c → Conn js (ids (without L i)) a c := fun q => q.mono fun k hk => ids_without.mpr hk
      have go : Conn js (ids (without L i)) b y → x = y ∨ ∃ i j b, js[i]? = some j ∧ ids L i ∧ ((j.t.1 = x ∧ j.t.2 = b) ∨ (j.t.1 = b ∧ j.t.2 = x)) ∧ Conn js (ids (without L i)) b y := fun q => .inr ⟨i, j, b, hj, hi, ht, q⟩
      have back : Conn js (ids (without L i)) x y → x = y ∨ ∃ i j b, js[i]? = some j ∧ ids L i ∧ ((j.t.1 = x ∧ j.t.2 = b) ∨ (j.t.1 = b ∧ j.t.2 = x)) ∧ Conn js (ids (without L i)) b y := fun q => by
        rcases ih (without L i) (by have := without_len hi; omega) (ho.less i) q with e | ⟨i', j', b', h1, h2, h3, h4⟩
        · exact .inl e
        · exact .inr ⟨i', j', b', h1, (ids_without.mp h2).1, h3, h4.mono fun k hk => ids_without.mpr ⟨(ids_without.mp (ids_without.mp hk).1).1, (ids_without.mp hk).2⟩⟩
      rcases h.splitAt hj with c | ⟨c1, c2⟩ | ⟨c1, c2⟩
      · exact go (up c)
      · rcases ht with ⟨t1, t2⟩ | ⟨t1, t2⟩
        · exact go (by rw [t2] at c2; exact up c2)
        · exact back (by rw [t2] at c2; exact up c2)
      · rcases ht with ⟨t1, t2⟩ | ⟨t1, t2⟩
        · exact back (by rw [t1] at c2; exact up c2)
        · exact go (by rw [t1] at c2; exact up c2)
/-- what a way is: joins from one to the other, each once -/
inductive Trail (js : List MJ) : Nat → Nat → List Nat → Prop
  | nil (x : Nat) : Trail js x x []
  | cons {x b y i : Nat} {j : MJ} {l : List Nat} : js[i]? = some j → ((j.t.1 = x ∧ j.t.2 = b) ∨ (j.t.1 = b ∧ j.t.2 = x)) → i ∉ l → Trail js b y l → Trail js x y (i :: l)
theorem Trail.conn {js : List MJ} {x y : Nat} {l : List Nat} (h : Trail js x y l) : Conn js (· ∈ l) x y := by
  induction h with
  | nil x => exact .refl _
  | cons hj ht _ _ ih => exact .step ⟨_, _, hj, List.mem_cons_self, ht⟩ (ih.mono fun k hk => List.mem_cons_of_mem _ hk)
theorem Trail.sep {js : List MJ} (hf : Forest js) {x y : Nat} {l : List Nat} (h : Trail js x y l) : ∀ i ∈ l, Sep js (x, y) i := by
  induction h with
  | nil x => intro i hi; cases hi
  | @cons x b y i j l hj ht hn tr ih =>
    intro k hk
    rcases List.mem_cons.mp hk with rfl | hk
    · refine ⟨(List.getElem?_eq_some_iff.mp hj).1, fun q => ?_⟩
      have c : Conn js (fun m => m ≠ k) b y := tr.conn.mono fun m hm e => hn (by rw [← e]; exact hm)
      have q' : Conn js (fun m => m ≠ k) x b := Conn.trans q c.symm
      rcases ht with ⟨t1, t2⟩ | ⟨t1, t2⟩
      · exact hf k j hj (by rw [t1, t2]; exact q')
      · exact hf k j hj (by rw [t1, t2]; exact q'.symm)
    · have s := ih k hk
      refine ⟨s.1, fun q => s.2 ?_⟩
      have ne : i ≠ k := fun e => hn (by rw [e]; exact hk)
      have ed : Conn js (fun m => m ≠ k) x b := .one ⟨i, j, hj, ne, ht⟩
      exact ed.symm.trans q
theorem Trail.iff {js : List MJ} (hf : Forest js) {x y : Nat} {l : List Nat} (h : Trail js x y l) (i : Nat) : i ∈ l ↔ Sep js (x, y) i := by
  refine ⟨h.sep hf i, fun q => ?_⟩
  by_cases hi : i ∈ l
  · exact hi
  · exact absurd (h.conn.mono fun k hk (e : k = i) => hi (by rw [← e]; exact hk)) q.2
/-! the specification's way -/
theorem findSome_some {α β : Type} {f : α → Option β} {l : List α} {a : α} (ha : a ∈ l) (h : (f a).isSome = true) : (l.findSome? f).isSome = true := by
  rw [List.findSome?_isSome_iff]
  exact ⟨a, ha, h⟩
theorem wayBy_trail {js : List MJ} : ∀ (k : Nat) (L : NJ), OfJs js L → ∀ {x y : Nat} {l : List Nat}, Vbkoab.wayBy k L x y = some l → Trail js x y l ∧ ∀ i ∈ l, ids L i := by
  intro k
  induction k with
  | zero =>
    intro L ho x y l h
    unfold Vbkoab.wayBy at h
    by_cases e : x = y
    · rw [if_pos e] at h
      cases h
      subst e
      exact ⟨.nil _, fun i hi => by cases hi⟩
    · rw [if_neg e] at h; cases h
  | succ k ih =>
    intro L ho x y l h
    unfold Vbkoab.wayBy at h
    by_cases e : x = y
    · rw [if_pos e] at h
      cases h
      subst e
      exact ⟨.nil _, fun i hi => by cases hi⟩
    · rw [if_neg e] at h
      obtain ⟨p, hp, hq⟩ := List.exists_of_findSome?_eq_some h
      obtain ⟨j, hj, ej⟩ := ho p hp
      have fin : ∀ b, ((j.t.1 = x ∧ j.t.2 = b) ∨ (j.t.1 = b ∧ j.t.2 = x)) → (Vbkoab.wayBy k (L.filter fun i => i.1 != p.1) b y).map (fun l => p.1 :: l) = some l → Trail js x y l ∧ ∀ i ∈ l, ids L i := fun b ht hm => by
        obtain ⟨l0, h0, rfl⟩ := Option.map_eq_some_iff.mp hm
        obtain ⟨t, hi⟩ := ih (without L p.1) (ho.less p.1) h0
        refine ⟨.cons hj ht (fun q => ?_) t, fun i hi' => ?_⟩
        · exact (ids_without.mp (hi _ q)).2 rfl
        · rcases List.mem_cons.mp hi' with rfl | hi'
          · exact ⟨p, hp, rfl⟩
          · exact (ids_without.mp (hi _ hi')).1
      have ea : p.2.a = j.t.1 := by rw [ej]; rfl
      have eb : p.2.b = j.t.2 := by rw [ej]; rfl
      by_cases h1 : p.2.a = x
      · rw [if_pos h1] at hq
        exact fin _ (.inl ⟨by rw [← ea]; exact h1, eb.symm⟩) hq
      · rw [if_neg h1] at hq
        by_cases h2 : p.2.b = x
        · rw [if_pos h2] at hq
          exact fin _ (.inr ⟨ea.symm, by rw [← eb]; exact h2⟩) hq
        · rw [if_neg h2] at hq; cases hq
theorem wayBy_found {js : List MJ} (hf : Forest js) : ∀ (k : Nat) (L : NJ), L.length ≤ k → OfJs js L → ∀ {x y : Nat}, Conn js (ids L) x y → (Vbkoab.wayBy k L x y).isSome = true := by
  intro k
  induction k with
  | zero =>
    intro L hl ho x y h
    have : L = [] := List.eq_nil_of_length_eq_zero (by omega)
    subst this
    have e : x = y := h.nil fun i ⟨p, hp, _⟩ => by cases hp
    unfold Vbkoab.wayBy
    rw [if_pos e]; rfl
  | succ k ih =>
    intro L hl ho x y h
    unfold Vbkoab.wayBy
    by_cases e : x = y
    · rw [if_pos e]; rfl
    · rw [if_neg e]
      rcases first_edge _ L (Nat.le_refl _) ho h with e' | ⟨i, j, b, hj, hi, ht, hc⟩
      · exact absurd e' e
      · obtain ⟨p, hp, rfl⟩ := id hi
        obtain ⟨j', hj', ej⟩ := ho p hp
        rw [hj] at hj'
        cases hj'
        have r := ih (without L p.1) (by have := without_len hi; omega) (ho.less p.1) hc
        refine findSome_some hp ?_
        have ea : p.2.a = j.t.1 := by rw [ej]; rfl
        have eb : p.2.b = j.t.2 := by rw [ej]; rfl
        rcases ht with ⟨t1, t2⟩ | ⟨t1, t2⟩
        · rw [if_pos (by rw [ea]; exact t1), eb, t2, Option.isSome_map]
          exact r
        · have ne : ¬ p.2.a = x := fun z => by
            refine hf p.1 j hj ?_
            rw [← ea, z, t2]
            exact .refl _
          rw [if_neg ne, if_pos (by rw [eb]; exact t2), ea, t1, Option.isSome_map]
          exact r
/-- the joins below a number -/
theorem numbered_js (js : List MJ) (below : Nat) : OfJs js ((Vbkoab.numbered (js.map toJ)).take below) ∧ (∀ i, ids ((Vbkoab.numbered (js.map toJ)).take below) i ↔ i < below ∧ i < js.length) ∧ ((Vbkoab.numbered (js.map toJ)).take below).length ≤ js.length := by
  have get : ∀ i, i < js.length → (Vbkoab.numbered (js.map toJ))[i]? = some (i, toJ (js.getD i ⟨0, 0, (0, 0), []⟩)) := fun i hi => by
    unfold Vbkoab.numbered
    rw [List.getElem?_zip_eq_some]
    constructor
    · rw [List.getElem?_range (by simpa using hi)]
    · rw [List.getElem?_map, List.getD_eq_getElem?_getD, List.getElem?_eq_getElem hi]
      rfl
  have len : (Vbkoab.numbered (js.map toJ)).length = js.length := by unfold Vbkoab.numbered; simp
  have mem : ∀ p, p ∈ (Vbkoab.numbered (js.map toJ)).take below ↔ ∃ i, i < below ∧ i < js.length ∧ p = (i, toJ (js.getD i ⟨0, 0, (0, 0), []⟩)) := fun p => by
    rw [List.mem_iff_getElem?]
    constructor
    · rintro ⟨i, hi⟩
      rw [List.getElem?_take] at hi
      by_cases hb : i < below
      · rw [if_pos hb] at hi
        have hl : i < js.length := by
          have := (List.getElem?_eq_some_iff.mp hi).1
          omega
        rw [get i hl] at hi
        cases hi
        exact ⟨i, hb, hl, rfl⟩
      · rw [if_neg hb] at hi; cases hi
    · rintro ⟨i, hb, hl, rfl⟩
      exact ⟨i, by rw [List.getElem?_take, if_pos hb, get i hl]⟩
  refine ⟨fun p hp => ?_, fun i => ?_, ?_⟩
  · obtain ⟨i, _, hl, rfl⟩ := (mem p).mp hp
    refine ⟨js.getD i ⟨0, 0, (0, 0), []⟩, ?_, rfl⟩
    show js[i]? = _
    rw [List.getD_eq_getElem?_getD, List.getElem?_eq_getElem hl]
    rfl
  · constructor
    · rintro ⟨p, hp, rfl⟩
      obtain ⟨i, hb, hl, rfl⟩ := (mem p).mp hp
      exact ⟨hb, hl⟩
    · rintro ⟨hb, hl⟩
      exact ⟨_, (mem _).mpr ⟨i, hb, hl, rfl⟩, rfl⟩
  · rw [List.length_take, len]
    exact Nat.min_le_right _ _
/-- what a join of the run knows of its evidence -/
def Prem (evs : List Piece) (j : MJ) : Prop := Vbkoab.premises evs (toJ j) = j.needs
/-- a run's joins: their needs are joined by joins ahead -/
structure RunJs (evs : List Piece) (js : List MJ) : Prop where
  forest : Forest js
  prem : ∀ j ∈ js, Prem evs j
  ahead : ∀ (i : Nat) (j : MJ), js[i]? = some j → ∀ s ∈ j.needs, Conn js (· < i) s.1 s.2
theorem flat_mem {α β : Type} {f : α → List β} {l : List α} {b : β} : b ∈ l.flatMap f ↔ ∃ a, a ∈ l ∧ b ∈ f a := List.mem_flatMap
theorem needs_iff {evs : List Piece} {js : List MJ} (R : RunJs evs js) : ∀ (f below x y : Nat), below < f → below ≤ js.length → Conn js (· < below) x y → ∀ i, i ∈ Vbkoab.needs evs (js.map toJ) f below x y ↔ Need js (x, y) i := by
  intro f
  induction f with
  | zero => intro below x y h; omega
  | succ f ih =>
    intro below x y hf hb hc i
    obtain ⟨ho, hid, hlen⟩ := numbered_js js below
    have hc' : Conn js (ids ((Vbkoab.numbered (js.map toJ)).take below)) x y := by
      have : ∀ {a b : Nat}, Conn js (· < below) a b → Conn js (ids ((Vbkoab.numbered (js.map toJ)).take below)) a b := fun q => q.mono fun k hk => (hid k).mpr ⟨hk, by omega⟩
      exact this hc
    have hs := wayBy_found R.forest (js.map toJ).length _ (by rw [List.length_map]; exact hlen) ho hc'
    obtain ⟨l, hl⟩ := Option.isSome_iff_exists.mp hs
    obtain ⟨tr, hin⟩ := wayBy_trail _ _ ho hl
    unfold Vbkoab.needs
    rw [hl]
    show i ∈ (l.flatMap fun i => i :: _) ↔ _
    have deep : ∀ k ∈ l, ∃ j, js[k]? = some j ∧ (∀ i, i ∈ (match (js.map toJ)[k]? with
        | none => []
        | some j => (Vbkoab.premises evs j).flatMap fun t : Nat × Nat => Vbkoab.needs evs (js.map toJ) f k t.1 t.2) ↔ ∃ s, s ∈ j.needs ∧ Need js s i) := fun k hk => by
      have hk2 := (hid k).mp (hin k hk)
      obtain ⟨j, hj⟩ : ∃ j, js[k]? = some j := ⟨_, List.getElem?_eq_getElem hk2.2⟩
      refine ⟨j, hj, fun i => ?_⟩
      rw [List.getElem?_map, hj]
      show i ∈ (Vbkoab.premises evs (toJ j)).flatMap _ ↔ _
      rw [R.prem j (List.mem_of_getElem? hj), flat_mem]
      constructor
      · rintro ⟨s, hs, hi⟩
        exact ⟨s, hs, (ih k s.1 s.2 (by omega) (by omega) (R.ahead k j hj s hs) i).mp hi⟩
      · rintro ⟨s, hs, hi⟩
        exact ⟨s, hs, (ih k s.1 s.2 (by omega) (by omega) (R.ahead k j hj s hs) i).mpr hi⟩
    rw [flat_mem]
    constructor
    · rintro ⟨k, hk, hi⟩
      rcases List.mem_cons.mp hi with rfl | hi
      · exact .way ((tr.iff R.forest i).mp hk)
      · obtain ⟨j, hj, hd⟩ := deep k hk
        obtain ⟨s, hs, hn⟩ := (hd i).mp hi
        exact .deep ((tr.iff R.forest k).mp hk) hj hs hn
    · intro h
      cases h with
      | way h => exact ⟨i, (tr.iff R.forest i).mpr h, List.mem_cons_self⟩
      | @deep _ s k _ j h hj hs hn =>
        have hk := (tr.iff R.forest k).mpr h
        obtain ⟨j', hj', hd⟩ := deep k hk
        rw [hj] at hj'
        cases hj'
        exact ⟨k, hk, List.mem_cons_of_mem _ ((hd i).mpr ⟨s, hs, hn⟩)⟩
theorem Conn.inside {js : List MJ} {a b : Nat} (h : Conn js Any a b) : Conn js (· < js.length) a b := by
  induction h with
  | refl _ => exact .refl _
  | step e _ ih =>
    obtain ⟨i, j, hj, _, ht⟩ := e
    exact .step ⟨i, j, hj, (List.getElem?_eq_some_iff.mp hj).1, ht⟩ ih
theorem needed_eq {evs : List Piece} {js : List MJ} (R : RunJs evs js) {x y : Nat} (h : Conn js Any x y) : Vbkoab.needed evs (js.map toJ) x y = mNeeded js (x, y) := by
  classical
  unfold Vbkoab.needed mNeeded
  rw [List.length_map]
  refine List.filter_congr fun i _ => ?_
  have := needs_iff R (js.length + 1) js.length x y (by omega) (Nat.le_refl _) h.inside i
  by_cases q : Need js (x, y) i
  · rw [decide_eq_true q, List.contains_iff_mem.mpr (this.mpr q)]
  · rw [decide_eq_false q]
    cases e : (Vbkoab.needs evs (js.map toJ) (js.length + 1) js.length x y).contains i with
    | false => rfl
    | true => exact absurd (this.mp (List.contains_iff_mem.mp e)) q
/-! a run's joins are so -/
theorem prem_alone {evs : List Piece} {n : Nat} {j : MJ} (h : mAlone evs n = some j) : Prem evs j := by
  unfold mAlone at h
  cases e : evs[n]? with
  | none => rw [e] at h; cases h
  | some p =>
    rw [e] at h
    obtain ⟨t, ht, rfl⟩ := Option.map_eq_some_iff.mp h
    unfold Prem Vbkoab.premises
    show (match evs[n]?, (none : Option Nat).bind fun k => evs[k]? with
      | some (.link x _ _), some (.link z _ _) => [(x, z)]
      | some (.if_ x y _ _), _ => [(x, y)]
      | some (.both x y p q _ _), _ => [(x, y), (p, q)]
      | _, _ => []) = conds p
    rw [e]
    cases p <;> rfl
theorem prem_two {evs : List Piece} {n m : Nat} {j : MJ} (h : mTwo evs n m = some j) : Prem evs j := by
  unfold mTwo at h
  cases e : evs[n]? with
  | none => rw [e] at h; cases h
  | some p =>
    cases e2 : evs[m]? with
    | none => rw [e, e2] at h; cases h
    | some q =>
      rw [e, e2] at h
      obtain ⟨t, ht, rfl⟩ := Option.map_eq_some_iff.mp h
      unfold Prem Vbkoab.premises
      show (match evs[n]?, (e2N (m : Int)).bind fun k => evs[k]? with
        | some (.link x _ _), some (.link z _ _) => [(x, z)]
        | some (.if_ x y _ _), _ => [(x, y)]
        | some (.both x y p q _ _), _ => [(x, y), (p, q)]
        | _, _ => []) = conds2 p q
      rw [e2N_nat]
      show (match evs[n]?, evs[m]? with
        | some (.link x _ _), some (.link z _ _) => [(x, z)]
        | some (.if_ x y _ _), _ => [(x, y)]
        | some (.both x y p q _ _), _ => [(x, y), (p, q)]
        | _, _ => []) = conds2 p q
      rw [e, e2]
      cases p <;> cases q <;> first | rfl | cases ht
theorem prem_every {evs : List Piece} : ∀ j ∈ mEvery evs, Prem evs j := by
  intro j hj
  unfold mEvery at hj
  obtain ⟨n, _, hn⟩ := flat_mem.mp hj
  unfold mFrom at hn
  cases e : evs[n]? with
  | none => rw [e] at hn; cases hn
  | some p =>
    rw [e] at hn
    replace hn : j ∈ (if inTwos p = true then (List.range (evs.length - (n + 1))).filterMap fun i => mTwo evs n (n + 1 + i) else (mAlone evs n).toList) := hn
    by_cases h : inTwos p = true
    · rw [if_pos h] at hn
      obtain ⟨i, _, hi⟩ := List.mem_filterMap.mp hn
      exact prem_two hi
    · rw [if_neg h] at hn
      exact prem_alone (Option.mem_toList.mp hn)
theorem RunJs.from {n : Nat} {evs : List Piece} {every : List MJ} (ok : ∀ j ∈ every, okJ n j) (pr : ∀ j ∈ every, Prem evs j) : ∀ (k : Nat) {g : List Nat} {js : List MJ}, RunInv n g js → RunJs evs js → RunJs evs (mRunFrom every k g js).2
  | 0, _, _, _, h => h
  | k + 1, g, js, R, h => by
    cases e : every.find? (cond g) with
    | none => rw [mRunFrom_none e]; exact h
    | some j =>
      rw [mRunFrom_some e]
      have o := ok j (List.mem_of_find?_eq_some e)
      have hc := List.find?_some e
      have R2 := R.step o hc
      refine RunJs.from ok pr k R2 ⟨R2.forest, fun q hq => ?_, fun i q hi s hs => ?_⟩
      · rcases List.mem_append.mp hq with hq | hq
        · exact h.prem q hq
        · have : q = j := by simpa using hq
          subst this; exact pr _ (List.mem_of_find?_eq_some e)
      · by_cases hl : i < js.length
        · rw [List.getElem?_append_left hl] at hi
          exact (h.ahead i q hi s hs).app
        · have ei : i = js.length := by
            have := (List.getElem?_eq_some_iff.mp hi).1
            rw [List.length_append] at this
            simp at this
            omega
          subst ei
          rw [List.getElem?_append_right (Nat.le_refl _), Nat.sub_self] at hi
          cases hi
          have o3 := o.2.1 s hs
          unfold cond at hc
          have h2 := (Bool.and_eq_true_iff.mp hc).2
          exact ((R.conn _ _ o3.1 o3.2).mp (one_iff.mp (List.all_eq_true.mp h2 s hs))).inside.app
theorem run_js {n : Nat} {evs : List Piece} (h : okEvs n evs) : RunJs evs (mRun n evs).2 :=
  RunJs.from (mEvery_ok h) prem_every _ (RunInv.start n) ⟨fun i j h => by simp at h, fun j h => by simp at h, fun i j h => by simp at h⟩
theorem needed_run {n : Nat} {evs : List Piece} (h : okEvs n evs) {x y : Nat} (hx : x < n) (hy : y < n) (h1 : Vbkoab.one (mRun n evs).1 x y = true) : Vbkoab.needed evs ((mRun n evs).2.map toJ) x y = mNeeded (mRun n evs).2 (x, y) := needed_eq (run_js h) ((run_conn h hx hy).mp h1)
end PB
namespace PB
/-! ### the plain law: cores, groupings, proofs handed in -/
theorem coreFrom_same {evs : List Piece} {h1 h2 : List Piece → Bool} (h : ∀ es : List Piece, (∀ e ∈ es, e ∈ evs) → h1 es = h2 es) : ∀ (i : Nat) (l : List Nat), Vbkoab.coreFrom evs h1 i l = Vbkoab.coreFrom evs h2 i l
  | 0, l => rfl
  | i + 1, l => by
    unfold Vbkoab.coreFrom
    have e : h1 ((l.filter fun k => k != i).filterMap fun k => evs[k]?) = h2 ((l.filter fun k => k != i).filterMap fun k => evs[k]?) := h _ fun e he => by
      obtain ⟨k, _, hk⟩ := List.mem_filterMap.mp he
      exact List.mem_of_getElem? hk
    simp only [e]
    exact coreFrom_same h i _
theorem core_same {evs : List Piece} {h1 h2 : List Piece → Bool} (h : ∀ es : List Piece, (∀ e ∈ es, e ∈ evs) → h1 es = h2 es) : Vbkoab.core evs h1 = Vbkoab.core evs h2 := coreFrom_same h _ _
theorem okEvs_sub {n : Nat} {evs es : List Piece} (h : okEvs n evs) (k : ∀ e ∈ es, e ∈ evs) : okEvs n es := fun e he => h e (k e he)
/-! two lists, item by item -/
inductive Pw {α β : Type} (R : α → β → Prop) : List α → List β → Prop
  | nil : Pw R [] []
  | cons {a : α} {b : β} {xs : List α} {ys : List β} : R a b → Pw R xs ys → Pw R (a :: xs) (b :: ys)
section
variable {α β γ δ : Type} {R : α → β → Prop} {S : γ → δ → Prop}
theorem Pw.len {xs : List α} {ys : List β} (h : Pw R xs ys) : xs.length = ys.length := by
  induction h with
  | nil => rfl
  | cons _ _ ih => rw [List.length_cons, List.length_cons, ih]
theorem Pw.app {xs : List α} {ys : List β} {xs' : List α} {ys' : List β} (h : Pw R xs ys) (k : Pw R xs' ys') : Pw R (xs ++ xs') (ys ++ ys') := by
  induction h with
  | nil => exact k
  | cons r _ ih => exact .cons r ih
theorem Pw.flat {f : α → List γ} {g : β → List δ} {xs : List α} {ys : List β} (h : Pw R xs ys) (k : ∀ a b, R a b → Pw S (f a) (g b)) : Pw S (xs.flatMap f) (ys.flatMap g) := by
  induction h with
  | nil => exact .nil
  | cons r _ ih => rw [List.flatMap_cons, List.flatMap_cons]; exact (k _ _ r).app ih
theorem Pw.filter {p : α → Bool} {q : β → Bool} {xs : List α} {ys : List β} (h : Pw R xs ys) (k : ∀ a b, R a b → p a = q b) : Pw R (xs.filter p) (ys.filter q) := by
  induction h with
  | nil => exact .nil
  | @cons a b _ _ r _ ih =>
    rw [List.filter_cons, List.filter_cons, k a b r]
    cases q b with
    | true => exact .cons r ih
    | false => exact ih
theorem Pw.ofRange : ∀ (ls : List α) (f : α → γ) (h : Nat → δ), (∀ k a, ls[k]? = some a → S (f a) (h k)) → Pw S (ls.map f) ((List.range ls.length).map h)
  | [], _, _, _ => .nil
  | a :: r, f, h, k => by
    rw [List.length_cons, List.range_succ_eq_map, List.map_cons, List.map_cons, List.map_map]
    exact .cons (k 0 a rfl) (Pw.ofRange r f (h ∘ Nat.succ) fun i b hb => k (i + 1) b (by simpa using hb))
end
/-! groupings -/
theorem at_app_lt {g : List Nat} {r x : Nat} (h : x < g.length) : at' (g ++ [r]) x = at' g x := by
  show List.getD _ x x = List.getD _ x x
  rw [List.getD_eq_getElem?_getD, List.getD_eq_getElem?_getD, List.getElem?_append_left h]
theorem at_app_eq {g : List Nat} {r : Nat} : at' (g ++ [r]) g.length = r := by
  show List.getD _ _ _ = r
  rw [List.getD_eq_getElem?_getD]
  simp
theorem leaders_app {g : List Nat} {r : Nat} : leaders (g ++ [r]) = leaders g ++ (if r = g.length then [g.length] else []) := by
  unfold leaders
  rw [List.length_append, List.length_singleton, List.range_succ, List.filter_append]
  congr 1
  · exact List.filter_congr fun x hx => by rw [at_app_lt (List.mem_range.mp hx)]
  · by_cases h : r = g.length
    · rw [if_pos h]
      simp [at_app_eq, h]
    · rw [if_neg h]
      simp [at_app_eq, h]
structure Rel (n : Nat) (g row : List Nat) : Prop where
  gl : g.length = n
  rl : row.length = n
  top : top1 row = (leaders g).length
  lk : ∀ x, x < n → ∃ k, row[x]? = some k ∧ (leaders g)[k]? = some (at' g x)
theorem top1_app (row : List Nat) (k : Nat) : top1 (row ++ [k]) = max (top1 row) (k + 1) := by
  unfold top1
  rw [List.foldl_append]
  rfl
theorem leaders_nodup (g : List Nat) : (leaders g).Nodup := List.Pairwise.filter _ List.nodup_range
theorem leaders_lt {g : List Nat} {r : Nat} (h : r ∈ leaders g) : r < g.length := List.mem_range.mp (List.mem_filter.mp h).1
theorem Rel.kid {n : Nat} {g row : List Nat} (h : Rel n g row) {k r : Nat} (hk : (leaders g)[k]? = some r) : Rel (n + 1) (g ++ [r]) (row ++ [k]) := by
  obtain ⟨gl, rl, top, lk⟩ := h
  subst gl
  have hr := leaders_lt (List.mem_of_getElem? hk)
  have el : leaders (g ++ [r]) = leaders g := by rw [leaders_app, if_neg (by omega), List.append_nil]
  have kl := (List.getElem?_eq_some_iff.mp hk).1
  refine ⟨by simp, by simp [rl], by rw [top1_app, el, top]; omega, fun x hx => ?_⟩
  rw [el]
  by_cases h : x < g.length
  · obtain ⟨k', h1, h2⟩ := lk x h
    exact ⟨k', by rw [List.getElem?_append_left (by omega)]; exact h1, by rw [at_app_lt h]; exact h2⟩
  · have : x = g.length := by omega
    subst this
    refine ⟨k, ?_, by rw [at_app_eq]; exact hk⟩
    rw [List.getElem?_append_right (by omega), rl]
    simp
theorem Rel.new {n : Nat} {g row : List Nat} (h : Rel n g row) : Rel (n + 1) (g ++ [n]) (row ++ [(leaders g).length]) := by
  obtain ⟨gl, rl, top, lk⟩ := h
  subst gl
  have el : leaders (g ++ [g.length]) = leaders g ++ [g.length] := by rw [leaders_app, if_pos rfl]
  refine ⟨by simp, by simp [rl], by rw [top1_app, el, top, List.length_append, List.length_singleton]; omega, fun x hx => ?_⟩
  rw [el]
  by_cases h : x < g.length
  · obtain ⟨k', h1, h2⟩ := lk x h
    exact ⟨k', by rw [List.getElem?_append_left (by omega)]; exact h1, by rw [at_app_lt h, List.getElem?_append_left (List.getElem?_eq_some_iff.mp h2).1]; exact h2⟩
  · have : x = g.length := by omega
    subst this
    refine ⟨(leaders g).length, ?_, ?_⟩
    · rw [List.getElem?_append_right (by omega), rl]
      simp
    · rw [at_app_eq, List.getElem?_append_right (Nat.le_refl _), Nat.sub_self]
      rfl
theorem groupings_rel : ∀ n : Nat, Pw (Rel n) (Vbkoab.groupings n) (mAll n)
  | 0 => .cons ⟨rfl, rfl, rfl, fun x h => by omega⟩ .nil
  | n + 1 => by
    show Pw _ ((Vbkoab.groupings n).flatMap _) ((mAll n).flatMap mKids)
    refine (groupings_rel n).flat fun g row h => ?_
    have e : mKids row = (List.range (leaders g).length).map (fun k => row ++ [k]) ++ [row ++ [(leaders g).length]] := by
      unfold mKids
      rw [h.top, List.range_succ, List.map_append]
      rfl
    have e2 : ((List.range n).filter fun x => g.getD x x == x) = leaders g := by unfold leaders; rw [h.gl]
    rw [e, e2]
    exact (Pw.ofRange (leaders g) (fun r => g ++ [r]) (fun k => row ++ [k]) fun k r hk => h.kid hk).app (.cons h.new .nil)
theorem Rel.one {n : Nat} {g row : List Nat} (h : Rel n g row) {x y : Nat} (hx : x < n) (hy : y < n) : Vbkoab.one g x y = Vbkoab.one row x y := by
  obtain ⟨k1, a1, b1⟩ := h.lk x hx
  obtain ⟨k2, a2, b2⟩ := h.lk y hy
  have c1 : at' row x = k1 := by show List.getD _ _ _ = _; rw [List.getD_eq_getElem?_getD, a1]; rfl
  have c2 : at' row y = k2 := by show List.getD _ _ _ = _; rw [List.getD_eq_getElem?_getD, a2]; rfl
  rw [Bool.eq_iff_iff, one_iff, one_iff, c1, c2]
  constructor
  · intro e
    rw [← e] at b2
    exact (List.getElem?_inj (List.getElem?_eq_some_iff.mp b1).1 (leaders_nodup g)).mp (b1.trans b2.symm)
  · rintro rfl
    rw [b1] at b2
    exact Option.some.inj b2
/-! what fits -/
theorem heldAlone_eq (g : List Nat) (e : Piece) : Vbkoab.heldAlone g e = mOneF g e := by
  cases e <;> try rfl
  · rename_i x y u v
    show (!Vbkoab.one g x y || Vbkoab.one g u v) = (!(Vbkoab.one g x y && true) || Vbkoab.one g u v)
    simp
  · rename_i x y p q u v
    show (!(Vbkoab.one g x y && Vbkoab.one g p q) || Vbkoab.one g u v) = (!(Vbkoab.one g x y && (Vbkoab.one g p q && true)) || Vbkoab.one g u v)
    simp
theorem heldBoth_eq (g : List Nat) (a b : Piece) : Vbkoab.heldBoth g a b = (!bnd a b || mTwoF g a b) := by
  cases a <;> cases b <;> try rfl
  · rename_i x f y z h w
    show ((f != h) || (!Vbkoab.one g x z || Vbkoab.one g y w)) = (!(false || (if f = h then some (y, w) else none).isSome) || (if false = true then _ else holds g [(x, z)] (if f = h then some (y, w) else none)))
    by_cases e : f = h
    · simp [e, holds]
    · simp [e]
  · rename_i x k v z j w
    show (!(k == j && v == w) || Vbkoab.one g x z) = (!(false || (if k = j ∧ v = w then some (x, z) else none).isSome) || (if false = true then _ else holds g [] (if k = j ∧ v = w then some (x, z) else none)))
    by_cases e : k = j
    · by_cases e2 : v = w
      · simp [e, e2, holds]
      · simp [e, e2]
    · simp [e]
  · rename_i x k v z j w
    show (!(k == j && v != w) || !Vbkoab.one g x z) = (!((decide (k = j) && !decide (v = w)) || false) || (if (decide (k = j) && !decide (v = w)) = true then !Vbkoab.one g x z else true))
    by_cases e : k = j
    · by_cases e2 : v = w
      · simp [e, e2]
      · simp [e, e2]
    · simp [e]
theorem beqN (a b : Nat) : (a == b) = (b == a) := by
  rw [Bool.eq_iff_iff, beq_iff_eq, beq_iff_eq]
  exact eq_comm
theorem one_symm (g : List Nat) (x y : Nat) : Vbkoab.one g x y = Vbkoab.one g y x := by
  rw [Bool.eq_iff_iff, one_iff, one_iff]
  exact eq_comm
theorem one_self (g : List Nat) (x : Nat) : Vbkoab.one g x x = true := one_iff.mpr rfl
theorem heldBoth_symm (g : List Nat) (a b : Piece) (h : Vbkoab.heldBoth g a b = true) : Vbkoab.heldBoth g b a = true := by
  cases a <;> cases b <;> try exact h
  · rename_i x f y z h' w
    have h : ((f != h') || (!Vbkoab.one g x z || Vbkoab.one g y w)) = true := h
    show ((h' != f) || (!Vbkoab.one g z x || Vbkoab.one g w y)) = true
    rw [one_symm g z x, one_symm g w y]
    by_cases e : f = h'
    · subst e; exact h
    · have : h' ≠ f := fun z => e z.symm
      simp [this]
  · rename_i x k v z j w
    have h : (!(k == j && v == w) || Vbkoab.one g x z) = true := h
    show (!(j == k && w == v) || Vbkoab.one g z x) = true
    rw [one_symm g z x, beqN j k, beqN w v]
    exact h
  · rename_i x k v z j w
    have h : (!(k == j && v != w) || !Vbkoab.one g x z) = true := h
    show (!(j == k && w != v) || !Vbkoab.one g z x) = true
    have : (w != v) = (v != w) := by unfold bne; rw [beqN w v]
    rw [one_symm g z x, beqN j k, this]
    exact h
theorem heldBoth_self (g : List Nat) (a : Piece) : Vbkoab.heldBoth g a a = true := by
  cases a <;> try rfl
  · rename_i x f y
    show ((f != f) || (!Vbkoab.one g x x || Vbkoab.one g y y)) = true
    rw [one_self, one_self]
    simp
  · rename_i x k v
    show (!(k == k && v == v) || Vbkoab.one g x x) = true
    rw [one_self]
    simp
  · rename_i x k v
    show (!(k == k && v != v) || !Vbkoab.one g x x) = true
    simp
theorem mem_bound {evs : List Piece} {i k : Nat} {a b : Piece} (ha : evs[i]? = some a) (hb : evs[k]? = some b) (hik : i < k) (h : bnd a b = true) : (a, b) ∈ mBound evs := by
  unfold mBound
  refine flat_mem.mpr ⟨i, List.mem_range.mpr (List.getElem?_eq_some_iff.mp ha).1, ?_⟩
  rw [ha]
  show (a, b) ∈ mBoundAt evs i a
  unfold mBoundAt
  refine List.mem_map.mpr ⟨b, List.mem_filter.mpr ⟨?_, h⟩, rfl⟩
  refine List.mem_of_getElem? (i := k - (i + 1)) ?_
  rw [List.getElem?_drop]
  have : i + 1 + (k - (i + 1)) = k := by omega
  rw [this]
  exact hb
theorem bound_mem {evs : List Piece} {p : Piece × Piece} (h : p ∈ mBound evs) : p.1 ∈ evs ∧ p.2 ∈ evs ∧ bnd p.1 p.2 = true := by
  unfold mBound at h
  obtain ⟨n, _, hn⟩ := flat_mem.mp h
  cases e : evs[n]? with
  | none => rw [e] at hn; cases hn
  | some a =>
    rw [e] at hn
    replace hn : p ∈ mBoundAt evs n a := hn
    unfold mBoundAt at hn
    obtain ⟨b, hb, rfl⟩ := List.mem_map.mp hn
    obtain ⟨h1, h2⟩ := List.mem_filter.mp hb
    exact ⟨List.mem_of_getElem? e, List.mem_of_mem_drop h1, h2⟩
theorem fits_eq (g : List Nat) (evs : List Piece) : Vbkoab.fitsIn g evs = ((evs.all fun e => mOneF g e) && (mBound evs).all fun p => mTwoF g p.1 p.2) := by
  unfold Vbkoab.fitsIn
  congr 1
  · congr 1
    funext e
    exact heldAlone_eq g e
  · rw [Bool.eq_iff_iff, List.all_eq_true, List.all_eq_true]
    constructor
    · intro h p hp
      obtain ⟨h1, h2, h3⟩ := bound_mem hp
      have := List.all_eq_true.mp (h p.1 h1) p.2 h2
      rw [heldBoth_eq, h3] at this
      simpa using this
    · intro h a ha
      refine List.all_eq_true.mpr fun b hb => ?_
      have go : ∀ {a b : Piece} {i k : Nat}, evs[i]? = some a → evs[k]? = some b → i < k → Vbkoab.heldBoth g a b = true := fun {a b i k} h1 h2 hik => by
        rw [heldBoth_eq]
        cases q : bnd a b with
        | false => rfl
        | true => exact h (a, b) (mem_bound h1 h2 hik q)
      obtain ⟨i, hi⟩ := List.getElem?_of_mem ha
      obtain ⟨k, hk⟩ := List.getElem?_of_mem hb
      rcases Nat.lt_trichotomy i k with c | c | c
      · exact go hi hk c
      · subst c
        rw [hi] at hk
        cases hk
        exact heldBoth_self g a
      · exact heldBoth_symm g b a (go hk hi c)
theorem holds_same {g row : List Nat} {cs : List (Nat × Nat)} {o : Option (Nat × Nat)} (h1 : ∀ t ∈ cs, Vbkoab.one g t.1 t.2 = Vbkoab.one row t.1 t.2) (h2 : ∀ t, o = some t → Vbkoab.one g t.1 t.2 = Vbkoab.one row t.1 t.2) : holds g cs o = holds row cs o := by
  cases o with
  | none => rfl
  | some t =>
    show (!(cs.all fun t => Vbkoab.one g t.1 t.2) || Vbkoab.one g t.1 t.2) = (!(cs.all fun t => Vbkoab.one row t.1 t.2) || Vbkoab.one row t.1 t.2)
    rw [h2 t rfl]
    congr 2
    rw [Bool.eq_iff_iff, List.all_eq_true, List.all_eq_true]
    exact ⟨fun h t ht => by rw [← h1 t ht]; exact h t ht, fun h t ht => by rw [h1 t ht]; exact h t ht⟩
theorem Rel.oneF {n : Nat} {g row : List Nat} (h : Rel n g row) {e : Piece} (he : okEv n e) : mOneF g e = mOneF row e := by
  have : holds g (conds e) (byOne e) = holds row (conds e) (byOne e) := holds_same (fun t ht => h.one ((conds_ok he).1 t ht).1 ((conds_ok he).1 t ht).2) (fun t ht => h.one (byOne_ok he ht).1 (byOne_ok he ht).2)
  cases e with
  | differ x y =>
    show (!Vbkoab.one g x y) = !Vbkoab.one row x y
    rw [h.one he.1 he.2]
  | _ => exact this
theorem Rel.twoF {n : Nat} {g row : List Nat} (h : Rel n g row) {a b : Piece} (ha : okEv n a) (hb : okEv n b) : mTwoF g a b = mTwoF row a b := by
  unfold mTwoF
  rw [h.one (evX_ok ha) (evX_ok hb), holds_same (fun t ht => h.one ((conds2_ok ha hb).1 t ht).1 ((conds2_ok ha hb).1 t ht).2) (fun t ht => h.one (byTwo_ok ha hb ht).1 (byTwo_ok ha hb ht).2)]
theorem fit_rel {n : Nat} {evs : List Piece} (h : okEvs n evs) : Pw (Rel n) ((Vbkoab.groupings n).filter fun g => Vbkoab.fitsIn g evs) (mFit n evs) := by
  unfold mFit
  rw [List.filter_filter]
  refine (groupings_rel n).filter fun g row r => ?_
  rw [fits_eq, Bool.and_comm]
  congr 1
  · rw [Bool.eq_iff_iff, List.all_eq_true, List.all_eq_true]
    have k : ∀ p ∈ mBound evs, mTwoF g p.1 p.2 = mTwoF row p.1 p.2 := fun p hp => by
      obtain ⟨h1, h2, _⟩ := bound_mem hp
      exact r.twoF (h _ h1) (h _ h2)
    exact ⟨fun q p hp => by rw [← k p hp]; exact q p hp, fun q p hp => by rw [k p hp]; exact q p hp⟩
  · rw [Bool.eq_iff_iff, List.all_eq_true, List.all_eq_true]
    exact ⟨fun q e he => by rw [← r.oneF (h e he)]; exact q e he, fun q e he => by rw [r.oneF (h e he)]; exact q e he⟩
theorem inOne_eq (g : List Nat) (a b : Nat) : inOne a b g = Vbkoab.one g a b := by
  rw [Bool.eq_iff_iff, one_iff]
  unfold inOne
  rw [decide_eq_true_eq]
  exact ⟨fun h => Int.ofNat.inj h, fun h => congrArg Int.ofNat h⟩
theorem ways_eq {n : Nat} {evs : List Piece} (h : okEvs n evs) {x y : Nat} (hx : x < n) (hy : y < n) :
    ((Vbkoab.groupings n).filter fun g => Vbkoab.fitsIn g evs).length = (mFit n evs).length ∧ (((Vbkoab.groupings n).filter fun g => Vbkoab.fitsIn g evs).filter fun g => Vbkoab.one g x y).length = ((mFit n evs).filter (inOne x y)).length := by
  have r := fit_rel h
  refine ⟨r.len, (r.filter (q := inOne x y) fun g row q => ?_).len⟩
  rw [inOne_eq]
  exact q.one hx hy
/-! the least of a group -/
theorem least_eq {n : Nat} {g : List Nat} {js : List MJ} (R : RunInv n g js) {w : Nat} (hw : w < n) : ((List.range n).find? fun z => Vbkoab.one g z w) = some (at' g w) := by
  rw [List.find?_range_eq_some]
  have l := R.le w hw
  refine ⟨one_iff.mpr (R.rep w hw), List.mem_range.mpr (by omega), fun j hj => ?_⟩
  cases q : Vbkoab.one g j w with
  | false => rfl
  | true =>
    have := one_iff.mp q
    have := R.le j (by omega)
    omega
/-! proofs handed in -/
theorem byOne_eqO (g : List Nat) (n : Nat) (e : Piece) (h : inTwos e = false) (evs : List Piece) (hn : evs[n]? = some e) : ((mAlone evs n).filter fun j => j.needs.all fun t => Vbkoab.one g t.1 t.2).map toJ = Vbkoab.byOne g n e := by
  have := byOne_eq g n e h evs hn
  cases q : mAlone evs n with
  | none =>
    rw [q] at this
    cases q2 : Vbkoab.byOne g n e with
    | none => rfl
    | some j => rw [q2] at this; simp at this
  | some j =>
    rw [q] at this
    cases q3 : (j.needs.all fun t => Vbkoab.one g t.1 t.2) with
    | true =>
      simp [q3] at this
      simp [q3, Option.filter]
      cases q2 : Vbkoab.byOne g n e with
      | none => rw [q2] at this; simp at this
      | some j => rw [q2] at this; simp at this; rw [this]
    | false =>
      simp [q3] at this
      simp [q3, Option.filter]
      exact this.symm
def inPair (m : Nat) (a b : Int) : Bool := Vbkoab.inside a 0 ((m : Int) - 1) && Vbkoab.inside b (-1) ((m : Int) - 1)
theorem mTold_in {evs : List Piece} {a b : Int} (h : inPair evs.length a b = true) (g : List Nat) : ((mTold evs a b).filter fun j => j.needs.all fun t => Vbkoab.one g t.1 t.2).map toJ = Vbkoab.joinBy g evs a.toNat (if b = -1 then none else some b.toNat) := by
  unfold inPair Vbkoab.inside at h
  simp only [Bool.and_eq_true, decide_eq_true_eq] at h
  obtain ⟨⟨h1, h2⟩, h3, h4⟩ := h
  obtain ⟨n, rfl⟩ := Int.eq_ofNat_of_zero_le h1
  have hn : n < evs.length := by omega
  unfold mTold Vbkoab.joinBy
  rw [if_neg (by omega)]
  have en := evAt_get hn
  rw [Int.toNat_natCast, en]
  by_cases hb : b = -1
  · rw [if_pos hb, if_pos hb]
    show Option.map toJ (Option.filter _ (if inTwos (evAt evs n) = true then none else mAlone evs n)) = Vbkoab.byOne g n (evAt evs n)
    cases q : inTwos (evAt evs n) with
    | true =>
      rw [if_pos rfl]
      cases q2 : evAt evs n <;> rw [q2] at q <;> first | rfl | cases q
    | false =>
      rw [if_neg (by decide)]
      exact byOne_eqO g n _ q evs en
  · rw [if_neg hb, if_neg hb]
    have hb0 : 0 ≤ b := by omega
    obtain ⟨m, rfl⟩ := Int.eq_ofNat_of_zero_le hb0
    have hm : m < evs.length := by omega
    rw [Int.toNat_natCast]
    show _ = (if m ≤ n then none else (evs[m]?).bind fun b => Vbkoab.byTwo g n m (evAt evs n) b)
    by_cases hmn : m ≤ n
    · rw [if_pos hmn, if_pos (by omega)]
      rfl
    · rw [if_neg hmn, if_neg (by omega)]
      unfold mTwo
      rw [en, evAt_get hm]
      exact byTwo_eq g n m _ _
theorem mTold_out {evs : List Piece} {a b : Int} (h : inPair evs.length a b = false) : mTold evs a b = none := by
  unfold mTold
  by_cases h1 : a < 0 ∨ (evs.length : Int) ≤ a ∨ (evs.length : Int) ≤ b
  · rw [if_pos h1]
  · rw [if_neg h1]
    have hb : b < -1 := by
      unfold inPair Vbkoab.inside at h
      simp only [Bool.and_eq_false_iff, decide_eq_false_iff_not] at h
      omega
    rw [if_neg (by omega), if_pos (by omega)]
def pairs2 : List Int → List (Int × Int)
  | a :: b :: l => (a, b) :: pairs2 l
  | _ => []
theorem mPairs_eq : ∀ l : List Int, mPairs l = pairs2 l
  | [] => rfl
  | [a] => by unfold mPairs pairs2; simp
  | a :: b :: l => by
    have ih := mPairs_eq l
    unfold mPairs at ih ⊢
    have e : (a :: b :: l).length / 2 = l.length / 2 + 1 := by simp only [List.length_cons]; omega
    rw [e, List.range_succ_eq_map, List.map_cons, List.map_map]
    show (a, b) :: _ = (a, b) :: pairs2 l
    rw [← ih]
    congr 1
/-- what the specification says of a proof -/
def specW (s : Vbkoab.State) (x y : Nat) (k : Nat) (g : List Nat) (l : List Int) : Option Nat :=
  match (Vbkoab.follow s.evs k g (Vbkoab.pairsOf (match Vbkoab.oddPair s k l with
      | none => l
      | some k' => l.take (2 * (k' - k))))), Vbkoab.oddPair s k l with
    | (_, some k'), _ => some k'
    | (_, none), some k' => some k'
    | (g', none), none => if Vbkoab.one g' x y = true then none else some (k + l.length / 2)
theorem oddPair_ge (s : Vbkoab.State) : ∀ (l : List Int) (k k' : Nat), Vbkoab.oddPair s k l = some k' → k ≤ k'
  | [], k, k', h => by cases h
  | [a], k, k', h => by cases h
  | a :: b :: l, k, k', h => by
    unfold Vbkoab.oddPair at h
    by_cases q : (Vbkoab.inside a 0 (Vbkoab.whole s.evs.length - 1) && Vbkoab.inside b (-1) (Vbkoab.whole s.evs.length - 1)) = true
    · rw [if_pos q] at h
      have := oddPair_ge s l (k + 1) k' h
      omega
    · rw [if_neg q] at h
      cases h
      exact Nat.le_refl _
theorem wrong_eq (s : Vbkoab.State) (x y : Nat) : ∀ (l : List Int) (k : Nat) (g : List Nat), l.length % 2 = 0 → specW s x y k g l = mWrongFrom s.evs (x, y) k g (pairs2 l)
  | [], k, g, _ => by
    show (if Vbkoab.one g x y = true then none else some (k + 0 / 2)) = (if Vbkoab.one g x y = true then none else some k)
    rfl
  | [a], k, g, h => by simp at h
  | a :: b :: l, k, g, h => by
    have hl : l.length % 2 = 0 := by simp only [List.length_cons] at h; omega
    show _ = (match mTold s.evs a b with
      | none => some k
      | some j => if (j.needs.all fun t => Vbkoab.one g t.1 t.2) = true then mWrongFrom s.evs (x, y) (k + 1) (Vbkoab.united g j.t.1 j.t.2) (pairs2 l) else some k)
    cases q : inPair s.evs.length a b with
    | false =>
      rw [mTold_out q]
      have e : Vbkoab.oddPair s k (a :: b :: l) = some k := by
        unfold Vbkoab.oddPair
        have q' : (Vbkoab.inside a 0 (Vbkoab.whole s.evs.length - 1) && Vbkoab.inside b (-1) (Vbkoab.whole s.evs.length - 1)) = false := q
        rw [q', if_neg (by decide)]
      unfold specW
      rw [e]
      show (match Vbkoab.follow s.evs k g (Vbkoab.pairsOf ((a :: b :: l).take (2 * (k - k)))), some k with
        | (_, some k'), _ => some k'
        | (_, none), some k' => some k'
        | (g', none), none => _) = some k
      rw [Nat.sub_self]
      rfl
    | true =>
      have e : Vbkoab.oddPair s k (a :: b :: l) = Vbkoab.oddPair s (k + 1) l := by
        show (if (Vbkoab.inside a 0 (Vbkoab.whole s.evs.length - 1) && Vbkoab.inside b (-1) (Vbkoab.whole s.evs.length - 1)) = true then _ else _) = _
        exact if_pos q
      have good : Vbkoab.pairsOf (match Vbkoab.oddPair s k (a :: b :: l) with
          | none => a :: b :: l
          | some k' => (a :: b :: l).take (2 * (k' - k))) = (a.toNat, if b = -1 then none else some b.toNat) :: Vbkoab.pairsOf (match Vbkoab.oddPair s (k + 1) l with
          | none => l
          | some k' => l.take (2 * (k' - (k + 1)))) := by
        rw [e]
        cases q2 : Vbkoab.oddPair s (k + 1) l with
        | none => rfl
        | some k' =>
          have := oddPair_ge s l (k + 1) k' q2
          have e3 : 2 * (k' - k) = 2 * (k' - (k + 1)) + 1 + 1 := by omega
          show Vbkoab.pairsOf ((a :: b :: l).take (2 * (k' - k))) = _
          rw [e3]
          rfl
      have jb := mTold_in q g
      unfold specW
      rw [good, e]
      have brk : Vbkoab.joinBy g s.evs a.toNat (if b = -1 then none else some b.toNat) = none → (match Vbkoab.follow s.evs k g ((a.toNat, if b = -1 then none else some b.toNat) :: Vbkoab.pairsOf (match Vbkoab.oddPair s (k + 1) l with
          | none => l
          | some k' => l.take (2 * (k' - (k + 1))))), Vbkoab.oddPair s (k + 1) l with
        | (_, some k'), _ => some k'
        | (_, none), some k' => some k'
        | (g', none), none => if Vbkoab.one g' x y = true then none else some (k + (a :: b :: l).length / 2)) = some k := fun hj => by
        unfold Vbkoab.follow
        show (match (match Vbkoab.joinBy g s.evs a.toNat (if b = -1 then none else some b.toNat) with
          | none => (g, some k)
          | some j => Vbkoab.follow s.evs (k + 1) (Vbkoab.united g j.a j.b) _), Vbkoab.oddPair s (k + 1) l with
          | (_, some k'), _ => some k'
          | (_, none), some k' => some k'
          | (g', none), none => _) = some k
        rw [hj]
      cases hT : mTold s.evs a b with
      | none =>
        rw [hT] at jb
        exact brk jb.symm
      | some j =>
        rw [hT] at jb
        show _ = if (j.needs.all fun t => Vbkoab.one g t.1 t.2) = true then _ else some k
        cases hN : (j.needs.all fun t => Vbkoab.one g t.1 t.2) with
        | false =>
          rw [if_neg Bool.false_ne_true]
          refine brk ?_
          rw [← jb]
          simp [Option.filter, hN]
        | true =>
          rw [if_pos rfl, ← wrong_eq s x y l (k + 1) _ hl]
          have hj : Vbkoab.joinBy g s.evs a.toNat (if b = -1 then none else some b.toNat) = some (toJ j) := by
            rw [← jb]
            simp [Option.filter, hN]
          unfold Vbkoab.follow
          show (match (match Vbkoab.joinBy g s.evs a.toNat (if b = -1 then none else some b.toNat) with
            | none => (g, some k)
            | some j => Vbkoab.follow s.evs (k + 1) (Vbkoab.united g j.a j.b) _), Vbkoab.oddPair s (k + 1) l with
            | (_, some k'), _ => some k'
            | (_, none), some k' => some k'
            | (g', none), none => _) = _
          rw [hj]
          unfold specW
          have e4 : k + (a :: b :: l).length / 2 = k + 1 + l.length / 2 := by simp only [List.length_cons]; omega
          rw [e4]
          rfl
end PB
namespace PB
open PySem (Str)
/-! ### the plain law: call by call -/
abbrev stK (s : KS) : Vbkoab.State := ⟨s.1, s.2⟩
def resM (s : KS) (r : ResM) : KS × List Int := match r with
  | .ok p => p
  | .error i => (s, [i])
def cv (p : KS × List Int) : Vbkoab.State × List Int := (stK p.1, p.2)
theorem toldBy_eq (s : KS) (w : Nat) (l row : List Int) : mToldBy s w l row = resM s (mCall s w l row) := rfl
/-! the look -/
theorem grP (x : Int) : inGreat ("person", x) = Vbkoab.inP x := by
  have : great "person" = 15 := by decide +kernel
  unfold inGreat Vbkoab.inP Vbkoab.inside
  rw [this]
theorem grF (x : Int) : inGreat ("field", x) = Vbkoab.inside x 0 3 := by
  have : great "field" = 3 := by decide +kernel
  unfold inGreat Vbkoab.inside
  rw [this]
theorem grS (x : Int) : inGreat ("sort", x) = Vbkoab.inside x 0 5 := by
  have : great "sort" = 5 := by decide +kernel
  unfold inGreat Vbkoab.inside
  rw [this]
theorem grW (x : Int) : inGreat ("worth", x) = Vbkoab.inside x 0 Vbkoab.FAR := by
  have : great "worth" = 1000000000000 := by decide +kernel
  unfold inGreat Vbkoab.inside Vbkoab.FAR
  rw [this]
theorem grE (x : Int) : inGreat ("piece", x) = Vbkoab.inside x 0 29 := by
  have : great "piece" = 29 := by decide +kernel
  unfold inGreat Vbkoab.inside
  rw [this]
theorem grC (x : Int) : inGreat ("count", x) = Vbkoab.inside x 0 30 := by
  have : great "count" = 30 := by decide +kernel
  unfold inGreat Vbkoab.inside
  rw [this]
theorem thP (n m : Nat) (x : Int) : isThere n m ("person", x) = decide (x < (n : Int)) := by
  have h1 : decide (("person" : Str) = "person") = true := by decide +kernel
  have h2 : decide (("person" : Str) = "piece") = false := by decide +kernel
  show ((!decide (("person" : Str) = "person") || decide (x < (n : Int))) && (!decide (("person" : Str) = "piece") || decide (x < (m : Int)))) = _
  rw [h1, h2]
  simp
theorem thE (n m : Nat) (x : Int) : isThere n m ("piece", x) = decide (x < (m : Int)) := by
  have h1 : decide (("piece" : Str) = "person") = false := by decide +kernel
  have h2 : decide (("piece" : Str) = "piece") = true := by decide +kernel
  show ((!decide (("piece" : Str) = "person") || decide (x < (n : Int))) && (!decide (("piece" : Str) = "piece") || decide (x < (m : Int)))) = _
  rw [h1, h2]
  simp
theorem thO (n m : Nat) (w : Str) (x : Int) (h1 : decide (w = "person") = false) (h2 : decide (w = "piece") = false) : isThere n m (w, x) = true := by
  show ((!decide (w = "person") || decide (x < (n : Int))) && (!decide (w = "piece") || decide (x < (m : Int)))) = true
  rw [h1, h2]
  rfl
theorem thF (n m : Nat) (x : Int) : isThere n m ("field", x) = true := thO n m _ x (by decide +kernel) (by decide +kernel)
theorem thS (n m : Nat) (x : Int) : isThere n m ("sort", x) = true := thO n m _ x (by decide +kernel) (by decide +kernel)
theorem thW (n m : Nat) (x : Int) : isThere n m ("worth", x) = true := thO n m _ x (by decide +kernel) (by decide +kernel)
theorem thC (n m : Nat) (x : Int) : isThere n m ("count", x) = true := thO n m _ x (by decide +kernel) (by decide +kernel)
theorem isP_eq (s : KS) (x : Int) : Vbkoab.isP (stK s) x = decide (x < (s.1 : Int)) := rfl
/-- the look, by two truths -/
theorem look_by {s : KS} {ps : List (Str × Int)} {a b : Bool} (h1 : ps.all inGreat = a) (h2 : ps.all (isThere s.1 s.2.length) = b) : mLook s ps = if a = false then some (-1) else if b = false then some (-4) else none := by
  unfold mLook
  rw [h1, h2]
  cases a <;> cases b <;> rfl
theorem add_eq (s : KS) (l : List Int) (ranges idle : Bool) (e : Piece) (ps : List (Str × Int)) (o : Option (Int × Int)) (h1 : ps.all inGreat = (Vbkoab.allIn l && ranges)) (h2 : ps.all (isThere s.1 s.2.length) = Vbkoab.allThere (stK s) l) (h3 : unlike o = !idle) :
    Vbkoab.add (stK s) l ranges idle e = cv (resM s (afterM s ps (mPut s e o))) := by
  unfold Vbkoab.add afterM
  rw [look_by h1 h2]
  cases (Vbkoab.allIn l && ranges) with
  | false => rfl
  | true =>
    simp only [Bool.true_eq_false, if_false]
    cases Vbkoab.allThere (stK s) l with
    | false => rfl
    | true =>
      simp only [Bool.true_eq_false, if_false]
      unfold mPut
      rw [h3]
      cases idle with
      | true => rfl
      | false =>
        simp only [Bool.false_eq_true, if_false, Bool.not_false, if_true]
        by_cases q : (s.2.length : Int) < 30
        · rw [if_pos q, if_neg (by show ¬ 30 ≤ s.2.length; omega)]
          rfl
        · rw [if_neg q, if_pos (by show 30 ≤ s.2.length; omega)]
          rfl
theorem unlike_eq (x y : Int) : unlike (some (x, y)) = !(x == y) := by
  show (!decide (x = y)) = !(x == y)
  congr 1
theorem onTwo_eq {s : KS} {x y : Int} {f : Nat → Nat → Vbkoab.State × List Int} {g : Nat → Nat → Res} (h : ∀ a b, a < s.1 → b < s.1 → f a b = cv (resM s (keepM s (g a b)))) : Vbkoab.onTwo (stK s) x y f = cv (resM s (keepM s (onTwoK s [x, y] g))) := by
  unfold Vbkoab.onTwo
  show _ = cv (resM s (keepM s (afterLook s [("person", x), ("person", y)] (g x.toNat y.toNat))))
  have h1 : ([(("person" : Str), x), ("person", y)] : List (Str × Int)).all inGreat = Vbkoab.allIn [x, y] := by
    simp only [List.all_cons, List.all_nil, grP, Vbkoab.allIn]
  have h2 : ([(("person" : Str), x), ("person", y)] : List (Str × Int)).all (isThere s.1 s.2.length) = Vbkoab.allThere (stK s) [x, y] := by
    simp only [List.all_cons, List.all_nil, thP, Vbkoab.allThere, isP_eq]
  have hk := look_by h1 h2
  unfold afterLook
  cases q1 : Vbkoab.allIn [x, y] with
  | false =>
    rw [q1, if_pos rfl] at hk
    rw [hk, if_pos rfl]
    rfl
  | true =>
    rw [q1, if_neg (by decide)] at hk
    rw [if_neg (by decide)]
    cases q2 : Vbkoab.allThere (stK s) [x, y] with
    | false =>
      rw [q2, if_pos rfl] at hk
      rw [hk, if_pos rfl]
      rfl
    | true =>
      rw [q2, if_neg (by decide)] at hk
      rw [hk, if_neg (by decide)]
      obtain ⟨_, _, t1, t2⟩ := look_two hk
      exact h _ _ t1 t2
/-! answers -/
theorem kClash_none {s : KS} (h : okS s) : (kClash s).isNone = !Vbkoab.clashes s.1 s.2 := by
  rw [clashes_eq h.2.2]
  unfold kClash
  cases mClash s.2 (mRun s.1 s.2).1 <;> rfl
theorem mVerdict_eq {n : Nat} {evs : List Piece} (h : okEvs n evs) {x y : Nat} (hx : x < n) (hy : y < n) : mVerdict n evs (x, y) = if Vbkoab.clashes n evs = true then 0 else Vbkoab.whole (Vbkoab.verdict n evs x y) := by
  unfold mVerdict Vbkoab.verdict
  have h2 : okEvs n (withSame evs (x, y)) := okEvs_same h ⟨hx, hy⟩
  have e2 : evs ++ [Vbkoab.Ev.same x y] = withSame evs (x, y) := rfl
  rw [e2, clashes_eq h, clashes_eq h2, closure_eq h]
  show (if _ = true then (0 : Int) else if Vbkoab.one (mRun n evs).1 x y = true then 1 else _) = _
  cases (mClash evs (mRun n evs).1).isSome <;> cases Vbkoab.one (mRun n evs).1 x y <;> cases (mClash (withSame evs (x, y)) (mRun n (withSame evs (x, y))).1).isSome <;> rfl
theorem orMinus_e2N {i : Int} (h : -1 ≤ i) : Vbkoab.orMinus (e2N i) = i := by
  unfold e2N
  by_cases q : i = -1
  · rw [if_pos q, q]; rfl
  · rw [if_neg q]
    show ((i.toNat : Nat) : Int) = i
    omega
theorem alone_e2 {evs : List Piece} {n : Nat} {j : MJ} (h : mAlone evs n = some j) : -1 ≤ j.e2 := by
  unfold mAlone at h
  cases e : evs[n]? with
  | none => rw [e] at h; cases h
  | some p =>
    rw [e] at h
    obtain ⟨t, ht, rfl⟩ := Option.map_eq_some_iff.mp h
    exact Int.le_refl _
theorem two_e2 {evs : List Piece} {n m : Nat} {j : MJ} (h : mTwo evs n m = some j) : -1 ≤ j.e2 := by
  unfold mTwo at h
  cases e : evs[n]? with
  | none => rw [e] at h; cases h
  | some p =>
    cases e2 : evs[m]? with
    | none => rw [e, e2] at h; cases h
    | some q =>
      rw [e, e2] at h
      obtain ⟨t, ht, rfl⟩ := Option.map_eq_some_iff.mp h
      show (-1 : Int) ≤ (m : Int)
      omega
theorem every_e2 {evs : List Piece} : ∀ j ∈ mEvery evs, -1 ≤ j.e2 := by
  intro j hj
  unfold mEvery at hj
  obtain ⟨n, _, hn⟩ := flat_mem.mp hj
  unfold mFrom at hn
  cases e : evs[n]? with
  | none => rw [e] at hn; cases hn
  | some p =>
    rw [e] at hn
    replace hn : j ∈ (if inTwos p = true then (List.range (evs.length - (n + 1))).filterMap fun i => mTwo evs n (n + 1 + i) else (mAlone evs n).toList) := hn
    by_cases h : inTwos p = true
    · rw [if_pos h] at hn
      obtain ⟨i, _, hi⟩ := List.mem_filterMap.mp hn
      exact two_e2 hi
    · rw [if_neg h] at hn
      exact alone_e2 (Option.mem_toList.mp hn)
theorem runFrom_mem {every : List MJ} : ∀ (k : Nat) (g : List Nat) (l : List MJ) (j : MJ), j ∈ (mRunFrom every k g l).2 → j ∈ l ∨ j ∈ every
  | 0, g, l, j, h => .inl h
  | k + 1, g, l, j, h => by
    cases e : every.find? (cond g) with
    | none => rw [mRunFrom_none e] at h; exact .inl h
    | some q =>
      rw [mRunFrom_some e] at h
      rcases runFrom_mem k _ _ j h with h | h
      · rcases List.mem_append.mp h with h | h
        · exact .inl h
        · have : j = q := by simpa using h
          subst this; exact .inr (List.mem_of_find?_eq_some e)
      · exact .inr h
theorem run_e2 {n : Nat} {evs : List Piece} : ∀ j ∈ (mRun n evs).2, -1 ≤ j.e2 := fun j hj => by
  unfold mRun at hj
  rcases runFrom_mem _ _ _ j hj with h | h
  · cases h
  · exact every_e2 j h
theorem clashTwo_e2 {evs : List Piece} {g : List Nat} {n m : Nat} {a : Piece} {c : MC} (h : mClashTwo evs g n a m = some c) : -1 ≤ c.e2 := by
  unfold mClashTwo at h
  cases e : evs[m]? with
  | none => rw [e] at h; cases h
  | some b =>
    rw [e] at h
    replace h : (if (disag a b && Vbkoab.one g (evX a) (evX b)) = true then some (⟨n, (m : Int), (evX a, evX b)⟩ : MC) else none) = some c := h
    by_cases q : (disag a b && Vbkoab.one g (evX a) (evX b)) = true
    · rw [if_pos q] at h
      cases h
      show (-1 : Int) ≤ (m : Int)
      omega
    · rw [if_neg q] at h; cases h
theorem clash_e2 {evs : List Piece} {g : List Nat} {c : MC} (h : mClash evs g = some c) : -1 ≤ c.e2 := by
  unfold mClash at h
  obtain ⟨n, _, hn⟩ := List.exists_of_findSome?_eq_some h
  unfold mClashFrom at hn
  cases e : evs[n]? with
  | none => rw [e] at hn; cases hn
  | some p =>
    rw [e] at hn
    cases p with
    | differ x y =>
      replace hn : (if Vbkoab.one g x y = true then some (⟨n, -1, (x, y)⟩ : MC) else none) = some c := hn
      by_cases q : Vbkoab.one g x y = true
      · rw [if_pos q] at hn; cases hn; exact Int.le_refl _
      · rw [if_neg q] at hn; cases hn
    | single x k v =>
      obtain ⟨i, _, hi⟩ := List.exists_of_findSome?_eq_some (l := List.range (evs.length - (n + 1))) (f := fun i => mClashTwo evs g n (.single x k v) (n + 1 + i)) hn
      exact clashTwo_e2 hi
    | _ => cases hn
theorem flatMap_same' {α β γ : Type} {l : List α} {f : α → β} {g : β → List γ} {h : α → List γ} (k : ∀ a ∈ l, g (f a) = h a) : (l.map f).flatMap g = l.flatMap h := by
  rw [List.flatMap_map]
  exact flatMap_same k
theorem joins_out {n : Nat} {evs : List Piece} : ((mRun n evs).2.map toJ).flatMap (fun j => [Vbkoab.whole j.e, Vbkoab.orMinus j.e2, Vbkoab.whole j.a, Vbkoab.whole j.b]) = (mRun n evs).2.flatMap joinNums := flatMap_same' fun j hj => by
  show [((j.e : Nat) : Int), Vbkoab.orMinus (e2N j.e2), _, _] = [((j.e : Nat) : Int), j.e2, _, _]
  rw [orMinus_e2N (run_e2 j hj)]
  rfl
theorem mFits_eq {s : KS} (h : okS s) : (match Vbkoab.clash s.1 s.2 with
      | none => [1]
      | some c => [0, Vbkoab.whole c.e, Vbkoab.orMinus c.e2]) = mFits s := by
  rw [clash_eq h.2.2]
  unfold mFits kClash
  cases q : mClash s.2 (mRun s.1 s.2).1 with
  | none => rfl
  | some c =>
    show [0, ((c.e : Nat) : Int), Vbkoab.orMinus (e2N c.e2)] = [0, ((c.e : Nat) : Int), c.e2]
    rw [orMinus_e2N (clash_e2 q)]
theorem mJoins_eq {s : KS} (h : okS s) : (Vbkoab.whole (Vbkoab.run s.1 s.2).2.length :: (Vbkoab.run s.1 s.2).2.flatMap fun j => [Vbkoab.whole j.e, Vbkoab.orMinus j.e2, Vbkoab.whole j.a, Vbkoab.whole j.b]) = mJoins s := by
  rw [run_eq h.2.2]
  show Vbkoab.whole ((mRun s.1 s.2).2.map toJ).length :: ((mRun s.1 s.2).2.map toJ).flatMap _ = _
  rw [joins_out, List.length_map]
  rfl
theorem ints_flat (l : List (List Nat)) : Vbkoab.ints (l.flatMap listedN) = l.flatMap Vbkoab.listed := by
  unfold Vbkoab.ints
  rw [List.map_flatMap]
  rfl
theorem mBooks_eq {s : KS} (h : okS s) : (Vbkoab.whole (Vbkoab.books s.1 (Vbkoab.closure s.1 s.2)).length :: (Vbkoab.books s.1 (Vbkoab.closure s.1 s.2)).flatMap Vbkoab.listed) = Vbkoab.ints (mBooks s) := by
  rw [closure_eq h.2.2]
  have e : Vbkoab.books s.1 (mRun s.1 s.2).1 = mRows (mRun s.1 s.2).1 := by
    unfold Vbkoab.books mRows rowOf
    rw [mRun_len]
  rw [e]
  unfold mBooks
  show _ = Vbkoab.whole _ :: Vbkoab.ints _
  rw [ints_flat]
theorem whynot_eq {n : Nat} {es : List Piece} (h : okEvs n es) : (match Vbkoab.clash n es with
        | none => [0]
        | some c => let l := (Vbkoab.needed es (Vbkoab.run n es).2 c.x c.y).filterMap fun i => (Vbkoab.run n es).2[i]?
          1 :: Vbkoab.whole c.e :: Vbkoab.orMinus c.e2 :: Vbkoab.whole l.length :: l.flatMap fun j => [Vbkoab.whole j.e, Vbkoab.orMinus j.e2]) = whynotOut n es := by
  rw [clash_eq h, run_eq h]
  unfold whynotOut
  cases q : mClash es (mRun n es).1 with
  | none => rfl
  | some c =>
    obtain ⟨h1, h2, h3⟩ := mClash_one h q
    show (let l := (Vbkoab.needed es ((mRun n es).2.map toJ) c.t.1 c.t.2).filterMap fun i => ((mRun n es).2.map toJ)[i]?
          1 :: Vbkoab.whole c.e :: Vbkoab.orMinus (e2N c.e2) :: Vbkoab.whole l.length :: l.flatMap fun j => [Vbkoab.whole j.e, Vbkoab.orMinus j.e2]) = [1, (c.e : Int), c.e2, ((mNeeded (mRun n es).2 c.t).length : Int)] ++ (mNeeded (mRun n es).2 c.t).flatMap (twoOf (mRun n es).2)
    rw [needed_run h h2 h3 h1, orMinus_e2N (clash_e2 q)]
    have lt : ∀ i ∈ mNeeded (mRun n es).2 (c.t.1, c.t.2), i < (mRun n es).2.length := fun i hi => (mem_needed.mp hi).lt
    have k : ∀ L : List Nat, (∀ i ∈ L, i < (mRun n es).2.length) → (L.filterMap fun i => ((mRun n es).2.map toJ)[i]?).length = L.length ∧ (L.filterMap fun i => ((mRun n es).2.map toJ)[i]?).flatMap (fun j => [Vbkoab.whole j.e, Vbkoab.orMinus j.e2]) = L.flatMap (twoOf (mRun n es).2) := by
      intro L
      induction L with
      | nil => intro _; exact ⟨rfl, rfl⟩
      | cons i r ih =>
        intro hL
        have hi := hL i (by simp)
        obtain ⟨i1, i2⟩ := ih fun a ha => hL a (by simp [ha])
        have hg : (mRun n es).2[i]? = some (mRun n es).2[i] := List.getElem?_eq_getElem hi
        have e : ((mRun n es).2.map toJ)[i]? = some (toJ (mRun n es).2[i]) := by rw [List.getElem?_map, hg]; rfl
        rw [List.filterMap_cons, e]
        refine ⟨by rw [List.length_cons, List.length_cons, i1], ?_⟩
        rw [List.flatMap_cons, List.flatMap_cons, i2]
        congr 1
        unfold twoOf
        rw [hg]
        show [_, Vbkoab.orMinus (e2N (mRun n es).2[i].e2)] = _
        rw [orMinus_e2N (run_e2 _ (List.getElem_mem hi))]
        rfl
    obtain ⟨k1, k2⟩ := k _ lt
    show 1 :: Vbkoab.whole c.e :: c.e2 :: Vbkoab.whole (List.length _) :: List.flatMap _ _ = _
    rw [k1, k2]
    rfl
theorem mCore_eq {n : Nat} {evs : List Piece} (h : okEvs n evs) (o : Option (Nat × Nat)) (q : List Piece → Bool) (hq : ∀ es, okEvs n es → q es = mSo n es o) : (if q evs = true then 1 :: Vbkoab.listed (Vbkoab.core evs q) else [0]) = coreOut (mCore n evs o) := by
  unfold mCore
  rw [hq evs h]
  by_cases z : mSo n evs o = true
  · rw [if_pos z, if_pos z, core_same (h1 := q) (h2 := fun es => mSo n es o) fun es he => hq es (okEvs_sub h he)]
    rfl
  · rw [if_neg z, if_neg z]
    rfl
end PB
namespace PB
open PySem (Str)
/-! ### the plain law: a call as it's handed in -/
noncomputable def mStep (s : KS) (c : List (List Int)) : KS × List Int := match c with
  | (w :: l) :: rows => mToldBy s w.toNat l (rows.headD [])
  | _ => (s, [])
section
variable {s : KS}
theorem st_put (w : Nat) (l row : List Int) (lp : List Int) (ranges idle : Bool) (e : Piece) (ps : List (Str × Int)) (o : Option (Int × Int)) (hw : 1 ≤ w ∧ w < 8) (he : evOf w l = some (ps, e, o)) (h1 : ps.all inGreat = (Vbkoab.allIn lp && ranges)) (h2 : ps.all (isThere s.1 s.2.length) = Vbkoab.allThere (stK s) lp) (h3 : unlike o = !idle) :
    Vbkoab.add (stK s) lp ranges idle e = cv (mToldBy s w l row) := by
  rw [add_eq s lp ranges idle e ps o h1 h2 h3, toldBy_eq]
  have e1 : mCall s w l row = mPutEv s w l := by
    unfold mCall mEarly
    rw [if_pos (by omega), if_neg (by omega), if_pos (by omega)]
  rw [e1]
  unfold mPutEv
  rw [he]
theorem call_early (w : Nat) (l row : List Int) (hw : w < 15) : mCall s w l row = mEarly s w l := if_pos hw
theorem call_late (w : Nat) (l row : List Int) (hw : 15 ≤ w) : mCall s w l row = mLate s w l row := if_neg (by omega)
theorem step0 (row : List Int) : Vbkoab.step (stK s) .person = cv (mToldBy s 0 [] row) := by
  show (if 16 ≤ s.1 then _ else _) = cv (resM s (mPerson s))
  unfold mPerson
  by_cases h : (s.1 : Int) < 16
  · rw [if_pos h, if_neg (by omega)]; rfl
  · rw [if_neg h, if_pos (by omega)]; rfl
theorem step1 (x y : Int) (row : List Int) : Vbkoab.step (stK s) (.same x y) = cv (mToldBy s 1 [x, y] row) :=
  st_put 1 [x, y] row _ _ _ _ _ _ (by omega) rfl (by simp only [List.all_cons, List.all_nil, grP, Vbkoab.allIn, Bool.and_true]) (by simp only [List.all_cons, List.all_nil, thP, Vbkoab.allThere, isP_eq]) (unlike_eq x y)
theorem step2 (x y : Int) (row : List Int) : Vbkoab.step (stK s) (.differ x y) = cv (mToldBy s 2 [x, y] row) :=
  st_put 2 [x, y] row _ _ _ _ _ _ (by omega) rfl (by simp only [List.all_cons, List.all_nil, grP, Vbkoab.allIn, Bool.and_true]) (by simp only [List.all_cons, List.all_nil, thP, Vbkoab.allThere, isP_eq]) (unlike_eq x y)
theorem step3 (x f y : Int) (row : List Int) : Vbkoab.step (stK s) (.link x f y) = cv (mToldBy s 3 [x, f, y] row) :=
  st_put 3 [x, f, y] row _ _ _ _ _ _ (by omega) rfl (by
    simp only [List.all_cons, List.all_nil, grP, grF, Vbkoab.allIn, Bool.and_true]
    cases Vbkoab.inP x <;> cases Vbkoab.inP y <;> cases Vbkoab.inside f 0 3 <;> rfl) (by simp only [List.all_cons, List.all_nil, thP, thF, Vbkoab.allThere, isP_eq, Bool.true_and]) rfl
theorem step4 (x k v : Int) (row : List Int) : Vbkoab.step (stK s) (.key x k v) = cv (mToldBy s 4 [x, k, v] row) :=
  st_put 4 [x, k, v] row _ _ _ _ _ _ (by omega) rfl (by simp only [List.all_cons, List.all_nil, grP, grS, grW, Vbkoab.allIn, Bool.and_true]) (by simp only [List.all_cons, List.all_nil, thP, thS, thW, Vbkoab.allThere, isP_eq, Bool.true_and, Bool.and_true]) rfl
theorem step5 (x k v : Int) (row : List Int) : Vbkoab.step (stK s) (.single x k v) = cv (mToldBy s 5 [x, k, v] row) :=
  st_put 5 [x, k, v] row _ _ _ _ _ _ (by omega) rfl (by simp only [List.all_cons, List.all_nil, grP, grS, grW, Vbkoab.allIn, Bool.and_true]) (by simp only [List.all_cons, List.all_nil, thP, thS, thW, Vbkoab.allThere, isP_eq, Bool.true_and, Bool.and_true]) rfl
theorem step6 (x y u v : Int) (row : List Int) : Vbkoab.step (stK s) (.if_ x y u v) = cv (mToldBy s 6 [x, y, u, v] row) :=
  st_put 6 [x, y, u, v] row _ _ _ _ _ _ (by omega) rfl (by simp only [List.all_cons, List.all_nil, grP, Vbkoab.allIn, Bool.and_true]) (by simp only [List.all_cons, List.all_nil, thP, Vbkoab.allThere, isP_eq]) (unlike_eq u v)
theorem step7 (x y p q u v : Int) (row : List Int) : Vbkoab.step (stK s) (.both x y p q u v) = cv (mToldBy s 7 [x, y, p, q, u, v] row) :=
  st_put 7 [x, y, p, q, u, v] row _ _ _ _ _ _ (by omega) rfl (by simp only [List.all_cons, List.all_nil, grP, Vbkoab.allIn, Bool.and_true]) (by simp only [List.all_cons, List.all_nil, thP, Vbkoab.allThere, isP_eq]) (unlike_eq u v)
theorem step8 (k : Int) (row : List Int) : Vbkoab.step (stK s) (.drop k) = cv (mToldBy s 8 [k] row) := by
  show (if Vbkoab.inside k 0 29 = false then _ else if s.2.length ≤ k.toNat then _ else ((⟨s.1, s.2.eraseIdx k.toNat⟩ : Vbkoab.State), [Vbkoab.whole (s.2.length - 1)])) = cv (resM s (mDrop s k))
  have h1 : ([(("piece" : Str), k)] : List (Str × Int)).all inGreat = Vbkoab.inside k 0 29 := by simp only [List.all_cons, List.all_nil, grE, Bool.and_true]
  have h2 : ([(("piece" : Str), k)] : List (Str × Int)).all (isThere s.1 s.2.length) = decide (k < (s.2.length : Int)) := by simp only [List.all_cons, List.all_nil, thE, Bool.and_true]
  unfold mDrop afterM
  rw [look_by h1 h2]
  cases q : Vbkoab.inside k 0 29 with
  | false => rfl
  | true =>
    simp only [Bool.true_eq_false, if_false]
    have q0 : 0 ≤ k := by
      unfold Vbkoab.inside at q
      simp only [Bool.and_eq_true, decide_eq_true_eq] at q
      exact q.1
    by_cases h : k < (s.2.length : Int)
    · rw [decide_eq_true h, if_neg (by omega)]
      simp only [Bool.true_eq_false, if_false]
      have e : cutOut s.2 k.toNat = s.2.eraseIdx k.toNat := (List.eraseIdx_eq_take_drop_succ ..).symm
      have e2 : (s.2.eraseIdx k.toNat).length = s.2.length - 1 := List.length_eraseIdx_of_lt (by omega)
      rw [e, e2]
      rfl
    · rw [decide_eq_false h, if_pos (by omega)]
      rfl
theorem step9 (ok : okS s) (l row : List Int) : Vbkoab.step (stK s) .fits = cv (mToldBy s 9 l row) := by
  exact congrArg (Prod.mk (stK s)) (mFits_eq ok)
theorem step10 (ok : okS s) (l row : List Int) : Vbkoab.step (stK s) .run = cv (mToldBy s 10 l row) := by
  show (stK s, _) = (stK s, mJoins s)
  rw [← mJoins_eq ok]
theorem step11 (ok : okS s) (l row : List Int) : Vbkoab.step (stK s) .books = cv (mToldBy s 11 l row) := by
  show (stK s, _) = (stK s, Vbkoab.ints (mBooks s))
  rw [← mBooks_eq ok]
theorem step12 (ok : okS s) (x y : Int) (row : List Int) : Vbkoab.step (stK s) (.verdict x y) = cv (mToldBy s 12 [x, y] row) := by
  have e0 : mCall s 12 [x, y] row = keepM s (mVerd s [x, y]) := rfl
  rw [toldBy_eq, e0]
  unfold mVerd
  simp only [Vbkoab.step]
  refine onTwo_eq fun a b ha hb => ?_
  rw [kClash_none ok, mVerdict_eq ok.2.2 ha hb]
  show (if Vbkoab.clashes s.1 s.2 = true then _ else _) = _
  cases Vbkoab.clashes s.1 s.2 <;> rfl
theorem step13 (ok : okS s) (x y : Int) (row : List Int) : Vbkoab.step (stK s) (.why x y) = cv (mToldBy s 13 [x, y] row) := by
  have e0 : mCall s 13 [x, y] row = keepM s (mWhy s [x, y]) := rfl
  rw [toldBy_eq, e0]
  unfold mWhy
  simp only [Vbkoab.step]
  refine onTwo_eq fun a b ha hb => ?_
  show (stK s, if Vbkoab.one (Vbkoab.run s.1 s.2).1 a b = true then 1 :: Vbkoab.listed (Vbkoab.needed s.2 (Vbkoab.run s.1 s.2).2 a b) else [0]) = (stK s, if Vbkoab.one (mRun s.1 s.2).1 a b = true then 1 :: Vbkoab.listed (mNeeded (mRun s.1 s.2).2 (a, b)) else [0])
  rw [run_eq ok.2.2]
  show (stK s, if Vbkoab.one (mRun s.1 s.2).1 a b = true then 1 :: Vbkoab.listed (Vbkoab.needed s.2 ((mRun s.1 s.2).2.map toJ) a b) else [0]) = _
  by_cases h : Vbkoab.one (mRun s.1 s.2).1 a b = true
  · rw [if_pos h, if_pos h, needed_run ok.2.2 ha hb h]
  · rw [if_neg h, if_neg h]
theorem step14 (ok : okS s) (x y : Int) (row : List Int) : Vbkoab.step (stK s) (.whynot x y) = cv (mToldBy s 14 [x, y] row) := by
  have e0 : mCall s 14 [x, y] row = keepM s (mWhynot s [x, y]) := rfl
  rw [toldBy_eq, e0]
  unfold mWhynot
  simp only [Vbkoab.step]
  refine onTwo_eq fun a b ha hb => ?_
  rw [kClash_none ok]
  show (if a = b then _ else if Vbkoab.clashes s.1 s.2 = true then _ else _) = cv (resM s (keepM s (if a = b then _ else _)))
  by_cases h : a = b
  · rw [if_pos h, if_pos h]; rfl
  · rw [if_neg h, if_neg h]
    cases Vbkoab.clashes s.1 s.2 with
    | true => rfl
    | false =>
      rw [if_neg Bool.false_ne_true]
      show _ = (stK s, whynotOut s.1 (withSame s.2 (a, b)))
      rw [← whynot_eq (okEvs_same (t := (a, b)) ok.2.2 ⟨ha, hb⟩)]
      rfl
theorem step15 (ok : okS s) (x y : Int) (row : List Int) : Vbkoab.step (stK s) (.check x y row) = cv (mToldBy s 15 [x, y] row) := by
  have e0 : mCall s 15 [x, y] row = keepM s (mCheck s [x, y] row) := rfl
  rw [toldBy_eq, e0]
  unfold mCheck
  simp only [Vbkoab.step]
  refine onTwo_eq fun a b ha hb => ?_
  show (if row.length % 2 = 1 then _ else _) = cv (resM s (keepM s (if (row.length : Int) % 2 = 0 then _ else _)))
  by_cases h : row.length % 2 = 1
  · rw [if_pos h, if_neg (by omega)]; rfl
  · rw [if_neg h, if_pos (show (row.length : Int) % 2 = 0 by omega)]
    have hl : row.length % 2 = 0 := by omega
    have w := wrong_eq (stK s) a b row 0 (List.range s.1) hl
    show _ = (stK s, checkOut (mWrongFrom s.2 (a, b) 0 (List.range s.1) (mPairs row)))
    rw [mPairs_eq]
    have w' : specW (stK s) a b 0 (List.range s.1) row = mWrongFrom s.2 (a, b) 0 (List.range s.1) (pairs2 row) := w
    rw [← w']
    unfold specW Vbkoab.alone
    cases q : Vbkoab.oddPair (stK s) 0 row with
    | none =>
      show (stK s, match (Vbkoab.follow s.2 0 (List.range s.1) (Vbkoab.pairsOf row)).2, (none : Option Nat) with
        | some k, _ => [0, Vbkoab.whole k]
        | none, some k => [0, Vbkoab.whole k]
        | none, none => if Vbkoab.one (Vbkoab.follow s.2 0 (List.range s.1) (Vbkoab.pairsOf row)).1 a b = true then [1] else [0, Vbkoab.whole (row.length / 2)]) = (stK s, checkOut (match Vbkoab.follow s.2 0 (List.range s.1) (Vbkoab.pairsOf row), (none : Option Nat) with
        | (_, some k'), _ => some k'
        | (_, none), some k' => some k'
        | (g', none), none => if Vbkoab.one g' a b = true then none else some (0 + row.length / 2)))
      cases q2 : Vbkoab.follow s.2 0 (List.range s.1) (Vbkoab.pairsOf row) with
      | mk g' o =>
        cases o with
        | some k => rfl
        | none =>
          show (stK s, if Vbkoab.one g' a b = true then [1] else [0, Vbkoab.whole (row.length / 2)]) = (stK s, checkOut (if Vbkoab.one g' a b = true then none else some (0 + row.length / 2)))
          rw [Nat.zero_add]
          cases Vbkoab.one g' a b <;> rfl
    | some k =>
      show (stK s, match (Vbkoab.follow s.2 0 (List.range s.1) (Vbkoab.pairsOf (row.take (2 * k)))).2, some k with
        | some k, _ => [0, Vbkoab.whole k]
        | none, some k => [0, Vbkoab.whole k]
        | none, none => _) = (stK s, checkOut (match Vbkoab.follow s.2 0 (List.range s.1) (Vbkoab.pairsOf (row.take (2 * (k - 0)))), some k with
        | (_, some k'), _ => some k'
        | (_, none), some k' => some k'
        | (g', none), none => _))
      rw [Nat.sub_zero]
      cases q2 : Vbkoab.follow s.2 0 (List.range s.1) (Vbkoab.pairsOf (row.take (2 * k))) with
      | mk g' o =>
        cases o with
        | some k => rfl
        | none => rfl
theorem step16 (ok : okS s) (x y : Int) (row : List Int) : Vbkoab.step (stK s) (.core x y) = cv (mToldBy s 16 [x, y] row) := by
  have e0 : mCall s 16 [x, y] row = keepM s (mKCore s [x, y]) := rfl
  rw [toldBy_eq, e0]
  unfold mKCore
  simp only [Vbkoab.step]
  refine onTwo_eq fun a b ha hb => ?_
  show (stK s, _) = (stK s, coreOut (mCore s.1 s.2 (some (a, b))))
  rw [← mCore_eq ok.2.2 (some (a, b)) (fun evs => Vbkoab.one (Vbkoab.closure s.1 evs) a b) fun es hes => by
    show Vbkoab.one (Vbkoab.closure s.1 es) a b = Vbkoab.one (mRun s.1 es).1 a b
    rw [closure_eq hes]]
theorem step17 (ok : okS s) (l row : List Int) : Vbkoab.step (stK s) .clash = cv (mToldBy s 17 l row) := by
  show (stK s, _) = (stK s, coreOut (mCore s.1 s.2 none))
  rw [← mCore_eq ok.2.2 none (Vbkoab.clashes s.1) fun es hes => by
    show Vbkoab.clashes s.1 es = (mClash es (mRun s.1 es).1).isSome
    rw [clashes_eq hes]]
theorem step18 (ok : okS s) (m x y : Int) (row : List Int) : Vbkoab.step (stK s) (.known m x y) = cv (mToldBy s 18 [m, x, y] row) := by
  show (if Vbkoab.inside m 0 30 = false then _ else Vbkoab.onTwo (stK s) x y _) = cv (resM s (keepM s (afterLook s [("count", m), ("person", x), ("person", y)] (.ok [mVerdict s.1 (s.2.take m.toNat) (x.toNat, y.toNat)]))))
  have h1 : ([(("count" : Str), m), ("person", x), ("person", y)] : List (Str × Int)).all inGreat = (Vbkoab.inside m 0 30 && Vbkoab.allIn [x, y]) := by
    simp only [List.all_cons, List.all_nil, grP, grC, Vbkoab.allIn]
  have h2 : ([(("count" : Str), m), ("person", x), ("person", y)] : List (Str × Int)).all (isThere s.1 s.2.length) = Vbkoab.allThere (stK s) [x, y] := by
    simp only [List.all_cons, List.all_nil, thP, thC, Vbkoab.allThere, isP_eq, Bool.true_and]
  unfold afterLook
  have hk := look_by h1 h2
  rw [hk]
  cases q : Vbkoab.inside m 0 30 with
  | false => rfl
  | true =>
    rw [q] at hk
    simp only [Bool.true_eq_false, if_false, Bool.true_and] at hk ⊢
    unfold Vbkoab.onTwo
    cases q1 : Vbkoab.allIn [x, y] with
    | false => rfl
    | true =>
      rw [q1] at hk
      simp only [Bool.true_eq_false, if_false] at hk ⊢
      cases q2 : Vbkoab.allThere (stK s) [x, y] with
      | false => rfl
      | true =>
        rw [q2] at hk
        simp only [Bool.true_eq_false, if_false] at hk ⊢
        have a1 := (look_p hk (x := x) (by simp)).2
        have a2 := (look_p hk (x := y) (by simp)).2
        show (stK s, [if Vbkoab.clashes s.1 (s.2.take m.toNat) = true then 0 else Vbkoab.whole (Vbkoab.verdict s.1 (s.2.take m.toNat) x.toNat y.toNat)]) = (stK s, [mVerdict s.1 (s.2.take m.toNat) (x.toNat, y.toNat)])
        rw [mVerdict_eq (take_okEvs ok.2.2) a1 a2]
theorem look_xk {x k : Int} {w : Str} {b : Bool} (hw : inGreat (w, k) = b) (h1 : decide (w = "person") = false) (h2 : decide (w = "piece") = false) : mLook s [("person", x), (w, k)] = if (Vbkoab.inP x && b) = false then some (-1) else if Vbkoab.isP (stK s) x = false then some (-4) else none := by
  refine look_by ?_ ?_
  · simp only [List.all_cons, List.all_nil, grP, hw, Bool.and_true]
  · simp only [List.all_cons, List.all_nil, thP, thO _ _ _ _ h1 h2, isP_eq, Bool.and_true]
theorem fs_link (g : List Nat) (x k : Int) (hk : k = (k.toNat : Int)) (evs : List Piece) : (evs.findSome? fun e => match e with
          | .link z h w => if k = Vbkoab.whole h ∧ Vbkoab.one g x.toNat z = true then some w else none
          | _ => none) = evs.findSome? (linkOf g x.toNat k.toNat) := by
  refine findSome_same fun e he => ?_
  clear he
  cases e <;> try rfl
  rename_i z h w
  show (if k = ((h : Nat) : Int) ∧ Vbkoab.one g x.toNat z = true then some w else none) = (if h = k.toNat ∧ Vbkoab.one g z x.toNat = true then some w else none)
  rw [one_symm g z x.toNat]
  have : (k = ((h : Nat) : Int)) = (h = k.toNat) := propext ⟨fun e => by omega, fun e => by omega⟩
  simp only [this]
theorem fs_value (g : List Nat) (x k : Int) (hk : k = (k.toNat : Int)) (evs : List Piece) : (evs.findSome? fun e => match e with
          | .single z h w => if k = Vbkoab.whole h ∧ Vbkoab.one g x.toNat z = true then some w else none
          | _ => none) = evs.findSome? (valueOf g x.toNat k.toNat) := by
  refine findSome_same fun e he => ?_
  clear he
  cases e <;> try rfl
  rename_i z h w
  show (if k = ((h : Nat) : Int) ∧ Vbkoab.one g x.toNat z = true then some w else none) = (if h = k.toNat ∧ Vbkoab.one g z x.toNat = true then some w else none)
  rw [one_symm g z x.toNat]
  have : (k = ((h : Nat) : Int)) = (h = k.toNat) := propext ⟨fun e => by omega, fun e => by omega⟩
  simp only [this]
theorem link_ok {n : Nat} {evs : List Piece} (h : okEvs n evs) {g : List Nat} {x k w : Nat} (q : evs.findSome? (linkOf g x k) = some w) : w < n := by
  obtain ⟨e, he, hw⟩ := List.exists_of_findSome?_eq_some q
  have o := h e he
  cases e <;> try cases hw
  rename_i z f y
  replace hw : (if f = k ∧ Vbkoab.one g z x = true then some y else none) = some w := hw
  by_cases c : f = k ∧ Vbkoab.one g z x = true
  · rw [if_pos c] at hw
    cases hw
    exact o.2
  · rw [if_neg c] at hw; cases hw
theorem step19 (ok : okS s) (x k : Int) (row : List Int) : Vbkoab.step (stK s) (.linked x k) = cv (mToldBy s 19 [x, k] row) := by
  show (if (Vbkoab.inP x && Vbkoab.inside k 0 3) = false then _ else if Vbkoab.isP (stK s) x = false then _ else _) = cv (resM s (keepM s (afterLook s [("person", x), ("field", k)] _)))
  unfold afterLook
  have hk := look_xk (s := s) (x := x) (w := "field") (grF k) (by decide +kernel) (by decide +kernel)
  rw [hk]
  cases q : (Vbkoab.inP x && Vbkoab.inside k 0 3) with
  | false => rfl
  | true =>
    rw [q] at hk
    simp only [Bool.true_eq_false, if_false] at hk ⊢
    cases q2 : Vbkoab.isP (stK s) x with
    | false => rfl
    | true =>
      rw [q2] at hk
      simp only [Bool.true_eq_false, if_false] at hk ⊢
      have k0 := look_n hk (w := "field") (x := k) (by simp)
      show (stK s, match s.2.findSome? (fun e => match e with
          | .link z h w => if k = Vbkoab.whole h ∧ Vbkoab.one (Vbkoab.closure s.1 s.2) x.toNat z = true then some w else none
          | _ => none) with
        | none => [0]
        | some w => [1, Vbkoab.whole (((List.range s.1).find? fun z => Vbkoab.one (Vbkoab.closure s.1 s.2) z w).getD w)]) = (stK s, match s.2.findSome? (linkOf (mRun s.1 s.2).1 x.toNat k.toNat) with
        | none => [0]
        | some w => [1, (((mRun s.1 s.2).1.getD w w : Nat) : Int)])
      rw [fs_link _ x k k0, closure_eq ok.2.2]
      cases q3 : s.2.findSome? (linkOf (mRun s.1 s.2).1 x.toNat k.toNat) with
      | none => rfl
      | some w =>
        show (stK s, [1, Vbkoab.whole (((List.range s.1).find? fun z => Vbkoab.one (mRun s.1 s.2).1 z w).getD w)]) = _
        rw [least_eq (run_inv ok.2.2) (link_ok ok.2.2 q3)]
        rfl
theorem step20 (ok : okS s) (x k : Int) (row : List Int) : Vbkoab.step (stK s) (.value x k) = cv (mToldBy s 20 [x, k] row) := by
  show (if (Vbkoab.inP x && Vbkoab.inside k 0 5) = false then _ else if Vbkoab.isP (stK s) x = false then _ else _) = cv (resM s (keepM s (afterLook s [("person", x), ("sort", k)] _)))
  unfold afterLook
  have hk := look_xk (s := s) (x := x) (w := "sort") (grS k) (by decide +kernel) (by decide +kernel)
  rw [hk]
  cases q : (Vbkoab.inP x && Vbkoab.inside k 0 5) with
  | false => rfl
  | true =>
    rw [q] at hk
    simp only [Bool.true_eq_false, if_false] at hk ⊢
    cases q2 : Vbkoab.isP (stK s) x with
    | false => rfl
    | true =>
      rw [q2] at hk
      simp only [Bool.true_eq_false, if_false] at hk ⊢
      have k0 := look_n hk (w := "sort") (x := k) (by simp)
      show (stK s, match s.2.findSome? (fun e => match e with
          | .single z h w => if k = Vbkoab.whole h ∧ Vbkoab.one (Vbkoab.closure s.1 s.2) x.toNat z = true then some w else none
          | _ => none) with
        | none => [0]
        | some w => [1, Vbkoab.whole w]) = (stK s, match s.2.findSome? (valueOf (mRun s.1 s.2).1 x.toNat k.toNat) with
        | none => [0]
        | some w => [1, (w : Int)])
      rw [fs_value _ x k k0, closure_eq ok.2.2]
      rfl
theorem step21 (l row : List Int) : Vbkoab.step (stK s) .told = cv (mToldBy s 21 l row) := rfl
theorem step22 (ok : okS s) (x y : Int) (row : List Int) : Vbkoab.step (stK s) (.ways x y) = cv (mToldBy s 22 [x, y] row) := by
  have e0 : mCall s 22 [x, y] row = keepM s (mWays s [x, y]) := rfl
  rw [toldBy_eq, e0]
  unfold mWays
  simp only [Vbkoab.step]
  refine onTwo_eq fun a b ha hb => ?_
  show (if 7 < s.1 then _ else _) = cv (resM s (keepM s (if (s.1 : Int) ≤ 7 then _ else _)))
  by_cases h : 7 < s.1
  · rw [if_pos h, if_neg (by omega)]; rfl
  · rw [if_neg h, if_pos (by omega)]
    obtain ⟨e1, e2⟩ := ways_eq ok.2.2 ha hb
    show (stK s, [Vbkoab.whole ((Vbkoab.groupings s.1).filter fun g => Vbkoab.fitsIn g s.2).length, Vbkoab.whole (((Vbkoab.groupings s.1).filter fun g => Vbkoab.fitsIn g s.2).filter fun g => Vbkoab.one g a b).length]) = _
    rw [e1, e2]
    rfl
/-! what is left stays well -/
theorem keep_fst (r : Res) : (resM s (keepM s r)).1 = s := by cases r <;> rfl
theorem afterM_fst {ps : List (Str × Int)} {r : ResM} (ok : okS s) (h : mLook s ps = none → okS (resM s r).1) : okS (resM s (afterM s ps r)).1 := by
  cases q : mLook s ps with
  | none => rw [afterM_none q]; exact h q
  | some i => rw [afterM_some q]; exact ok
theorem told_ok (ok : okS s) (w : Nat) (l row : List Int) (hl : l.length = NUM w) : okS (mToldBy s w l row).1 := by
  rw [toldBy_eq]
  by_cases h15 : w < 15
  · rw [call_early w l row h15]
    unfold mEarly
    by_cases h0 : w = 0
    · rw [if_pos h0]
      unfold mPerson
      by_cases h : (s.1 : Int) < 16
      · rw [if_pos h]
        refine ⟨by show s.1 + 1 ≤ 16; omega, ok.2.1, fun e he => ?_⟩
        have o := ok.2.2 e he
        show okEv (s.1 + 1) e
        cases e <;> simp only [okEv] at o ⊢ <;> omega
      · rw [if_neg h]; exact ok
    · rw [if_neg h0]
      by_cases h8 : w < 8
      · rw [if_pos h8]
        obtain ⟨ps, e, o, he⟩ := evOf_some h0 h8 hl
        unfold mPutEv
        rw [he]
        refine afterM_fst ok fun hk => ?_
        have oe := ((evOf_is he).ok hk).1
        unfold mPut
        by_cases h1 : unlike o = true
        · rw [if_pos h1]
          by_cases h2 : (s.2.length : Int) < 30
          · rw [if_pos h2]
            refine ⟨ok.1, ?_, fun q hq => ?_⟩
            · show (s.2 ++ [e]).length ≤ 30
              rw [List.length_append, List.length_singleton]
              omega
            · rcases List.mem_append.mp hq with hq | hq
              · exact ok.2.2 q hq
              · have : q = e := by simpa using hq
                subst this; exact oe
          · rw [if_neg h2]; exact ok
        · rw [if_neg h1]; exact ok
      · rw [if_neg h8]
        by_cases h : w = 8
        · rw [if_pos h]
          unfold mDrop
          refine afterM_fst ok fun _ => ?_
          refine ⟨ok.1, ?_, fun q hq => ?_⟩
          · show (cutOut s.2 _).length ≤ 30
            unfold cutOut
            have := ok.2.1
            rw [List.length_append, List.length_take, List.length_drop]
            omega
          · refine ok.2.2 q ?_
            rcases List.mem_append.mp hq with hq | hq
            · exact List.mem_of_mem_take hq
            · exact List.mem_of_mem_drop hq
        · rw [if_neg h]
          split
          · exact ok
          · split
            · exact ok
            · split
              · exact ok
              · split
                · rw [keep_fst]; exact ok
                · split <;> (rw [keep_fst]; exact ok)
  · rw [call_late w l row (by omega)]
    unfold mLate
    repeat (split; · first | exact ok | (rw [keep_fst]; exact ok))
    rw [keep_fst]; exact ok
end
/-! the list read -/
theorem len1 {l : List Int} (h : l.length = 1) : ∃ x, l = [x] := by
  match l, h with
  | [x], _ => exact ⟨x, rfl⟩
theorem len2 {l : List Int} (h : l.length = 2) : ∃ x y, l = [x, y] := by
  match l, h with
  | [x, y], _ => exact ⟨x, y, rfl⟩
theorem len3 {l : List Int} (h : l.length = 3) : ∃ x y z, l = [x, y, z] := by
  match l, h with
  | [x, y, z], _ => exact ⟨x, y, z, rfl⟩
theorem len4 {l : List Int} (h : l.length = 4) : ∃ x y z u, l = [x, y, z, u] := by
  match l, h with
  | [x, y, z, u], _ => exact ⟨x, y, z, u, rfl⟩
theorem len6 {l : List Int} (h : l.length = 6) : ∃ x y z u v w, l = [x, y, z, u, v, w] := by
  match l, h with
  | [x, y, z, u, v, w], _ => exact ⟨x, y, z, u, v, w, rfl⟩
inductive Parse : List Int → List (List (List Int)) → Prop
  | nil : Parse [] []
  | plain {w : Nat} {nums rest : List Int} {cs : List (List (List Int))} : w < 23 → w ≠ 15 → nums.length = NUM w → Parse rest cs → Parse ((w : Int) :: (nums ++ rest)) ([(w : Int) :: nums] :: cs)
  | check {x y : Int} {row rest : List Int} {cs : List (List (List Int))} : Parse rest cs → Parse (15 :: x :: y :: (row.length : Int) :: (row ++ rest)) ([[15, x, y], row] :: cs)
theorem shape_some {p : Int} {n k : Nat} (h : PyVbkoab.shape p = some (n, k)) : ∃ w : Nat, p = (w : Int) ∧ w < 23 ∧ n = NUM w ∧ k = if w = 15 then 1 else 0 := by
  unfold PyVbkoab.shape at h
  by_cases h0 : p = 0
  · subst h0
    replace h : some (0, 0) = some (n, k) := h
    cases h
    exact ⟨0, rfl, by decide, by decide, by decide⟩
  rw [if_neg h0] at h
  by_cases h1 : p = 1
  · subst h1
    replace h : some (2, 0) = some (n, k) := h
    cases h
    exact ⟨1, rfl, by decide, by decide, by decide⟩
  rw [if_neg h1] at h
  by_cases h2 : p = 2
  · subst h2
    replace h : some (2, 0) = some (n, k) := h
    cases h
    exact ⟨2, rfl, by decide, by decide, by decide⟩
  rw [if_neg h2] at h
  by_cases h3 : p = 3
  · subst h3
    replace h : some (3, 0) = some (n, k) := h
    cases h
    exact ⟨3, rfl, by decide, by decide, by decide⟩
  rw [if_neg h3] at h
  by_cases h4 : p = 4
  · subst h4
    replace h : some (3, 0) = some (n, k) := h
    cases h
    exact ⟨4, rfl, by decide, by decide, by decide⟩
  rw [if_neg h4] at h
  by_cases h5 : p = 5
  · subst h5
    replace h : some (3, 0) = some (n, k) := h
    cases h
    exact ⟨5, rfl, by decide, by decide, by decide⟩
  rw [if_neg h5] at h
  by_cases h6 : p = 6
  · subst h6
    replace h : some (4, 0) = some (n, k) := h
    cases h
    exact ⟨6, rfl, by decide, by decide, by decide⟩
  rw [if_neg h6] at h
  by_cases h7 : p = 7
  · subst h7
    replace h : some (6, 0) = some (n, k) := h
    cases h
    exact ⟨7, rfl, by decide, by decide, by decide⟩
  rw [if_neg h7] at h
  by_cases h8 : p = 8
  · subst h8
    replace h : some (1, 0) = some (n, k) := h
    cases h
    exact ⟨8, rfl, by decide, by decide, by decide⟩
  rw [if_neg h8] at h
  by_cases h9 : p = 9
  · subst h9
    replace h : some (0, 0) = some (n, k) := h
    cases h
    exact ⟨9, rfl, by decide, by decide, by decide⟩
  rw [if_neg h9] at h
  by_cases h10 : p = 10
  · subst h10
    replace h : some (0, 0) = some (n, k) := h
    cases h
    exact ⟨10, rfl, by decide, by decide, by decide⟩
  rw [if_neg h10] at h
  by_cases h11 : p = 11
  · subst h11
    replace h : some (0, 0) = some (n, k) := h
    cases h
    exact ⟨11, rfl, by decide, by decide, by decide⟩
  rw [if_neg h11] at h
  by_cases h12 : p = 12
  · subst h12
    replace h : some (2, 0) = some (n, k) := h
    cases h
    exact ⟨12, rfl, by decide, by decide, by decide⟩
  rw [if_neg h12] at h
  by_cases h13 : p = 13
  · subst h13
    replace h : some (2, 0) = some (n, k) := h
    cases h
    exact ⟨13, rfl, by decide, by decide, by decide⟩
  rw [if_neg h13] at h
  by_cases h14 : p = 14
  · subst h14
    replace h : some (2, 0) = some (n, k) := h
    cases h
    exact ⟨14, rfl, by decide, by decide, by decide⟩
  rw [if_neg h14] at h
  by_cases h15 : p = 15
  · subst h15
    replace h : some (2, 1) = some (n, k) := h
    cases h
    exact ⟨15, rfl, by decide, by decide, by decide⟩
  rw [if_neg h15] at h
  by_cases h16 : p = 16
  · subst h16
    replace h : some (2, 0) = some (n, k) := h
    cases h
    exact ⟨16, rfl, by decide, by decide, by decide⟩
  rw [if_neg h16] at h
  by_cases h17 : p = 17
  · subst h17
    replace h : some (0, 0) = some (n, k) := h
    cases h
    exact ⟨17, rfl, by decide, by decide, by decide⟩
  rw [if_neg h17] at h
  by_cases h18 : p = 18
  · subst h18
    replace h : some (3, 0) = some (n, k) := h
    cases h
    exact ⟨18, rfl, by decide, by decide, by decide⟩
  rw [if_neg h18] at h
  by_cases h19 : p = 19
  · subst h19
    replace h : some (2, 0) = some (n, k) := h
    cases h
    exact ⟨19, rfl, by decide, by decide, by decide⟩
  rw [if_neg h19] at h
  by_cases h20 : p = 20
  · subst h20
    replace h : some (2, 0) = some (n, k) := h
    cases h
    exact ⟨20, rfl, by decide, by decide, by decide⟩
  rw [if_neg h20] at h
  by_cases h21 : p = 21
  · subst h21
    replace h : some (0, 0) = some (n, k) := h
    cases h
    exact ⟨21, rfl, by decide, by decide, by decide⟩
  rw [if_neg h21] at h
  by_cases h22 : p = 22
  · subst h22
    replace h : some (2, 0) = some (n, k) := h
    cases h
    exact ⟨22, rfl, by decide, by decide, by decide⟩
  rw [if_neg h22] at h
  cases h
theorem parse_of : ∀ (f : Nat) (l : List Int) (cs : List (List (List Int))), PyFlat.calls PyVbkoab.shape f l = some cs → Parse l cs := by
  intro f
  induction f with
  | zero =>
    intro l cs h
    cases l with
    | nil => cases h; exact .nil
    | cons a r => cases h
  | succ f ih =>
    intro l cs h
    cases l with
    | nil => cases h; exact .nil
    | cons p r =>
      unfold PyFlat.calls at h
      cases e : PyFlat.call PyVbkoab.shape (p :: r) with
      | none => rw [e] at h; cases h
      | some ct =>
        obtain ⟨c, t⟩ := ct
        rw [e] at h
        replace h : (match PyFlat.calls PyVbkoab.shape f t with
          | none => none
          | some cs => some (c :: cs)) = some cs := h
        cases e2 : PyFlat.calls PyVbkoab.shape f t with
        | none => rw [e2] at h; cases h
        | some cs' =>
          rw [e2] at h
          cases h
          have P := ih t cs' e2
          replace e : (match PyVbkoab.shape p with
            | none => none
            | some (n, k) => if r.length < n then none else match PyFlat.rows k (r.drop n) with
              | none => none
              | some (xs, t) => some ((p :: r.take n) :: xs, t)) = some (c, t) := e
          cases e3 : PyVbkoab.shape p with
          | none => rw [e3] at e; cases e
          | some nk =>
            obtain ⟨n, k⟩ := nk
            rw [e3] at e
            replace e : (if r.length < n then none else match PyFlat.rows k (r.drop n) with
              | none => none
              | some (xs, t) => some ((p :: r.take n) :: xs, t)) = some (c, t) := e
            obtain ⟨w, rfl, hw, rfl, rfl⟩ := shape_some e3
            by_cases hr : r.length < NUM w
            · rw [if_pos hr] at e; cases e
            · rw [if_neg hr] at e
              by_cases h15 : w = 15
              · subst h15
                rw [if_pos rfl] at e
                unfold PyFlat.rows at e
                cases e4 : PyFlat.row (r.drop (NUM 15)) with
                | none => rw [e4] at e; cases e
                | some xt =>
                  obtain ⟨x, t'⟩ := xt
                  rw [e4] at e
                  cases e
                  have n15 : NUM 15 = 2 := by decide
                  rw [n15] at hr e4 ⊢
                  match r, hr, e4 with
                  | x0 :: y0 :: r', _, e4 =>
                    replace e4 : PyFlat.row r' = some (x, t) := e4
                    cases r' with
                    | nil => cases e4
                    | cons m r'' =>
                      replace e4 : (if 0 ≤ m ∧ m.toNat ≤ r''.length then some (r''.take m.toNat, r''.drop m.toNat) else none) = some (x, t) := e4
                      by_cases hm : 0 ≤ m ∧ m.toNat ≤ r''.length
                      · rw [if_pos hm] at e4
                        cases e4
                        have := Parse.check (x := x0) (y := y0) (row := r''.take m.toNat) P
                        rw [List.take_append_drop, List.length_take, Nat.min_eq_left hm.2, Int.toNat_of_nonneg hm.1] at this
                        exact this
                      · rw [if_neg hm] at e4; cases e4
                  | [], hr, _ => exact absurd hr (by simp)
                  | [_], hr, _ => exact absurd hr (by simp)
              · rw [if_neg h15] at e
                unfold PyFlat.rows at e
                cases e
                have := Parse.plain (nums := r.take (NUM w)) hw h15 (by rw [List.length_take]; omega) P
                rw [List.take_append_drop] at this
                exact this
theorem step_plain {s : KS} (ok : okS s) {w : Nat} {l : List Int} (hw : w < 23) (h15 : w ≠ 15) (hl : l.length = NUM w) : VbkoabNeutral.step (stK s) (PyVbkoab.whole [(w : Int) :: l]) = cv (mStep s [(w : Int) :: l]) := by
  have go : ∀ {d : Vbkoab.Call}, VbkoabNeutral.callOf (PyVbkoab.whole [(w : Int) :: l]) = some d → Vbkoab.step (stK s) d = cv (mToldBy s w l []) → VbkoabNeutral.step (stK s) (PyVbkoab.whole [(w : Int) :: l]) = cv (mStep s [(w : Int) :: l]) := fun {d} h1 h2 => by
    unfold VbkoabNeutral.step
    rw [h1]
    show Vbkoab.step (stK s) d = cv (mToldBy s (w : Int).toNat l [])
    rw [Int.toNat_natCast]
    exact h2
  have c : w = 0 ∨ w = 1 ∨ w = 2 ∨ w = 3 ∨ w = 4 ∨ w = 5 ∨ w = 6 ∨ w = 7 ∨ w = 8 ∨ w = 9 ∨ w = 10 ∨ w = 11 ∨ w = 12 ∨ w = 13 ∨ w = 14 ∨ w = 16 ∨ w = 17 ∨ w = 18 ∨ w = 19 ∨ w = 20 ∨ w = 21 ∨ w = 22 := by omega
  rcases c with rfl | rfl | rfl | rfl | rfl | rfl | rfl | rfl | rfl | rfl | rfl | rfl | rfl | rfl | rfl | rfl | rfl | rfl | rfl | rfl | rfl | rfl
  · obtain rfl := List.eq_nil_of_length_eq_zero hl
    exact go (d := .person) rfl (step0 _)
  · obtain ⟨x, y, rfl⟩ := len2 hl
    exact go (d := .same x y) rfl (step1 _ _ _)
  · obtain ⟨x, y, rfl⟩ := len2 hl
    exact go (d := .differ x y) rfl (step2 _ _ _)
  · obtain ⟨x, y, z, rfl⟩ := len3 hl
    exact go (d := .link x y z) rfl (step3 _ _ _ _)
  · obtain ⟨x, y, z, rfl⟩ := len3 hl
    exact go (d := .key x y z) rfl (step4 _ _ _ _)
  · obtain ⟨x, y, z, rfl⟩ := len3 hl
    exact go (d := .single x y z) rfl (step5 _ _ _ _)
  · obtain ⟨x, y, z, u, rfl⟩ := len4 hl
    exact go (d := .if_ x y z u) rfl (step6 _ _ _ _ _)
  · obtain ⟨x, y, z, u, v, t, rfl⟩ := len6 hl
    exact go (d := .both x y z u v t) rfl (step7 _ _ _ _ _ _ _)
  · obtain ⟨x, rfl⟩ := len1 hl
    exact go (d := .drop x) rfl (step8 _ _)
  · obtain rfl := List.eq_nil_of_length_eq_zero hl
    exact go (d := .fits) rfl (step9 ok _ _)
  · obtain rfl := List.eq_nil_of_length_eq_zero hl
    exact go (d := .run) rfl (step10 ok _ _)
  · obtain rfl := List.eq_nil_of_length_eq_zero hl
    exact go (d := .books) rfl (step11 ok _ _)
  · obtain ⟨x, y, rfl⟩ := len2 hl
    exact go (d := .verdict x y) rfl (step12 ok _ _ _)
  · obtain ⟨x, y, rfl⟩ := len2 hl
    exact go (d := .why x y) rfl (step13 ok _ _ _)
  · obtain ⟨x, y, rfl⟩ := len2 hl
    exact go (d := .whynot x y) rfl (step14 ok _ _ _)
  · obtain ⟨x, y, rfl⟩ := len2 hl
    exact go (d := .core x y) rfl (step16 ok _ _ _)
  · obtain rfl := List.eq_nil_of_length_eq_zero hl
    exact go (d := .clash) rfl (step17 ok _ _)
  · obtain ⟨x, y, z, rfl⟩ := len3 hl
    exact go (d := .known x y z) rfl (step18 ok _ _ _ _)
  · obtain ⟨x, y, rfl⟩ := len2 hl
    exact go (d := .linked x y) rfl (step19 ok _ _ _)
  · obtain ⟨x, y, rfl⟩ := len2 hl
    exact go (d := .value x y) rfl (step20 ok _ _ _)
  · obtain rfl := List.eq_nil_of_length_eq_zero hl
    exact go (d := .told) rfl (step21 _ _)
  · obtain ⟨x, y, rfl⟩ := len2 hl
    exact go (d := .ways x y) rfl (step22 ok _ _ _)
theorem step_check {s : KS} (ok : okS s) (x y : Int) (row : List Int) : VbkoabNeutral.step (stK s) (PyVbkoab.whole [[15, x, y], row]) = cv (mStep s [[15, x, y], row]) := step15 ok x y row
theorem played_eq {l : List Int} {cs : List (List (List Int))} (h : Parse l cs) : ∀ {s : KS}, okS s → PyFlat.played VbkoabNeutral.step (stK s) (cs.map PyVbkoab.whole) = PyFlat.played mStep s cs := by
  induction h with
  | nil => intro s _; rfl
  | @plain w nums rest cs hw h15 hl _ ih =>
    intro s ok
    rw [List.map_cons]
    unfold PyFlat.played
    rw [step_plain ok hw h15 hl]
    show (mStep s _).2 :: PyFlat.played VbkoabNeutral.step (stK (mStep s [(w : Int) :: nums]).1) _ = _
    rw [ih (s := (mStep s [(w : Int) :: nums]).1) (told_ok ok _ _ _ hl)]
  | @check x y row rest cs _ ih =>
    intro s ok
    rw [List.map_cons]
    unfold PyFlat.played
    rw [step_check ok]
    show (mStep s _).2 :: PyFlat.played VbkoabNeutral.step (stK (mStep s [[15, x, y], row]).1) _ = _
    rw [ih (s := (mStep s [[15, x, y], row]).1) (told_ok ok 15 [x, y] row rfl)]
theorem start_ok : okS (0, []) := ⟨by decide, by decide, fun e h => by cases h⟩
theorem answers_eq {l : List Int} (h : PyVbkoab.answers_asked l = true) : ∃ cs, Parse l cs ∧ PyVbkoab.answers l = PyFlat.told (PyFlat.played mStep (0, []) cs) ∧ (PyFlat.told (PyFlat.played mStep (0, []) cs)).length ≤ 10000000 := by
  unfold PyVbkoab.answers_asked at h
  cases e : PyFlat.calls PyVbkoab.shape l.length l with
  | none => rw [e] at h; cases h
  | some cs =>
    rw [e] at h
    have P := parse_of _ _ _ e
    have a : PyVbkoab.answers l = PyFlat.told (PyFlat.played mStep (0, []) cs) := by
      unfold PyVbkoab.answers PyVbkoab.calls
      rw [e]
      show PyFlat.told (PyFlat.played VbkoabNeutral.step (stK (0, [])) (cs.map PyVbkoab.whole)) = _
      rw [played_eq P start_ok]
    refine ⟨cs, P, a, ?_⟩
    replace h := (Bool.and_eq_true_iff.mp h).2
    rw [a] at h
    exact of_decide_eq_true h
end PB
namespace PB
open PySem PySem.Spec PyProof.Rows L2
local macro_rules | `(tactic| walk_at "at") => `(tactic| first | exact at0 _ | exact at1 _ | rfl | assumption)
local macro_rules | `(tactic| walk_at "p") => `(tactic| first | assumption | exact (rfl : (is _).p _ _))
local macro_rules | `(tactic| walk_at "nm") => `(tactic| first
  | exact ev_glob (by assumption) (by first | exact ⟨_, rfl⟩ | rfl)
  | exact ev_nameI (by rfl) rfl (by walk_at "p"))
local macro_rules | `(tactic| walk_at "ev") => `(tactic| first
  | (with_reducible show Ev _ (PySem.Expr.Constant _ _ _) _ _ _); first | exact ev_int | exact ev_non | exact ev_bool | exact ev_str
  | (with_reducible show Ev _ (PySem.Expr.Name _ _) _ _ _); walk_at "nm"
  | (with_reducible show Ev _ (PySem.Expr.Subscript _ _ _) _ _ _); first | exact ev_ixT (by walk_at "ev") (by walk_at "ev") (by walk_at "at") | exact ev_ixL (by walk_at "ev") (by walk_at "ev") (by walk_at "at")
  | (with_reducible show Ev _ (PySem.Expr.Tuple _ _ _) _ _ _); exact ev_tup (by walk_at "ea")
  | (with_reducible show Ev _ (PySem.Expr.UnaryOp PySem.UnaryOp.USub _ _) _ _ _); exact ev_neg (by walk_at "ev")
  | (with_reducible show Ev _ (PySem.Expr.Compare _ [PySem.CmpOp.Eq] _ _) _ _ _); exact ev_eqI (by walk_at "ev") (by walk_at "ev")
  | (with_reducible show Ev _ (PySem.Expr.Compare _ [PySem.CmpOp.NotEq] _ _) _ _ _); exact ev_neI (by walk_at "ev") (by walk_at "ev"))
local macro_rules | `(tactic| walk_at "ea") => `(tactic| first
  | (with_reducible show EvA _ [] _ _ _); exact ea_nil
  | exact ea_cons (by walk_at "ev") (by walk_at "ea"))
local macro_rules | `(tactic| walk_at "et") => `(tactic| first
  | (with_reducible show EvT _ (PySem.Expr.Compare _ [PySem.CmpOp.Eq] _ _) _ _ _); exact evt_eqI (by walk_at "ev") (by walk_at "ev")
  | (with_reducible show EvT _ (PySem.Expr.Compare _ [PySem.CmpOp.NotEq] _ _) _ _ _); exact evt_neI (by walk_at "ev") (by walk_at "ev")
  | (with_reducible show EvT _ (PySem.Expr.Compare _ [PySem.CmpOp.Lt] _ _) _ _ _); exact evt_ltI (by walk_at "ev") (by walk_at "ev")
  | (with_reducible show EvT _ (PySem.Expr.Compare _ [PySem.CmpOp.LtE] _ _) _ _ _); exact evt_leI (by walk_at "ev") (by walk_at "ev")
  | (with_reducible show EvT _ (PySem.Expr.Compare _ [PySem.CmpOp.Gt] _ _) _ _ _); exact evt_gtI (by walk_at "ev") (by walk_at "ev")
  | (with_reducible show EvT _ (PySem.Expr.Compare _ [PySem.CmpOp.GtE] _ _) _ _ _); exact evt_geI (by walk_at "ev") (by walk_at "ev"))
/-! ### books.py: answers -/
abbrev sAnswers : Stmt := top 66
theorem scAnswers : FnScope ["calls", "keeper", "found", "at", "word", "here", "numbers", "row", "told"] ["calls"] (defScope sAnswers) := ⟨rfl, rfl, rfl, by decide +kernel, rfl, by decide +kernel, by decide +kernel⟩
noncomputable abbrev mAns (cs : List (List (List Int))) : List Int := PyFlat.told (PyFlat.played mStep (0, []) cs)
noncomputable def spAns (K : PySem.W.Frag) : Sp := fun vs H Q _ => ∃ (a : Addr) (l : List Int) (cs : List (List (List Int))), vs = [.ref a] ∧ SqL K H a (l.map V.int) ∧ Parse l cs ∧ l.length ≤ 17000 ∧ (mAns cs).length ≤ 10000000 ∧
  ∀ p H', H' p = some (.lst ((mAns cs).map V.int)) → Q (.ref p) H'
/-- the state of the loop -/
structure ASt (K : PySem.W.Frag) (CK a c lf : Addr) (l : List Int) (s : KS) (xs : List Int) (N H : Hp) : Prop where
  sm : Same N H
  nc : N c = none
  nl : N lf = none
  ne : c ≠ lf
  ka : Kat CK c (keeperF s) N H
  el : H lf = some (.lst (xs.map V.int))
  q : (isQ K l).p (.ref a) N
section
variable {K : PySem.W.Frag} {CK a c lf : Addr} {l : List Int} {s : KS} {xs : List Int} {N H N' H' : Hp}
theorem ASt.grow (S : ASt K CK a c lf l s xs N H) (g : Grow N H N' H') : ASt K CK a c lf l s xs N' H' :=
  ⟨g.nh, g.nw c S.nc S.ka.ne, g.nw lf S.nl (by rw [S.el]; simp), S.ne, S.ka.more g.nn (g.hh c), g.hh _ _ S.el, (isQ K l).mono g.nn S.q⟩
theorem ASt.more (S : ASt K CK a c lf l s xs N H) (t : Same H H') : ASt K CK a c lf l s xs N H' := S.grow (.keep S.sm t)
theorem ASt.put (S : ASt K CK a c lf l s xs N H) (ys : List Int) : ASt K CK a c lf l s ys N (upd H lf (.lst (ys.map V.int))) :=
  ⟨fun b o e => by rw [upd_ne (ne_of_none e S.nl)]; exact S.sm b o e, S.nc, S.nl, S.ne, S.ka.more (Same.refl _) fun o e => by rw [upd_ne S.ne]; exact e, upd_same, S.q⟩
theorem ASt.told {t : KS} (S : ASt K CK a c lf l s xs N H) (b : But c N H N' H') (k : Kat CK c (keeperF t) N' H') : ASt K CK a c lf l t xs N' H' :=
  ⟨b.nh, b.nw c S.nc S.ka.ne, b.nw lf S.nl (by rw [S.el]; simp), S.ne, k, b.hb lf _ (fun z => S.ne z.symm) S.el, (isQ K l).mono b.nn S.q⟩
end
theorem cut_mid {α : Type} {l : List α} {i j : Nat} (hj : i + j ≤ l.length) : cutA l (some (i : Int)) (some ((i + j : Nat) : Int)) = (l.drop i).take j := by
  unfold cutA
  rw [HT.sIx_nat, HT.sIx_nat, Nat.min_eq_left hj, Nat.min_eq_left (show i ≤ l.length by omega)]
  congr 1
  omega
theorem drop_at {l t : List Int} {i : Nat} {x : Int} (h : l.drop i = x :: t) : l[i]? = some x ∧ l.drop (i + 1) = t ∧ i < l.length := by
  have h0 : l[i]? = some x := by
    have : (l.drop i)[0]? = some x := by rw [h]; rfl
    rw [List.getElem?_drop] at this
    exact this
  refine ⟨h0, ?_, (List.getElem?_eq_some_iff.mp h0).1⟩
  have : (l.drop i).drop 1 = t := by rw [h]; rfl
  rw [List.drop_drop] at this
  exact this
theorem drop_part {l t m : List Int} {i : Nat} (h : l.drop i = m ++ t) : (l.drop i).take m.length = m ∧ l.drop (i + m.length) = t ∧ (i ≤ l.length → i + m.length ≤ l.length) := by
  refine ⟨by rw [h, List.take_left], ?_, fun hi => ?_⟩
  · rw [← List.drop_drop, h, List.drop_left]
  · have := congrArg List.length h
    rw [List.length_drop, List.length_append] at this
    omega
theorem at_map {l : List Int} {i : Nat} {x : Int} (h : l[i]? = some x) : atI (l.map V.int) (i : Int) = some (.int x) := atI_nat (by rw [List.getElem?_map, h]; rfl)
theorem at_NUM {w : Nat} (h : w < 23) : atI (NUMS.map V.int) (w : Int) = some (V.int ((NUM w : Nat) : Int)) := by
  have c : ∀ w : Nat, w < 23 → NUMS[w]? = some ((NUM w : Nat) : Int) := by decide
  exact at_map (c w h)
theorem parse_step {d : List Int} {cs : List (List (List Int))} (h : Parse d cs) (hd : d ≠ []) : ∃ (w : Nat) (nums row rest tail : List Int) (cs2 : List (List (List Int))), w < 23 ∧ nums.length = NUM w ∧ d = (w : Int) :: (nums ++ tail) ∧ (w = 15 → tail = (row.length : Int) :: (row ++ rest)) ∧ (w ≠ 15 → tail = rest ∧ row = []) ∧ Parse rest cs2 ∧ cs.length = cs2.length + 1 ∧
    ∀ s : KS, PyFlat.told (PyFlat.played mStep s cs) = ((mToldBy s w nums row).2.length : Int) :: ((mToldBy s w nums row).2 ++ PyFlat.told (PyFlat.played mStep (mToldBy s w nums row).1 cs2)) := by
  cases h with
  | nil => exact absurd rfl hd
  | @plain w nums rest cs2 hw h15 hl hP => exact ⟨w, nums, [], rest, rest, cs2, hw, hl, rfl, fun z => absurd z h15, fun _ => ⟨rfl, rfl⟩, hP, rfl, fun s => rfl⟩
  | @check x y row rest cs2 hP => exact ⟨15, [x, y], row, rest, _, cs2, by decide, rfl, rfl, fun _ => rfl, fun z => absurd rfl z, hP, rfl, fun s => rfl⟩
theorem parse_nil {cs : List (List (List Int))} (h : Parse [] cs) : cs = [] := by cases h; rfl
section
variable {P : Program} {w : World} {K : PySem.W.Frag} {mg : Str → Option Value} {base : Heap} {CJ CG CR CK CE fI : Addr} {f : Addr} {fd : FuncData}
theorem ok_answers (F : Fun K "answers" "answers" sAnswers f fd) (T : Txt K mg CJ CG CR CK) (T2 : Txt2 K w mg CE fI) (GT : GF P w K mg base CX0 12 "told_by" ["keeper", "word", "numbers", "row"] (SpM CE CK keeperF RToldBy)) (MK : CF P w K mg base CX0 1 "Keeper" CK ["self"] (Init CK RKInit)) :
    FnOk P w K mg base CX0 13 f fd ["calls"] (spAns K) := by
  refine F.ok scAnswers (fun vs H Q E h => by obtain ⟨a, l, cs, rfl, _⟩ := h; rfl) fun cdv A outer st H vs Q E hr h => ⟨_, pss_b, ?_⟩
  obtain ⟨a, l, cs, rfl, hq, hP, hlen, htot, hfin⟩ := h
  obtain ⟨t1, g1⟩ := T.cCHECK
  obtain ⟨an, gn, kn⟩ := T2.numbers
  have nlen := T.nlen
  refine b_asgMake (i := 1) (N := H) (fs := keeperF (0, [])) (evm_make0 MK (hr.mono (by decide)) ⟨rfl, rfl⟩) (Same.refl H) (fun c dc vals N1 H1 hc0 n1c g1' e1 p1 => ?_) scAnswers.nd
  refine b_asgM (i := 2) (fun lf H2 nl s2 e2 => ?_) scAnswers.nd
  have S2 : ASt K CK a c lf l (0, []) [] N1 H2 := by
    refine ⟨g1'.nh.trans s2, n1c, g1'.nh.free nl, fun z => ?_, ⟨dc, vals, s2 _ _ e1, p1⟩, e2, a, rfl, g1'.nn.seq hq⟩
    rw [← z, e1] at nl; cases nl
  refine b_asgV (i := 3) (v := .int 0) (N := N1) ev_int S2.sm (fun H3 s3 => ?_) scAnswers.nd
  have S3 := S2.more s3
  refine b_while (fun m σ' H' => ∃ (at_ : Nat) (cs' : List (List (List Int))) (s : KS) (xs : List Int) (N' : Hp) (w4 w5 w6 w7 w8 : Option V), m = cs'.length ∧ σ' = [some (.ref a), some (.ref c), some (.ref lf), some (.int (at_ : Int)), w4, w5, w6, w7, w8] ∧ Parse (l.drop at_) cs' ∧ ASt K CK a c lf l s xs N' H' ∧ okS s ∧ xs ++ PyFlat.told (PyFlat.played mStep s cs') = mAns cs)
    cs.length ⟨0, cs, (0, []), [], N1, none, none, none, none, none, rfl, rfl, hP, S3, start_ok, rfl⟩ (fun m σ' H4 ⟨at_, cs', s, xs, N4, w4, w5, w6, w7, w8, em, es, hP4, S, ok, tot⟩ => ?_) PassesOwn.never
  subst es
  refine ⟨decide ((at_ : Int) < (l.length : Int)), N4, evt_ltI (ev_name (i := 3) rfl rfl) (ev_lenQ (l := l) nlen (ev_name (i := 0) rfl S.q)), S.sm, fun ht H5 s5 => ?_, fun ht H5 s5 => ?_⟩
  · have hlt : at_ < l.length := by have := of_decide_eq_true ht; omega
    obtain ⟨w, nums, row, rest, tail, cs2, hw, hn, hd, h15, hn15, hP2, ecs, hs⟩ := parse_step hP4 (fun z => by
      have := congrArg List.length z
      rw [List.length_drop] at this
      simp at this
      omega)
    obtain ⟨d1, d2, d3⟩ := drop_at hd
    obtain ⟨d4, d5, d6⟩ := drop_part d2
    have d6 := d6 (by omega)
    have S5 := S.more s5
    -- word = calls[at]
    refine b_asgV (i := 4) (v := .int (w : Int)) (N := N4) (ev_ixQ (l := l) (i := (at_ : Int)) (x := (w : Int)) (ev_name (i := 0) rfl S5.q) (ev_name (i := 3) rfl rfl) (at_map d1)) S5.sm (fun H6 s6 => ?_) scAnswers.nd
    have S6 := S5.more s6
    -- here = at + 1 + NUMBERS[word]
    have eh : (at_ : Int) + 1 + ((NUM w : Nat) : Int) = ((at_ + 1 + nums.length : Nat) : Int) := by rw [hn]; omega
    refine b_asgV (i := 5) (v := .int ((at_ + 1 + nums.length : Nat) : Int)) (N := N4) (ev_eq (ev_add (i := (at_ : Int) + 1) (j := ((NUM w : Nat) : Int)) (ev_add (i := (at_ : Int)) (j := 1) (ev_name (i := 3) rfl rfl) ev_int) (ev_ixW (l := NUMS) (i := (w : Int)) (ev_glob gn rfl) (ev_name (i := 4) rfl rfl) kn (at_NUM hw))) (by rw [eh])) S6.sm (fun H7 s7 => ?_) scAnswers.nd
    have S7 := S6.more s7
    -- numbers = calls[at + 1:here]
    have e1 : (at_ : Int) + 1 = ((at_ + 1 : Nat) : Int) := by omega
    refine b_asg (i := 6) (P := isI nums) (N := N4) (ev_eq (ev_slQ (l := l) (i := some ((at_ : Int) + 1)) (j := some ((at_ + 1 + nums.length : Nat) : Int)) (ev_name (i := 0) rfl S7.q) (eo_some (ev_add (i := (at_ : Int)) (j := 1) (ev_name (i := 3) rfl rfl) ev_int)) (eo_some (ev_name (i := 5) rfl rfl))) (by rw [e1, cut_mid d6, d4])) S7.sm (fun vn N8 H8 g8 pn => ?_) scAnswers.nd
    have S8 := S7.grow g8
    -- at = here
    refine b_asgV (i := 3) (v := .int ((at_ + 1 + nums.length : Nat) : Int)) (N := N8) (ev_name (i := 5) rfl rfl) S8.sm (fun H9 s9 => ?_) scAnswers.nd
    have S9 := S8.more s9
    -- row = []
    refine b_asg (i := 7) (P := isI []) (N := N8) (ev_lst (R := I) (l := []) ea_nil .nil) S9.sm (fun vr N10 H10 g10 pr => ?_) scAnswers.nd
    have S10 := S9.grow g10
    have pn10 := (isI nums).mono g10.nn pn
    refine b_whenJ (N := N10) (t := decide ((w : Int) = 15)) (fun σ2 H2 => ∃ (at2 : Nat) (vr : V) (N' : Hp) (w8 : Option V), σ2 = [some (.ref a), some (.ref c), some (.ref lf), some (.int (at2 : Int)), some (.int (w : Int)), some (.int ((at_ + 1 + nums.length : Nat) : Int)), some vn, some vr, w8] ∧ l.drop at2 = rest ∧ ASt K CK a c lf l s xs N' H2 ∧ (isI nums).p vn N' ∧ (isI row).p vr N')
      (evt_eqI (ev_name (i := 4) rfl rfl) (ev_glob g1 ⟨_, rfl⟩)) S10.sm (fun h H11 s11 => ?_) (fun h H11 s11 => ?_) (fun σ2 H12 ⟨at2, vr2, N12, w8', e2, hdr, S12, pn12, pr12⟩ => ?_)
    · have hw15 : w = 15 := by have := of_decide_eq_true h; omega
      have S11 := S10.more s11
      obtain ⟨f1, f2, f3⟩ := drop_at (d5.trans (h15 hw15))
      obtain ⟨f4, f5, f6⟩ := drop_part f2
      have f6 := f6 (by omega)
      have ea : ((at_ + 1 + nums.length : Nat) : Int) + 1 + (row.length : Int) = ((at_ + 1 + nums.length + 1 + row.length : Nat) : Int) := by omega
      refine b_asgV (i := 3) (v := .int ((at_ + 1 + nums.length + 1 + row.length : Nat) : Int)) (N := N10) (ev_eq (ev_add (i := ((at_ + 1 + nums.length : Nat) : Int) + 1) (j := (row.length : Int)) (ev_add (i := ((at_ + 1 + nums.length : Nat) : Int)) (j := 1) (ev_name (i := 5) rfl rfl) ev_int) (ev_ixQ (l := l) (i := ((at_ + 1 + nums.length : Nat) : Int)) (x := (row.length : Int)) (ev_name (i := 0) rfl S11.q) (ev_name (i := 5) rfl rfl) (at_map f1))) (by rw [ea])) S11.sm (fun H12 s12 => ?_) scAnswers.nd
      have S12 := S11.more s12
      have e3 : ((at_ + 1 + nums.length : Nat) : Int) + 1 = ((at_ + 1 + nums.length + 1 : Nat) : Int) := by omega
      refine b_asg (i := 7) (P := isI row) (N := N10) (ev_eq (ev_slQ (l := l) (i := some (((at_ + 1 + nums.length : Nat) : Int) + 1)) (j := some ((at_ + 1 + nums.length + 1 + row.length : Nat) : Int)) (ev_name (i := 0) rfl S12.q) (eo_some (ev_add (i := ((at_ + 1 + nums.length : Nat) : Int)) (j := 1) (ev_name (i := 5) rfl rfl) ev_int)) (eo_some (ev_name (i := 3) rfl rfl))) (by rw [e3, cut_mid f6, f4])) S12.sm (fun vr2 N13 H13 g13 pr13 => b_nil ?_) scAnswers.nd
      exact ⟨at_ + 1 + nums.length + 1 + row.length, vr2, N13, _, rfl, f5, S12.grow g13, (isI nums).mono g13.nn pn10, pr13⟩
    · have hw15 : w ≠ 15 := fun z => of_decide_eq_false h (by rw [z]; rfl)
      obtain ⟨k1, k2⟩ := hn15 hw15
      subst k2
      exact ⟨at_ + 1 + nums.length, vr, N10, _, rfl, d5.trans k1, S10.more s11, pn10, pr⟩
    · subst e2
      have hrow : row.length < 100000 := by
        by_cases z : w = 15
        · have := congrArg List.length (d5.trans (h15 z))
          rw [List.length_drop, List.length_cons, List.length_append] at this
          omega
        · rw [(hn15 z).2]; decide
      have hsum : (xs ++ ((mToldBy s w nums row).2.length : Int) :: ((mToldBy s w nums row).2 ++ PyFlat.told (PyFlat.played mStep (mToldBy s w nums row).1 cs2))) = mAns cs := by rw [← hs s]; exact tot
      have hle := congrArg List.length hsum
      rw [List.length_append, List.length_cons, List.length_append] at hle
      refine b_asgE (i := 8) (bE_callM0 (F := keeperF) (s0 := s) (Ps := [I (w : Int), isI nums, isI row]) (t := (mToldBy s w nums row).1) (P := isI (mToldBy s w nums row).2) GT (hr.mono (by decide)) S12.nc S12.sm S12.ka (ea_cons (P := is (.ref c)) (ev_name (i := 1) rfl rfl) (ea_cons (P := I (w : Int)) (ev_name (i := 4) rfl rfl) (ea_cons (P := isI nums) (ev_name (i := 6) rfl pn12) (ea_cons (P := isI row) (ev_name (i := 7) rfl pr12) ea_nil)))) ⟨w, nums, row, rfl, hw, hn, hrow, ok, rfl⟩ (fun vt N13 H13 b13 k13 pt => ?_)) scAnswers.nd
      have S13 := S12.told b13 k13
      refine b_appendS (N2 := N13) (N := N13) (P := I ((mToldBy s w nums row).2.length : Int)) S13.el (by rw [List.length_map]; omega) (ev_name (i := 2) rfl rfl) S13.sm (ev_lenL (R := I) (l := (mToldBy s w nums row).2) nlen (ev_name (i := 8) rfl pt)) S13.sm (fun v N14 H14 g14 pv e14 => ?_)
      cases pv
      have S14 := (S13.grow g14).put (xs ++ [((mToldBy s w nums row).2.length : Int)])
      have em2 : (xs ++ [((mToldBy s w nums row).2.length : Int)]).map V.int = xs.map V.int ++ [V.int ((mToldBy s w nums row).2.length : Int)] := by simp
      rw [em2] at S14
      have pt14 := (isI (mToldBy s w nums row).2).mono g14.nn pt
      refine b_extendS (N2 := N14) (N := N14) (S := I) (m := (mToldBy s w nums row).2) (l := lf) (xs := xs.map V.int ++ [V.int ((mToldBy s w nums row).2.length : Int)]) upd_same (by rw [List.length_append, List.length_map, List.length_singleton]; omega) (ev_name (i := 2) rfl rfl) S14.sm (ev_name (i := 8) rfl pt14) S14.sm (fun ys N15 H15 g15 py e15 => b_nil ?_)
      have ey : ys = (mToldBy s w nums row).2.map V.int := paired_map_is (H := N15) py
      subst ey
      have S15 := (S14.grow g15).put (xs ++ ((mToldBy s w nums row).2.length : Int) :: (mToldBy s w nums row).2)
      refine ⟨cs2.length, by omega, at2, cs2, (mToldBy s w nums row).1, xs ++ ((mToldBy s w nums row).2.length : Int) :: (mToldBy s w nums row).2, N15, _, _, _, _, _, rfl, rfl, by rw [hdr]; exact hP2, ?_, told_ok ok w nums row hn, ?_⟩
      · have e : (xs.map V.int ++ [V.int ((mToldBy s w nums row).2.length : Int)] ++ (mToldBy s w nums row).2.map V.int) = (xs ++ ((mToldBy s w nums row).2.length : Int) :: (mToldBy s w nums row).2).map V.int := by simp
        rw [e]
        exact S15
      · rw [← hsum]; simp
  · have hge : l.length ≤ at_ := by have := of_decide_eq_false ht; omega
    rw [List.drop_of_length_le hge] at hP4
    have e0 := parse_nil hP4
    subst e0
    have S5 := S.more s5
    have exs : xs = mAns cs := by rw [← tot]; show xs = xs ++ []; simp
    refine b_ret (P := is (.ref lf)) (N := N4) (ev_name (i := 2) rfl rfl) S5.sm (fun v N' H' g p => ?_)
    cases p
    exact hfin lf H' (by rw [← exs]; exact g.hh _ _ S5.el)
end
end PB
namespace PB
open PySem PySem.Spec PyProof.Rows L2
/-! ### all defs together (printed by gen_pe.py) -/
/-- how arguments bind -/
def BindOk (x qual : Str) (st : Stmt) (ps : List Str) : Prop := ∀ (kV doc pm : Value) (an : Option Addr) (cdv ct : Value) (us : List Value), us.length = ps.length → bindArgs (PySem.W.fnOf x qual (defArgs st) (defBody st) (defScope st) .none kV doc pm an cdv ct) ⟨us, []⟩ = pure (ps.zip us)
section
variable {P : Program} {w : World} {K : PySem.W.Frag} {mg : Str → Option Value} {base : Heap} {C f : Addr} {fd : FuncData} {x nm qual m : Str} {st : Stmt} {ps : List Str} {CX : CXT} {k : Nat} {sp : Sp}
def DefAt (K : PySem.W.Frag) (mg : Str → Option Value) (x nm qual : Str) (st : Stmt) : Prop := ∃ f fd, Fun K nm qual st f fd ∧ mg x = some (.ref f) ∧ PySem.W.keepIn K (.ref f) = true
def MethAt (K : PySem.W.Frag) (C : Addr) (m qual : Str) (st : Stmt) : Prop := ∃ f fd, Fun K m qual st f fd ∧ Meth K C m f
def MakeAt (K : PySem.W.Frag) (mg : Str → Option Value) (x : Str) (C : Addr) (qual : Str) (st : Stmt) : Prop := ∃ f fd, Fun K "__init__" qual st f fd ∧ Mk K C f ∧ mg x = some (.ref C)
theorem gf_of (d : DefAt K mg x nm qual st) (b : BindOk nm qual st ps) (ok : ∀ f fd, Fun K nm qual st f fd → FnOk P w K mg base CX k f fd ps sp) : GF P w K mg base CX k x ps sp := by
  obtain ⟨f, fd, F, m, kp⟩ := d
  exact ⟨f, fd, ok f fd F, m, kp, F.binds b⟩
theorem mf_of (d : MethAt K C m qual st) (b : BindOk m qual st ps) (ok : ∀ f fd, Fun K m qual st f fd → FnOk P w K mg base CX k f fd ps sp) : MF P w K mg base CX k C m ps sp := by
  obtain ⟨f, fd, F, M⟩ := d
  exact ⟨f, fd, ok f fd F, M, F.binds b⟩
theorem cf_of (d : MakeAt K mg x C qual st) (b : BindOk "__init__" qual st ps) (ok : ∀ f fd, Fun K "__init__" qual st f fd → FnOk P w K mg base CX k f fd ps sp) : CF P w K mg base CX k x C ps sp := by
  obtain ⟨f, fd, F, M, g⟩ := d
  exact ⟨f, fd, ok f fd F, M, g, F.binds b⟩
end
theorem bind_cond : BindOk "conditions" "conditions" sCond ["piece"] := fun _ _ _ _ _ _ us hl => match us, hl with | [_], _ => by kernel_rfl
theorem bind_cond2 : BindOk "conditions_of_two" "conditions_of_two" sCond2 ["piece", "later"] := fun _ _ _ _ _ _ us hl => match us, hl with | [_, _], _ => by kernel_rfl
theorem bind_jby : BindOk "joined_by" "joined_by" sJBy ["piece"] := fun _ _ _ _ _ _ us hl => match us, hl with | [_], _ => by kernel_rfl
theorem bind_dis : BindOk "disagree" "disagree" sDis ["piece", "later"] := fun _ _ _ _ _ _ us hl => match us, hl with | [_, _], _ => by kernel_rfl
theorem bind_jtwo : BindOk "joined_by_two" "joined_by_two" sJTwo ["piece", "later"] := fun _ _ _ _ _ _ us hl => match us, hl with | [_, _], _ => by kernel_rfl
theorem bind_joinInit : BindOk "__init__" "Join.__init__" sJoinInit ["self", "first", "later", "two", "needs"] := fun _ _ _ _ _ _ us hl => match us, hl with | [_, _, _, _, _], _ => by kernel_rfl
theorem bind_alone : BindOk "join_alone" "join_alone" sAlone ["pieces", "number"] := fun _ _ _ _ _ _ us hl => match us, hl with | [_, _], _ => by kernel_rfl
theorem bind_ofTwo : BindOk "join_of_two" "join_of_two" sOfTwo ["pieces", "number", "later"] := fun _ _ _ _ _ _ us hl => match us, hl with | [_, _, _], _ => by kernel_rfl
theorem bind_from : BindOk "joins_from" "joins_from" sFrom ["pieces", "number"] := fun _ _ _ _ _ _ us hl => match us, hl with | [_, _], _ => by kernel_rfl
theorem bind_gInit : BindOk "__init__" "Groups.__init__" sGInit ["self", "many"] := fun _ _ _ _ _ _ us hl => match us, hl with | [_, _], _ => by kernel_rfl
theorem bind_one : BindOk "are_one" "Groups.are_one" sOne ["self", "two"] := fun _ _ _ _ _ _ us hl => match us, hl with | [_, _], _ => by kernel_rfl
theorem bind_allOne : BindOk "all_one" "Groups.all_one" sAllOne ["self", "twos"] := fun _ _ _ _ _ _ us hl => match us, hl with | [_, _], _ => by kernel_rfl
theorem bind_put : BindOk "put_together" "Groups.put_together" sPut ["self", "two"] := fun _ _ _ _ _ _ us hl => match us, hl with | [_, _], _ => by kernel_rfl
theorem bind_rows : BindOk "rows" "Groups.rows" sRows ["self"] := fun _ _ _ _ _ _ us hl => match us, hl with | [_], _ => by kernel_rfl
theorem bind_first : BindOk "first_of" "Run.first_of" sFirst ["self", "every"] := fun _ _ _ _ _ _ us hl => match us, hl with | [_, _], _ => by kernel_rfl
theorem bind_rInit : BindOk "__init__" "Run.__init__" sRInit ["self", "many", "pieces"] := fun _ _ _ _ _ _ us hl => match us, hl with | [_, _, _], _ => by kernel_rfl
theorem bind_cFrom : BindOk "clash_from" "Run.clash_from" sCFrom ["self", "number"] := fun _ _ _ _ _ _ us hl => match us, hl with | [_, _], _ => by kernel_rfl
theorem bind_clash : BindOk "clash" "Run.clash" sClash ["self"] := fun _ _ _ _ _ _ us hl => match us, hl with | [_], _ => by kernel_rfl
theorem bind_way : BindOk "way" "Run.way" sWay ["self", "two"] := fun _ _ _ _ _ _ us hl => match us, hl with | [_, _], _ => by kernel_rfl
theorem bind_needed : BindOk "needed" "Run.needed" sNeeded ["self", "two"] := fun _ _ _ _ _ _ us hl => match us, hl with | [_, _], _ => by kernel_rfl
theorem bind_runOf : BindOk "run_of" "run_of" sRunOf ["many", "pieces"] := fun _ _ _ _ _ _ us hl => match us, hl with | [_, _], _ => by kernel_rfl
theorem bind_same : BindOk "with_same" "with_same" sSame ["many", "pieces", "two"] := fun _ _ _ _ _ _ us hl => match us, hl with | [_, _, _], _ => by kernel_rfl
theorem bind_verd : BindOk "verdict" "verdict" sVerd ["many", "pieces", "two"] := fun _ _ _ _ _ _ us hl => match us, hl with | [_, _, _], _ => by kernel_rfl
theorem bind_isSo : BindOk "is_so" "is_so" sIsSo ["many", "pieces", "two"] := fun _ _ _ _ _ _ us hl => match us, hl with | [_, _, _], _ => by kernel_rfl
theorem bind_core : BindOk "core" "core" sCore ["many", "pieces", "two"] := fun _ _ _ _ _ _ us hl => match us, hl with | [_, _, _], _ => by kernel_rfl
theorem bind_told : BindOk "join_told" "join_told" sTold ["pieces", "number", "later"] := fun _ _ _ _ _ _ us hl => match us, hl with | [_, _, _], _ => by kernel_rfl
theorem bind_wrong : BindOk "first_wrong" "first_wrong" sWrong ["many", "pieces", "two", "pairs"] := fun _ _ _ _ _ _ us hl => match us, hl with | [_, _, _, _], _ => by kernel_rfl
theorem bind_all : BindOk "all_groupings" "all_groupings" sAll ["many"] := fun _ _ _ _ _ _ us hl => match us, hl with | [_], _ => by kernel_rfl
theorem bind_allSo : BindOk "all_so" "all_so" sAllSo ["row", "twos"] := fun _ _ _ _ _ _ us hl => match us, hl with | [_, _], _ => by kernel_rfl
theorem bind_oneF : BindOk "one_fits" "one_fits" sOneF ["row", "piece"] := fun _ _ _ _ _ _ us hl => match us, hl with | [_, _], _ => by kernel_rfl
theorem bind_twoF : BindOk "two_fit" "two_fit" sTwoF ["row", "piece", "later"] := fun _ _ _ _ _ _ us hl => match us, hl with | [_, _, _], _ => by kernel_rfl
theorem bind_bound : BindOk "bound_twos" "bound_twos" sBound ["pieces"] := fun _ _ _ _ _ _ us hl => match us, hl with | [_], _ => by kernel_rfl
theorem bind_fit : BindOk "fitting" "fitting" sFit ["many", "pieces"] := fun _ _ _ _ _ _ us hl => match us, hl with | [_, _], _ => by kernel_rfl
theorem bind_need : BindOk "need" "need" sNeed ["truth", "answer"] := fun _ _ _ _ _ _ us hl => match us, hl with | [_, _], _ => by kernel_rfl
theorem bind_listed : BindOk "listed" "listed" sListed ["row"] := fun _ _ _ _ _ _ us hl => match us, hl with | [_], _ => by kernel_rfl
theorem bind_look : BindOk "look" "Keeper.look" sLook ["self", "words", "numbers"] := fun _ _ _ _ _ _ us hl => match us, hl with | [_, _, _], _ => by kernel_rfl
theorem bind_kRun : BindOk "run" "Keeper.run" sKRun ["self"] := fun _ _ _ _ _ _ us hl => match us, hl with | [_], _ => by kernel_rfl
theorem bind_fits : BindOk "fits" "Keeper.fits" sFits ["self"] := fun _ _ _ _ _ _ us hl => match us, hl with | [_], _ => by kernel_rfl
theorem bind_kJoins : BindOk "told_joins" "Keeper.told_joins" sKJoins ["self"] := fun _ _ _ _ _ _ us hl => match us, hl with | [_], _ => by kernel_rfl
theorem bind_kBooks : BindOk "books" "Keeper.books" sKBooks ["self"] := fun _ _ _ _ _ _ us hl => match us, hl with | [_], _ => by kernel_rfl
theorem bind_kTold : BindOk "told" "Keeper.told" sKTold ["self"] := fun _ _ _ _ _ _ us hl => match us, hl with | [_], _ => by kernel_rfl
theorem bind_needFit : BindOk "need_fit" "Keeper.need_fit" sNeedFit ["self"] := fun _ _ _ _ _ _ us hl => match us, hl with | [_], _ => by kernel_rfl
theorem bind_kVerd : BindOk "verdict" "Keeper.verdict" sKVerd ["self", "two"] := fun _ _ _ _ _ _ us hl => match us, hl with | [_, _], _ => by kernel_rfl
theorem bind_kWhy : BindOk "why" "Keeper.why" sKWhy ["self", "two"] := fun _ _ _ _ _ _ us hl => match us, hl with | [_, _], _ => by kernel_rfl
theorem bind_kWhynot : BindOk "whynot" "Keeper.whynot" sKWhynot ["self", "two"] := fun _ _ _ _ _ _ us hl => match us, hl with | [_, _], _ => by kernel_rfl
theorem bind_kCheck : BindOk "check" "Keeper.check" sKCheck ["self", "two", "row"] := fun _ _ _ _ _ _ us hl => match us, hl with | [_, _, _], _ => by kernel_rfl
theorem bind_kCore : BindOk "core" "Keeper.core" sKCore ["self", "two"] := fun _ _ _ _ _ _ us hl => match us, hl with | [_, _], _ => by kernel_rfl
theorem bind_kClash : BindOk "clash" "Keeper.clash" sKClash ["self"] := fun _ _ _ _ _ _ us hl => match us, hl with | [_], _ => by kernel_rfl
theorem bind_kKnown : BindOk "known" "Keeper.known" sKKnown ["self", "numbers"] := fun _ _ _ _ _ _ us hl => match us, hl with | [_, _], _ => by kernel_rfl
theorem bind_kWays : BindOk "ways" "Keeper.ways" sKWays ["self", "two"] := fun _ _ _ _ _ _ us hl => match us, hl with | [_, _], _ => by kernel_rfl
theorem bind_kLinked : BindOk "linked" "Keeper.linked" sKLinked ["self", "numbers"] := fun _ _ _ _ _ _ us hl => match us, hl with | [_, _], _ => by kernel_rfl
theorem bind_kValue : BindOk "value" "Keeper.value" sKValue ["self", "numbers"] := fun _ _ _ _ _ _ us hl => match us, hl with | [_, _], _ => by kernel_rfl
theorem bind_person : BindOk "person" "Keeper.person" sPerson ["self"] := fun _ _ _ _ _ _ us hl => match us, hl with | [_], _ => by kernel_rfl
theorem bind_kPut : BindOk "put" "Keeper.put" sKPut ["self", "piece", "two"] := fun _ _ _ _ _ _ us hl => match us, hl with | [_, _, _], _ => by kernel_rfl
theorem bind_putTwo : BindOk "put_two" "Keeper.put_two" sPutTwo ["self", "word", "numbers"] := fun _ _ _ _ _ _ us hl => match us, hl with | [_, _, _], _ => by kernel_rfl
theorem bind_putLink : BindOk "put_link" "Keeper.put_link" sPutLink ["self", "numbers"] := fun _ _ _ _ _ _ us hl => match us, hl with | [_, _], _ => by kernel_rfl
theorem bind_putWorth : BindOk "put_worth" "Keeper.put_worth" sPutWorth ["self", "word", "numbers"] := fun _ _ _ _ _ _ us hl => match us, hl with | [_, _, _], _ => by kernel_rfl
theorem bind_putIf : BindOk "put_if" "Keeper.put_if" sPutIf ["self", "word", "numbers"] := fun _ _ _ _ _ _ us hl => match us, hl with | [_, _, _], _ => by kernel_rfl
theorem bind_putEv : BindOk "put_evidence" "Keeper.put_evidence" sPutEv ["self", "word", "numbers"] := fun _ _ _ _ _ _ us hl => match us, hl with | [_, _, _], _ => by kernel_rfl
theorem bind_drop : BindOk "drop" "Keeper.drop" sDrop ["self", "numbers"] := fun _ _ _ _ _ _ us hl => match us, hl with | [_, _], _ => by kernel_rfl
theorem bind_kInit : BindOk "__init__" "Keeper.__init__" sKInit ["self"] := fun _ _ _ _ _ _ us hl => match us, hl with | [_], _ => by kernel_rfl
theorem bind_early : BindOk "early" "early" sEarly ["keeper", "word", "numbers"] := fun _ _ _ _ _ _ us hl => match us, hl with | [_, _, _], _ => by kernel_rfl
theorem bind_late : BindOk "late" "late" sLate ["keeper", "word", "numbers", "row"] := fun _ _ _ _ _ _ us hl => match us, hl with | [_, _, _, _], _ => by kernel_rfl
theorem bind_toldBy : BindOk "told_by" "told_by" sToldBy ["keeper", "word", "numbers", "row"] := fun _ _ _ _ _ _ us hl => match us, hl with | [_, _, _, _], _ => by kernel_rfl
theorem bind_answers : BindOk "answers" "answers" sAnswers ["calls"] := fun _ _ _ _ _ _ us hl => match us, hl with | [_], _ => by kernel_rfl
/-- where the defs stand -/
structure AllDefs (K : PySem.W.Frag) (mg : Str → Option Value) (CJ CG CR CK : Addr) : Prop where
  g_conditions : DefAt K mg "conditions" "conditions" "conditions" sCond
  g_conditions_of_two : DefAt K mg "conditions_of_two" "conditions_of_two" "conditions_of_two" sCond2
  g_joined_by : DefAt K mg "joined_by" "joined_by" "joined_by" sJBy
  g_disagree : DefAt K mg "disagree" "disagree" "disagree" sDis
  g_joined_by_two : DefAt K mg "joined_by_two" "joined_by_two" "joined_by_two" sJTwo
  c_Join : MakeAt K mg "Join" CJ "Join.__init__" sJoinInit
  g_join_alone : DefAt K mg "join_alone" "join_alone" "join_alone" sAlone
  g_join_of_two : DefAt K mg "join_of_two" "join_of_two" "join_of_two" sOfTwo
  g_joins_from : DefAt K mg "joins_from" "joins_from" "joins_from" sFrom
  c_Groups : MakeAt K mg "Groups" CG "Groups.__init__" sGInit
  m_CG_are_one : MethAt K CG "are_one" "Groups.are_one" sOne
  m_CG_all_one : MethAt K CG "all_one" "Groups.all_one" sAllOne
  m_CG_put_together : MethAt K CG "put_together" "Groups.put_together" sPut
  m_CG_rows : MethAt K CG "rows" "Groups.rows" sRows
  m_CR_first_of : MethAt K CR "first_of" "Run.first_of" sFirst
  c_Run : MakeAt K mg "Run" CR "Run.__init__" sRInit
  m_CR_clash_from : MethAt K CR "clash_from" "Run.clash_from" sCFrom
  m_CR_clash : MethAt K CR "clash" "Run.clash" sClash
  m_CR_way : MethAt K CR "way" "Run.way" sWay
  m_CR_needed : MethAt K CR "needed" "Run.needed" sNeeded
  g_run_of : DefAt K mg "run_of" "run_of" "run_of" sRunOf
  g_with_same : DefAt K mg "with_same" "with_same" "with_same" sSame
  g_verdict_runs : DefAt K mg "verdict_runs" "verdict" "verdict" sVerd
  g_is_so : DefAt K mg "is_so" "is_so" "is_so" sIsSo
  g_core_proofs : DefAt K mg "core_proofs" "core" "core" sCore
  g_join_told : DefAt K mg "join_told" "join_told" "join_told" sTold
  g_first_wrong : DefAt K mg "first_wrong" "first_wrong" "first_wrong" sWrong
  g_all_groupings : DefAt K mg "all_groupings" "all_groupings" "all_groupings" sAll
  g_all_so : DefAt K mg "all_so" "all_so" "all_so" sAllSo
  g_one_fits : DefAt K mg "one_fits" "one_fits" "one_fits" sOneF
  g_two_fit : DefAt K mg "two_fit" "two_fit" "two_fit" sTwoF
  g_bound_twos : DefAt K mg "bound_twos" "bound_twos" "bound_twos" sBound
  g_fitting : DefAt K mg "fitting" "fitting" "fitting" sFit
  g_need : DefAt K mg "need" "need" "need" sNeed
  g_listed : DefAt K mg "listed" "listed" "listed" sListed
  m_CK_look : MethAt K CK "look" "Keeper.look" sLook
  m_CK_run : MethAt K CK "run" "Keeper.run" sKRun
  m_CK_fits : MethAt K CK "fits" "Keeper.fits" sFits
  m_CK_told_joins : MethAt K CK "told_joins" "Keeper.told_joins" sKJoins
  m_CK_books : MethAt K CK "books" "Keeper.books" sKBooks
  m_CK_told : MethAt K CK "told" "Keeper.told" sKTold
  m_CK_need_fit : MethAt K CK "need_fit" "Keeper.need_fit" sNeedFit
  m_CK_verdict : MethAt K CK "verdict" "Keeper.verdict" sKVerd
  m_CK_why : MethAt K CK "why" "Keeper.why" sKWhy
  m_CK_whynot : MethAt K CK "whynot" "Keeper.whynot" sKWhynot
  m_CK_check : MethAt K CK "check" "Keeper.check" sKCheck
  m_CK_core : MethAt K CK "core" "Keeper.core" sKCore
  m_CK_clash : MethAt K CK "clash" "Keeper.clash" sKClash
  m_CK_known : MethAt K CK "known" "Keeper.known" sKKnown
  m_CK_ways : MethAt K CK "ways" "Keeper.ways" sKWays
  m_CK_linked : MethAt K CK "linked" "Keeper.linked" sKLinked
  m_CK_value : MethAt K CK "value" "Keeper.value" sKValue
  m_CK_person : MethAt K CK "person" "Keeper.person" sPerson
  m_CK_put : MethAt K CK "put" "Keeper.put" sKPut
  m_CK_put_two : MethAt K CK "put_two" "Keeper.put_two" sPutTwo
  m_CK_put_link : MethAt K CK "put_link" "Keeper.put_link" sPutLink
  m_CK_put_worth : MethAt K CK "put_worth" "Keeper.put_worth" sPutWorth
  m_CK_put_if : MethAt K CK "put_if" "Keeper.put_if" sPutIf
  m_CK_put_evidence : MethAt K CK "put_evidence" "Keeper.put_evidence" sPutEv
  m_CK_drop : MethAt K CK "drop" "Keeper.drop" sDrop
  c_Keeper : MakeAt K mg "Keeper" CK "Keeper.__init__" sKInit
  g_early : DefAt K mg "early" "early" "early" sEarly
  g_late : DefAt K mg "late" "late" "late" sLate
  g_told_by : DefAt K mg "told_by" "told_by" "told_by" sToldBy
section
variable {P : Program} {w : World} {K : PySem.W.Frag} {mg : Str → Option Value} {base : Heap} {CJ CG CR CK CE fI : Addr} {f : Addr} {fd : FuncData}
theorem all_told (T : Txt K mg CJ CG CR CK) (T2 : Txt2 K w mg CE fI) (D : AllDefs K mg CJ CG CR CK) (F : Fun K "answers" "answers" sAnswers f fd) : FnOk P w K mg base CX0 13 f fd ["calls"] (spAns K) := by
  have g_conditions : GF P w K mg base CX0 1 "conditions" ["piece"] (Pure RCond) := gf_of D.g_conditions bind_cond (fun f fd F => ok_cond F T)
  have g_conditions_of_two : GF P w K mg base CX0 1 "conditions_of_two" ["piece", "later"] (Pure RCond2) := gf_of D.g_conditions_of_two bind_cond2 (fun f fd F => ok_cond2 F T)
  have g_joined_by : GF P w K mg base CX0 1 "joined_by" ["piece"] (Pure RJBy) := gf_of D.g_joined_by bind_jby (fun f fd F => ok_jby F T)
  have g_disagree : GF P w K mg base CX0 1 "disagree" ["piece", "later"] (Pure RDis) := gf_of D.g_disagree bind_dis (fun f fd F => ok_dis F T)
  have g_joined_by_two : GF P w K mg base CX0 1 "joined_by_two" ["piece", "later"] (Pure RJTwo) := gf_of D.g_joined_by_two bind_jtwo (fun f fd F => ok_jtwo F T)
  have c_Join : CF P w K mg base CX0 1 "Join" CJ ["self", "first", "later", "two", "needs"] (Init CJ RJoinInit) := cf_of D.c_Join bind_joinInit (fun f fd F => ok_joinInit F T)
  have g_join_alone : GF P w K mg base CX0 3 "join_alone" ["pieces", "number"] (Pure (RAlone CJ)) := gf_of D.g_join_alone bind_alone (fun f fd F => ok_alone F T g_joined_by g_conditions c_Join)
  have g_join_of_two : GF P w K mg base CX0 3 "join_of_two" ["pieces", "number", "later"] (Pure (ROfTwo CJ)) := gf_of D.g_join_of_two bind_ofTwo (fun f fd F => ok_ofTwo F g_joined_by_two g_conditions_of_two c_Join)
  have g_joins_from : GF P w K mg base CX0 4 "joins_from" ["pieces", "number"] (Pure (RFrom CJ)) := gf_of D.g_joins_from bind_from (fun f fd F => ok_from F T g_join_alone g_join_of_two)
  have c_Groups : CF P w K mg base CX0 1 "Groups" CG ["self", "many"] (Init CG RGInit) := cf_of D.c_Groups bind_gInit (fun f fd F => ok_gInit F T)
  have m_CG_are_one : MF P w K mg base CX0 1 CG "are_one" ["self", "two"] (Pure (ROne CG)) := mf_of D.m_CG_are_one bind_one (fun f fd F => ok_one F T)
  have m_CG_all_one : MF P w K mg base CX0 2 CG "all_one" ["self", "twos"] (Pure (RAllOne CG)) := mf_of D.m_CG_all_one bind_allOne (fun f fd F => ok_allOne F T m_CG_are_one)
  have m_CG_put_together : MF P w K mg base CX0 1 CG "put_together" ["self", "two"] (SpPut CG) := mf_of D.m_CG_put_together bind_put (fun f fd F => ok_put F T)
  have m_CG_rows : MF P w K mg base CX0 1 CG "rows" ["self"] (Pure (RRows CG)) := mf_of D.m_CG_rows bind_rows (fun f fd F => ok_rows F T)
  have m_CR_first_of : MF P w K mg base CX0 3 CR "first_of" ["self", "every"] (Pure (RFirst CJ CG CR)) := mf_of D.m_CR_first_of bind_first (fun f fd F => ok_first F T m_CG_are_one m_CG_all_one)
  have c_Run : CF P w K mg base CX0 5 "Run" CR ["self", "many", "pieces"] (Init CR (RRInit CJ CG)) := cf_of D.c_Run bind_rInit (fun f fd F => ok_rInit F T g_joins_from c_Groups m_CR_first_of m_CG_put_together)
  have m_CR_clash_from : MF P w K mg base CX0 2 CR "clash_from" ["self", "number"] (Pure (RCFrom CJ CG CR)) := mf_of D.m_CR_clash_from bind_cFrom (fun f fd F => ok_cFrom F T m_CG_are_one g_disagree)
  have m_CR_clash : MF P w K mg base CX0 3 CR "clash" ["self"] (Pure (RClash CJ CG CR)) := mf_of D.m_CR_clash bind_clash (fun f fd F => ok_clash F T m_CR_clash_from)
  have m_CR_way : MF P w K mg base CX0 1 CR "way" ["self", "two"] (Pure (RWay CJ CG CR)) := mf_of D.m_CR_way bind_way (fun f fd F => ok_way F T)
  have m_CR_needed : MF P w K mg base CX0 2 CR "needed" ["self", "two"] (Pure (RNeeded CJ CG CR)) := mf_of D.m_CR_needed bind_needed (fun f fd F => ok_needed F T m_CR_way)
  have g_run_of : GF P w K mg base CX0 7 "run_of" ["many", "pieces"] (Pure (RRunOf CJ CG CR)) := gf_of D.g_run_of bind_runOf (fun f fd F => ok_runOf F c_Run)
  have g_with_same : GF P w K mg base CX0 8 "with_same" ["many", "pieces", "two"] (Pure (RSame CJ CG CR)) := gf_of D.g_with_same bind_same (fun f fd F => ok_same F g_run_of)
  have g_verdict_runs : GF P w K mg base CX0 9 "verdict_runs" ["many", "pieces", "two"] (Pure RVerd) := gf_of D.g_verdict_runs bind_verd (fun f fd F => ok_verd F T g_run_of g_with_same m_CR_clash m_CG_are_one)
  have g_is_so : GF P w K mg base CX0 8 "is_so" ["many", "pieces", "two"] (Pure RIsSo) := gf_of D.g_is_so bind_isSo (fun f fd F => ok_isSo F T g_run_of m_CR_clash m_CG_are_one)
  have g_core_proofs : GF P w K mg base CX0 9 "core_proofs" ["many", "pieces", "two"] (Pure RCore) := gf_of D.g_core_proofs bind_core (fun f fd F => ok_core F T g_is_so)
  have g_join_told : GF P w K mg base CX0 4 "join_told" ["pieces", "number", "later"] (Pure (RTold CJ)) := gf_of D.g_join_told bind_told (fun f fd F => ok_told F T g_join_alone g_join_of_two)
  have g_first_wrong : GF P w K mg base CX0 5 "first_wrong" ["many", "pieces", "two", "pairs"] (Pure RWrong) := gf_of D.g_first_wrong bind_wrong (fun f fd F => ok_wrong F T g_join_told c_Groups m_CG_are_one m_CG_all_one m_CG_put_together)
  have g_all_groupings : GF P w K mg base CX0 1 "all_groupings" ["many"] (Pure RAll) := gf_of D.g_all_groupings bind_all (fun f fd F => ok_all F T)
  have g_all_so : GF P w K mg base CX0 1 "all_so" ["row", "twos"] (Pure RAllSo) := gf_of D.g_all_so bind_allSo (fun f fd F => ok_allSo F)
  have g_one_fits : GF P w K mg base CX0 2 "one_fits" ["row", "piece"] (Pure ROneF) := gf_of D.g_one_fits bind_oneF (fun f fd F => ok_oneF F T g_joined_by g_conditions g_all_so)
  have g_two_fit : GF P w K mg base CX0 2 "two_fit" ["row", "piece", "later"] (Pure RTwoF) := gf_of D.g_two_fit bind_twoF (fun f fd F => ok_twoF F g_disagree g_joined_by_two g_conditions_of_two g_all_so)
  have g_bound_twos : GF P w K mg base CX0 2 "bound_twos" ["pieces"] (Pure RBound) := gf_of D.g_bound_twos bind_bound (fun f fd F => ok_bound F T g_disagree g_joined_by_two)
  have g_fitting : GF P w K mg base CX0 3 "fitting" ["many", "pieces"] (Pure RFit) := gf_of D.g_fitting bind_fit (fun f fd F => ok_fit F g_all_groupings g_one_fits g_bound_twos g_two_fit)
  have g_need : GF P w K mg base (L2.CX P w) 2 "need" ["truth", "answer"] (PureX CE RNeed) := gf_of D.g_need bind_need (fun f fd F => ok_need F T2)
  have g_listed : GF P w K mg base CX0 1 "listed" ["row"] (Pure RListed) := gf_of D.g_listed bind_listed (fun f fd F => ok_listed F T)
  have m_CK_look : MF P w K mg base (L2.CX P w) 3 CK "look" ["self", "words", "numbers"] (PureX CE (RLook CK)) := mf_of D.m_CK_look bind_look (fun f fd F => ok_look F T T2 g_need)
  have m_CK_run : MF P w K mg base CX0 8 CK "run" ["self"] (Pure (RKRun CJ CG CR CK)) := mf_of D.m_CK_run bind_kRun (fun f fd F => ok_kRun F T g_run_of)
  have m_CK_fits : MF P w K mg base CX0 9 CK "fits" ["self"] (Pure (RKOut CK mFits)) := mf_of D.m_CK_fits bind_fits (fun f fd F => ok_fits F T m_CK_run m_CR_clash)
  have m_CK_told_joins : MF P w K mg base CX0 9 CK "told_joins" ["self"] (Pure (RKOut CK mJoins)) := mf_of D.m_CK_told_joins bind_kJoins (fun f fd F => ok_kJoins F T m_CK_run)
  have m_CK_books : MF P w K mg base CX0 9 CK "books" ["self"] (Pure fun Ps P => ∃ s, Ps = [keeper CK s] ∧ okS s ∧ P = isNs (mBooks s)) := mf_of D.m_CK_books bind_kBooks (fun f fd F => ok_kBooks F T m_CK_run m_CG_rows g_listed)
  have m_CK_told : MF P w K mg base CX0 1 CK "told" ["self"] (Pure (RKOut CK mAllTold)) := mf_of D.m_CK_told bind_kTold (fun f fd F => ok_kTold F T)
  have m_CK_need_fit : MF P w K mg base (L2.CX P w) 9 CK "need_fit" ["self"] (PureX CE (RNeedFit CK)) := mf_of D.m_CK_need_fit bind_needFit (fun f fd F => ok_needFit F T g_need m_CK_run m_CR_clash)
  have m_CK_verdict : MF P w K mg base (L2.CX P w) 10 CK "verdict" ["self", "two"] (PureX CE (RKX CK 2 mVerd)) := mf_of D.m_CK_verdict bind_kVerd (fun f fd F => ok_kVerd F T m_CK_look m_CK_need_fit g_verdict_runs)
  have m_CK_why : MF P w K mg base (L2.CX P w) 10 CK "why" ["self", "two"] (PureX CE (RKX CK 2 mWhy)) := mf_of D.m_CK_why bind_kWhy (fun f fd F => ok_kWhy F T m_CK_look m_CK_run m_CG_are_one m_CR_needed g_listed)
  have m_CK_whynot : MF P w K mg base (L2.CX P w) 10 CK "whynot" ["self", "two"] (PureX CE (RKX CK 2 mWhynot)) := mf_of D.m_CK_whynot bind_kWhynot (fun f fd F => ok_kWhynot F T g_need m_CK_look m_CK_need_fit g_with_same m_CR_clash m_CR_needed)
  have m_CK_check : MF P w K mg base (L2.CX P w) 10 CK "check" ["self", "two", "row"] (PureX CE (RKX2 CK 2 mCheck)) := mf_of D.m_CK_check bind_kCheck (fun f fd F => ok_kCheck F T g_need m_CK_look g_first_wrong)
  have m_CK_core : MF P w K mg base (L2.CX P w) 10 CK "core" ["self", "two"] (PureX CE (RKX CK 2 mKCore)) := mf_of D.m_CK_core bind_kCore (fun f fd F => ok_kCore F T m_CK_look g_core_proofs g_listed)
  have m_CK_clash : MF P w K mg base CX0 10 CK "clash" ["self"] (Pure (RKOut CK mKClash)) := mf_of D.m_CK_clash bind_kClash (fun f fd F => ok_kClash F T g_core_proofs g_listed)
  have m_CK_known : MF P w K mg base (L2.CX P w) 10 CK "known" ["self", "numbers"] (PureX CE (RKX CK 3 mKnown)) := mf_of D.m_CK_known bind_kKnown (fun f fd F => ok_kKnown F T m_CK_look g_verdict_runs)
  have m_CK_ways : MF P w K mg base (L2.CX P w) 10 CK "ways" ["self", "two"] (PureX CE (RKX CK 2 mWays)) := mf_of D.m_CK_ways bind_kWays (fun f fd F => ok_kWays F T g_need m_CK_look g_fitting)
  have m_CK_linked : MF P w K mg base (L2.CX P w) 10 CK "linked" ["self", "numbers"] (PureX CE (RKX CK 2 mLinked)) := mf_of D.m_CK_linked bind_kLinked (fun f fd F => ok_kLinked F T m_CK_look m_CK_run m_CG_are_one)
  have m_CK_value : MF P w K mg base (L2.CX P w) 10 CK "value" ["self", "numbers"] (PureX CE (RKX CK 2 mValue)) := mf_of D.m_CK_value bind_kValue (fun f fd F => ok_kValue F T m_CK_look m_CK_run m_CG_are_one)
  have m_CK_person : MF P w K mg base (L2.CX P w) 3 CK "person" ["self"] (SpK CE CK RPerson) := mf_of D.m_CK_person bind_person (fun f fd F => ok_person F T g_need)
  have m_CK_put : MF P w K mg base (L2.CX P w) 3 CK "put" ["self", "piece", "two"] (SpK CE CK RKPut) := mf_of D.m_CK_put bind_kPut (fun f fd F => ok_kPut F T g_need)
  have m_CK_put_two : MF P w K mg base (L2.CX P w) 4 CK "put_two" ["self", "word", "numbers"] (SpK CE CK (RPutW [1, 2])) := mf_of D.m_CK_put_two bind_putTwo (fun f fd F => ok_putTwo F T m_CK_look m_CK_put)
  have m_CK_put_link : MF P w K mg base (L2.CX P w) 4 CK "put_link" ["self", "numbers"] (SpK CE CK RPutL) := mf_of D.m_CK_put_link bind_putLink (fun f fd F => ok_putLink F T m_CK_look m_CK_put)
  have m_CK_put_worth : MF P w K mg base (L2.CX P w) 4 CK "put_worth" ["self", "word", "numbers"] (SpK CE CK (RPutW [4, 5])) := mf_of D.m_CK_put_worth bind_putWorth (fun f fd F => ok_putWorth F T m_CK_look m_CK_put)
  have m_CK_put_if : MF P w K mg base (L2.CX P w) 4 CK "put_if" ["self", "word", "numbers"] (SpK CE CK (RPutW [6, 7])) := mf_of D.m_CK_put_if bind_putIf (fun f fd F => ok_putIf F T m_CK_look m_CK_put)
  have m_CK_put_evidence : MF P w K mg base (L2.CX P w) 5 CK "put_evidence" ["self", "word", "numbers"] (SpK CE CK (RPutW [1, 2, 3, 4, 5, 6, 7])) := mf_of D.m_CK_put_evidence bind_putEv (fun f fd F => ok_putEv F T m_CK_put_two m_CK_put_link m_CK_put_worth m_CK_put_if)
  have m_CK_drop : MF P w K mg base (L2.CX P w) 4 CK "drop" ["self", "numbers"] (SpK CE CK RDrop) := mf_of D.m_CK_drop bind_drop (fun f fd F => ok_drop F T m_CK_look)
  have c_Keeper : CF P w K mg base CX0 1 "Keeper" CK ["self"] (Init CK RKInit) := cf_of D.c_Keeper bind_kInit (fun f fd F => ok_kInit F T)
  have g_early : GF P w K mg base (L2.CX P w) 11 "early" ["keeper", "word", "numbers"] (SpK CE CK REarly) := gf_of D.g_early bind_early (fun f fd F => ok_early F T ⟨m_CK_person, m_CK_put_evidence, m_CK_drop, m_CK_fits, m_CK_told_joins, m_CK_books, m_CK_verdict, m_CK_why, m_CK_whynot⟩)
  have g_late : GF P w K mg base (L2.CX P w) 11 "late" ["keeper", "word", "numbers", "row"] (SpK CE CK RLate) := gf_of D.g_late bind_late (fun f fd F => ok_late F T ⟨m_CK_check, m_CK_core, m_CK_clash, m_CK_known, m_CK_linked, m_CK_value, m_CK_told, m_CK_ways⟩)
  have g_told_by : GF P w K mg base CX0 12 "told_by" ["keeper", "word", "numbers", "row"] (SpM CE CK keeperF RToldBy) := gf_of D.g_told_by bind_toldBy (fun f fd F => ok_toldBy F T T2 g_early g_late)
  exact ok_answers F T T2 g_told_by c_Keeper
end
end PB
namespace PySem
namespace RefX
open PySem.W PySem.Calls PyProof.Rows PySem.HandSPX
theorem exm_self {K : Frag} {S : Addr} (h1 : subIn K (.ref S) (.type "BaseException") = some true) (h2 : isClsIn K S = true) (h3 : typeIn K (.ref S) = some (.type "type")) (h4 : subIn K (.ref S) (.ref S) = some true) : exmOne K (.ref S) (.ref S) = some true := by
  have e1 : (subIn K (.ref S) (.type "BaseException") == some true) = true := by rw [h1] <;> rfl
  have e2 : ((clsIn K S).isSome && typeIn K (.ref S) == some (.type "type")) = true := by
    have h2' : (clsIn K S).isSome = true := h2
    rw [h2', h3] <;> rfl
  show (if (subIn K (.ref S) (.type "BaseException") == some true) = true then (if ((clsIn K S).isSome && typeIn K (.ref S) == some (.type "type")) = true then subIn K (.ref S) (.ref S) else none) else none) = some true
  rw [if_pos e1, if_pos e2]
  exact h4
theorem ref_mk {K : Frag} {h : Heap} {mg : Str → Option Value} {C fI : Addr} (X : K.In h) (G : h.Ns mainGlobals mg)
    {nm q : Str} {N : Addr} {bs : List Value} {sn : List Str} {sub : List Value} {ab : Bool} {col : Option Bool} {dd : Option Addr} {m0 m1 m2 m3 m5 : Option Value}
    {od1 an1 : Option Addr} {sl1 : Array (Option Value)} {oc1 dc1 pm1 cd1 ct1 : Value} {p1 p2 q1 q2 q3 q4 : Pos}
    (aC : nsIn K mainGlobals "Refused" = some (some (.ref C)))
    (xL : K.lookup C = some (excClassObj nm q C N bs [.type "ValueError", .type "Exception", .type "BaseException", .type "object"] true sn sub ab col dd m0 m1 m2 m3 m5 "ValueError.__new__"))
    (sa : findIn K (.ref C) "__setattr__" = some (some (.builtin "object.__setattr__"))) (ga : findIn K (.ref C) "__getattribute__" = some (some (.builtin "BaseException.__getattribute__"))) (gg : findIn K (.ref C) "__getattr__" = some none) (nb : findIn K (.ref C) "answer" = some none)
    (a1 : findIn K (.ref C) "__init__" = some (some (.ref fI))) (t1 : typeIn K (.ref fI) = some (.type "function"))
    (l1 : K.lookup fI = some ⟨oc1, od1, .func (fnOf "__init__" "Refused.__init__" (iA p1 p2) (iB q1 q2 q3 q4) iS .none .none dc1 pm1 an1 cd1 ct1), sl1⟩) (c1 : codeIn K cd1 "Refused.__init__" = true)
    (kC : keepIn K (.ref C) = true) (eC : subIn K (.ref C) (.type "BaseException") = some true) (tC : typeIn K (.ref C) = some (.type "type")) (hC : hasDictIn K C = true) (iC : isClsIn K C = true) (sC : subIn K (.ref C) (.ref C) = some true) : RefTxt K mg C fI :=
  { gC := mg_of X G aC, cls := ⟨nm, q, N, bs, _, sn, sub, ab, col, dd, m0, m1, m2, m3, m5, xL, by decide +kernel⟩, sa := sa, ga := ga, gg := gg, noN := nb, iC := a1, tC := t1, kC := kC, exC := eC, tyC := tC, hdC := hC, te := exm_self eC iC tC sC,
    fn := ⟨_, _, _, _, _, _, _, _, _, _, _, _, _, _, l1, c1⟩ }
end RefX
end PySem
namespace PB
open PySem PySem.Spec PyProof.Rows L2
/-! ### what the head has to show -/
section
variable {P : Program} {w : World} {K : PySem.W.Frag} {h : Heap} {mg : Str → Option Value} {x nm qual m : Str} {st : Stmt} {f C : Addr} {oc : Value} {od an : Option Addr} {osl : Array (Option Value)} {kV doc pm cdv ct : Value}
theorem def_at (X : K.In h) (G : h.Ns mainGlobals mg) (a : PySem.W.nsIn K mainGlobals x = some (some (.ref f)))
    (l : K.lookup f = some ⟨oc, od, .func (PySem.W.fnOf nm qual (defArgs st) (defBody st) (defScope st) .none kV doc pm an cdv ct), osl⟩)
    (c : PySem.W.codeIn K cdv qual = true) (k : PySem.W.keepIn K (.ref f) = true) : DefAt K mg x nm qual st := ⟨f, _, fun_mk l c k, PySem.W.mg_of X G a, k⟩
theorem meth_at (a : PySem.W.findIn K (.ref C) m = some (some (.ref f))) (i : PySem.W.isFn K (.ref f) = true)
    (l : K.lookup f = some ⟨oc, od, .func (PySem.W.fnOf m qual (defArgs st) (defBody st) (defScope st) .none kV doc pm an cdv ct), osl⟩)
    (c : PySem.W.codeIn K cdv qual = true) (k : PySem.W.keepIn K (.ref f) = true) : MethAt K C m qual st := ⟨f, _, fun_mk l c k, a, i, k⟩
theorem make_at (X : K.In h) (G : h.Ns mainGlobals mg) (g : PySem.W.nsIn K mainGlobals x = some (some (.ref C))) (mk : PySem.W.makesIn K C = true) (a : PySem.W.findIn K (.ref C) "__init__" = some (some (.ref f))) (i : PySem.W.isFn K (.ref f) = true) (kc : PySem.W.keepIn K (.ref C) = true)
    (l : K.lookup f = some ⟨oc, od, .func (PySem.W.fnOf "__init__" qual (defArgs st) (defBody st) (defScope st) .none kV doc pm an cdv ct), osl⟩)
    (c : PySem.W.codeIn K cdv qual = true) (k : PySem.W.keepIn K (.ref f) = true) : MakeAt K mg x C qual st := ⟨f, _, fun_mk l c k, ⟨mk, a, i, kc⟩, PySem.W.mg_of X G g⟩
theorem int_at (X : K.In h) (G : h.Ns mainGlobals mg) {i : Int} {t : Tok} (a : PySem.W.nsIn K mainGlobals x = some (some (.int i t))) : ∃ t, mg x = some (.int i t) := ⟨t, PySem.W.mg_of X G a⟩
theorem str_at (X : K.In h) (G : h.Ns mainGlobals mg) {i : Str} {t : Tok} (a : PySem.W.nsIn K mainGlobals x = some (some (.str i t))) : ∃ t, mg x = some (.str i t) := ⟨t, PySem.W.mg_of X G a⟩
theorem cls_at (pg : PySem.W.plainGet K C Str.empty = true) (hd : PySem.W.hasDictIn K C = true) (po : PySem.W.plainOver K C = true) (sa : PySem.W.findIn K (.ref C) "__setattr__" = some (some (.builtin "object.__setattr__"))) : Cls K C := ⟨pg, hd, po, sa⟩
theorem twos_at (X : K.In h) (G : h.Ns mainGlobals mg) {a : Addr} {t1 t2 : Tok} {n : Nat} {dN : Option Addr} {slN : Array (Option Value)} (g : PySem.W.nsIn K mainGlobals "IN_TWOS" = some (some (.ref a)))
    (l : K.lookup a = some ⟨.type "tuple", dN, .seq (List.toArray [.int 3 t1, .int 4 t2]) n, slN⟩) : ∃ a, mg "IN_TWOS" = some (.ref a) ∧ ∀ H, SqT K H a [.int 3, .int 4] :=
  ⟨a, PySem.W.mg_of X G g, fun H => .inr ⟨_, _, _, l, rfl, rfl, by rw [PySem.sizeLine_eq]; show 2 ≤ 16777216; decide, .cons ⟨_, rfl⟩ (.cons ⟨_, rfl⟩ .nil)⟩⟩
theorem nums_at (X : K.In h) (G : h.Ns mainGlobals mg) {a : Addr} {t0 t1 t2 t3 t4 t5 t6 t7 t8 t9 t10 t11 t12 t13 t14 t15 t16 t17 t18 t19 t20 t21 t22 : Tok} {n : Nat} {dN : Option Addr} {slN : Array (Option Value)} (g : PySem.W.nsIn K mainGlobals "NUMBERS" = some (some (.ref a)))
    (l : K.lookup a = some ⟨.type "tuple", dN, .seq (List.toArray [.int 0 t0, .int 2 t1, .int 2 t2, .int 3 t3, .int 3 t4, .int 3 t5, .int 4 t6, .int 6 t7, .int 1 t8, .int 0 t9, .int 0 t10, .int 0 t11, .int 2 t12, .int 2 t13, .int 2 t14, .int 2 t15, .int 2 t16, .int 0 t17, .int 3 t18, .int 2 t19, .int 2 t20, .int 0 t21, .int 2 t22]) n, slN⟩) : ∃ a, mg "NUMBERS" = some (.ref a) ∧ ∀ H, SqT K H a (NUMS.map V.int) :=
  ⟨a, PySem.W.mg_of X G g, fun H => .inr ⟨_, _, _, l, rfl, rfl, by rw [PySem.sizeLine_eq]; show 23 ≤ 16777216; decide, by repeat (first | exact .nil | refine .cons ⟨_, rfl⟩ ?_)⟩⟩
theorem great_at (X : K.In h) (G : h.Ns mainGlobals mg) {a : Addr} {es : Array DictEntry} {n : Nat} {t1 t2 t3 t4 t5 t6 : Tok} (g : PySem.W.nsIn K mainGlobals "GREATEST" = some (some (.ref a)))
    (l : K.lookup a = some ⟨.type "dict", none, .dict es n, #[]⟩) (kl : PySem.W.KeysLit w.params es.toList) (e1 : PySem.W.nsIn K a "person" = some (some (.int 15 t1))) (e2 : PySem.W.nsIn K a "field" = some (some (.int 3 t2))) (e3 : PySem.W.nsIn K a "sort" = some (some (.int 5 t3))) (e4 : PySem.W.nsIn K a "worth" = some (some (.int 1000000000000 t4)))
    (e5 : PySem.W.nsIn K a "piece" = some (some (.int 29 t5))) (e6 : PySem.W.nsIn K a "count" = some (some (.int 30 t6))) : ∃ a, mg "GREATEST" = some (.ref a) ∧ ∀ x ∈ words6, KDct K w a x (.int (great x)) := by
  refine ⟨a, PySem.W.mg_of X G g, fun x hx => ?_⟩
  have go : ∀ {x : Str} {i : Int} {t : Tok}, PySem.W.nsIn K a x = some (some (.int i t)) → great x = i → KDct K w a x (.int (great x)) := fun {x i t} e hi => ⟨es, n, .int i t, l, kl, e, by rw [hi]; exact ⟨_, rfl⟩⟩
  simp only [words6, List.mem_cons, List.not_mem_nil, or_false] at hx
  rcases hx with rfl | rfl | rfl | rfl | rfl | rfl
  · exact go e1 (by decide +kernel)
  · exact go e2 (by decide +kernel)
  · exact go e3 (by decide +kernel)
  · exact go e4 (by decide +kernel)
  · exact go e5 (by decide +kernel)
  · exact go e6 (by decide +kernel)
theorem fin {fa CJ CG CR CK CE fI : Addr} (X : K.In h) (G : h.Ns mainGlobals mg) (hfa : mg "answers" = some (.ref fa))
    (aJ : PySem.W.nsIn K mainGlobals "Join" = some (some (.ref CJ))) (aG : PySem.W.nsIn K mainGlobals "Groups" = some (some (.ref CG))) (aR : PySem.W.nsIn K mainGlobals "Run" = some (some (.ref CR))) (aK : PySem.W.nsIn K mainGlobals "Keeper" = some (some (.ref CK)))
    (aE : PySem.W.nsIn K mainGlobals "Refused" = some (some (.ref CE))) (aI : PySem.W.findIn K (.ref CE) "__init__" = some (some (.ref fI)))
    (T : Txt K mg CJ CG CR CK) (T2 : Txt2 K w mg CE fI) (D : AllDefs K mg CJ CG CR CK)
    (a : PySem.W.nsIn K mainGlobals "answers" = some (some (.ref f))) (l : K.lookup f = some ⟨oc, od, .func (PySem.W.fnOf "answers" "answers" (defArgs sAnswers) (defBody sAnswers) (defScope sAnswers) .none kV doc pm an cdv ct), osl⟩)
    (c : PySem.W.codeIn K cdv "answers" = true) (k : PySem.W.keepIn K (.ref f) = true) :
    ∃ fd : FuncData, (∀ (s : Shared) (us : List Value), us.length = (["calls"] : List Str).length → BindsTo s fd ⟨us, []⟩ ((["calls"] : List Str).zip us)) ∧ ∀ base : Heap, K.In base → base.Ns mainGlobals mg → FnOk P w K mg base CX0 13 fa fd ["calls"] (spAns K) := by
  have e := hfa.symm.trans (PySem.W.mg_of X G a)
  cases e
  exact ⟨PySem.W.fnOf "answers" "answers" (defArgs sAnswers) (defBody sAnswers) (defScope sAnswers) .none kV doc pm an cdv ct, fun s us hu => .of_eq (bind_answers kV doc pm an cdv ct us hu), fun base _ _ => all_told T T2 D (fun_mk l c k)⟩
end
end PB
open PySem PySem.W PyProof.Rows
set_option maxRecDepth 100000 in
set_option maxHeartbeats 0 in
theorem PySem.Challenge.cw_personbooks_s01_answers_holds : PySem.Challenge.rw_personbooks_s01_answers.Holds := by
  w_on; k_headS; (case hw => exact ⟨[.list [.int 0]], by decide +kernel, by decide +kernel⟩)
  k_fillS
  refine L2.walk_specK (r := PySem.Challenge.rw_personbooks_s01_answers) (k := 13) (CX := L2.CX0) (ps := ["calls"]) (sp := PB.spAns) (by decide +kernel) rfl rfl ⟨rfl, by decide, by decide⟩ (fun w h Y => PySem.W.kIn_of Y) ?F ?S (fun _ _ _ _ z => z)
  case F =>
    intro w mg fa h Y KX G hmg
    refine' PB.fin KX G hmg ?aJ ?aG ?aR ?aK ?aE ?aI ?T ?T2 ?D ?a ?l ?c ?k
    (case aJ => k_is); (case aG => k_is); (case aR => k_is); (case aK => k_is); (case aE => k_is); (case aI => k_is)
    (case a => k_is); (case l => k_is); (case c => k_is); (case k => k_is)
    case T =>
      constructor
      · exact PB.int_at KX G (by k_is)
      · exact PB.int_at KX G (by k_is)
      · exact PB.int_at KX G (by k_is)
      · exact PB.int_at KX G (by k_is)
      · exact PB.int_at KX G (by k_is)
      · exact PB.int_at KX G (by k_is)
      · exact PB.int_at KX G (by k_is)
      · exact PB.int_at KX G (by k_is)
      · refine' PB.twos_at KX G ?g ?l
        (case g => k_is); (case l => k_is)
      · exact PB.int_at KX G (by k_is)
      · exact PB.int_at KX G (by k_is)
      · exact PB.int_at KX G (by k_is)
      · exact PB.int_at KX G (by k_is)
      · exact PB.int_at KX G (by k_is)
      · exact PB.int_at KX G (by k_is)
      · exact PB.int_at KX G (by k_is)
      · exact PB.int_at KX G (by k_is)
      · exact PB.int_at KX G (by k_is)
      · exact PB.int_at KX G (by k_is)
      · exact PB.int_at KX G (by k_is)
      · exact PB.str_at KX G (by k_is)
      · exact PB.str_at KX G (by k_is)
      · exact PB.str_at KX G (by k_is)
      · exact PB.str_at KX G (by k_is)
      · exact PB.str_at KX G (by k_is)
      · exact PB.str_at KX G (by k_is)
      · exact PySem.W.mg_none_of KX G (by k_is)
      · exact PySem.W.mg_none_of KX G (by k_is)
      · exact PySem.W.mg_none_of KX G (by k_is)
      · exact PySem.W.mg_none_of KX G (by k_is)
      · exact PySem.W.mg_none_of KX G (by k_is)
      · exact PySem.W.mg_none_of KX G (by k_is)
      · exact PySem.W.mg_none_of KX G (by k_is)
      · exact PySem.W.mg_none_of KX G (by k_is)
      · exact PySem.W.mg_none_of KX G (by k_is)
      · exact PySem.W.mg_none_of KX G (by k_is)
      · refine' PB.cls_at ?pg ?hd ?po ?sa
        (case pg => k_is); (case hd => k_is); (case po => k_is); (case sa => k_is)
      · refine' PB.cls_at ?pg ?hd ?po ?sa
        (case pg => k_is); (case hd => k_is); (case po => k_is); (case sa => k_is)
      · refine' PB.cls_at ?pg ?hd ?po ?sa
        (case pg => k_is); (case hd => k_is); (case po => k_is); (case sa => k_is)
      · refine' PB.cls_at ?pg ?hd ?po ?sa
        (case pg => k_is); (case hd => k_is); (case po => k_is); (case sa => k_is)
      · show PySem.W.findIn _ _ _ = _
        k_is
      · show PySem.W.findIn _ _ _ = _
        k_is
      · show PySem.W.findIn _ _ _ = _
        k_is
      · show PySem.W.findIn _ _ _ = _
        k_is
      · show PySem.W.findIn _ _ _ = _
        k_is
      · show PySem.W.findIn _ _ _ = _
        k_is
      · show PySem.W.findIn _ _ _ = _
        k_is
      · show PySem.W.findIn _ _ _ = _
        k_is
      · show PySem.W.findIn _ _ _ = _
        k_is
      · show PySem.W.findIn _ _ _ = _
        k_is
    case T2 =>
      refine' ⟨?r, ?g, ?n⟩
      case r =>
        refine' PySem.RefX.ref_mk KX G ?aC ?xL ?sa ?ga ?gg ?nb ?a1 ?t1 ?l1 ?c1 ?zkC ?zeC ?ztC ?zhC ?ziC ?zsC
        (case aC => k_is); (case xL => k_is); (case sa => k_is); (case ga => k_is); (case gg => k_is); (case nb => k_is); (case a1 => k_is); (case t1 => k_is); (case l1 => k_is); (case c1 => k_is); (case zkC => k_is); (case zeC => k_is); (case ztC => k_is); (case zhC => k_is); (case ziC => k_is); (case zsC => first | rfl | k_is)
      case g =>
        refine' PB.great_at KX G ?g ?l ?kl ?e1 ?e2 ?e3 ?e4 ?e5 ?e6
        (case g => k_is); (case l => k_is); (case kl => first | k_keys | rfl); (case e1 => k_is); (case e2 => k_is); (case e3 => k_is); (case e4 => k_is); (case e5 => k_is); (case e6 => k_is)
      case n =>
        refine' PB.nums_at KX G ?g ?l
        (case g => k_is); (case l => k_is)
    case D =>
      constructor
      · refine' PB.def_at KX G ?a ?l ?c ?k
        (case a => k_is); (case l => k_is); (case c => k_is); (case k => k_is)
      · refine' PB.def_at KX G ?a ?l ?c ?k
        (case a => k_is); (case l => k_is); (case c => k_is); (case k => k_is)
      · refine' PB.def_at KX G ?a ?l ?c ?k
        (case a => k_is); (case l => k_is); (case c => k_is); (case k => k_is)
      · refine' PB.def_at KX G ?a ?l ?c ?k
        (case a => k_is); (case l => k_is); (case c => k_is); (case k => k_is)
      · refine' PB.def_at KX G ?a ?l ?c ?k
        (case a => k_is); (case l => k_is); (case c => k_is); (case k => k_is)
      · refine' PB.make_at KX G ?g ?mk ?a ?i ?kc ?l ?c ?k
        (case g => k_is); (case mk => k_is); (case a => k_is); (case i => k_is); (case kc => k_is); (case l => k_is); (case c => k_is); (case k => k_is)
      · refine' PB.def_at KX G ?a ?l ?c ?k
        (case a => k_is); (case l => k_is); (case c => k_is); (case k => k_is)
      · refine' PB.def_at KX G ?a ?l ?c ?k
        (case a => k_is); (case l => k_is); (case c => k_is); (case k => k_is)
      · refine' PB.def_at KX G ?a ?l ?c ?k
        (case a => k_is); (case l => k_is); (case c => k_is); (case k => k_is)
      · refine' PB.make_at KX G ?g ?mk ?a ?i ?kc ?l ?c ?k
        (case g => k_is); (case mk => k_is); (case a => k_is); (case i => k_is); (case kc => k_is); (case l => k_is); (case c => k_is); (case k => k_is)
      · refine' PB.meth_at ?a ?i ?l ?c ?k
        (case a => k_is); (case i => k_is); (case l => k_is); (case c => k_is); (case k => k_is)
      · refine' PB.meth_at ?a ?i ?l ?c ?k
        (case a => k_is); (case i => k_is); (case l => k_is); (case c => k_is); (case k => k_is)
      · refine' PB.meth_at ?a ?i ?l ?c ?k
        (case a => k_is); (case i => k_is); (case l => k_is); (case c => k_is); (case k => k_is)
      · refine' PB.meth_at ?a ?i ?l ?c ?k
        (case a => k_is); (case i => k_is); (case l => k_is); (case c => k_is); (case k => k_is)
      · refine' PB.meth_at ?a ?i ?l ?c ?k
        (case a => k_is); (case i => k_is); (case l => k_is); (case c => k_is); (case k => k_is)
      · refine' PB.make_at KX G ?g ?mk ?a ?i ?kc ?l ?c ?k
        (case g => k_is); (case mk => k_is); (case a => k_is); (case i => k_is); (case kc => k_is); (case l => k_is); (case c => k_is); (case k => k_is)
      · refine' PB.meth_at ?a ?i ?l ?c ?k
        (case a => k_is); (case i => k_is); (case l => k_is); (case c => k_is); (case k => k_is)
      · refine' PB.meth_at ?a ?i ?l ?c ?k
        (case a => k_is); (case i => k_is); (case l => k_is); (case c => k_is); (case k => k_is)
      · refine' PB.meth_at ?a ?i ?l ?c ?k
        (case a => k_is); (case i => k_is); (case l => k_is); (case c => k_is); (case k => k_is)
      · refine' PB.meth_at ?a ?i ?l ?c ?k
        (case a => k_is); (case i => k_is); (case l => k_is); (case c => k_is); (case k => k_is)
      · refine' PB.def_at KX G ?a ?l ?c ?k
        (case a => k_is); (case l => k_is); (case c => k_is); (case k => k_is)
      · refine' PB.def_at KX G ?a ?l ?c ?k
        (case a => k_is); (case l => k_is); (case c => k_is); (case k => k_is)
      · refine' PB.def_at KX G ?a ?l ?c ?k
        (case a => k_is); (case l => k_is); (case c => k_is); (case k => k_is)
      · refine' PB.def_at KX G ?a ?l ?c ?k
        (case a => k_is); (case l => k_is); (case c => k_is); (case k => k_is)
      · refine' PB.def_at KX G ?a ?l ?c ?k
        (case a => k_is); (case l => k_is); (case c => k_is); (case k => k_is)
      · refine' PB.def_at KX G ?a ?l ?c ?k
        (case a => k_is); (case l => k_is); (case c => k_is); (case k => k_is)
      · refine' PB.def_at KX G ?a ?l ?c ?k
        (case a => k_is); (case l => k_is); (case c => k_is); (case k => k_is)
      · refine' PB.def_at KX G ?a ?l ?c ?k
        (case a => k_is); (case l => k_is); (case c => k_is); (case k => k_is)
      · refine' PB.def_at KX G ?a ?l ?c ?k
        (case a => k_is); (case l => k_is); (case c => k_is); (case k => k_is)
      · refine' PB.def_at KX G ?a ?l ?c ?k
        (case a => k_is); (case l => k_is); (case c => k_is); (case k => k_is)
      · refine' PB.def_at KX G ?a ?l ?c ?k
        (case a => k_is); (case l => k_is); (case c => k_is); (case k => k_is)
      · refine' PB.def_at KX G ?a ?l ?c ?k
        (case a => k_is); (case l => k_is); (case c => k_is); (case k => k_is)
      · refine' PB.def_at KX G ?a ?l ?c ?k
        (case a => k_is); (case l => k_is); (case c => k_is); (case k => k_is)
      · refine' PB.def_at KX G ?a ?l ?c ?k
        (case a => k_is); (case l => k_is); (case c => k_is); (case k => k_is)
      · refine' PB.def_at KX G ?a ?l ?c ?k
        (case a => k_is); (case l => k_is); (case c => k_is); (case k => k_is)
      · refine' PB.meth_at ?a ?i ?l ?c ?k
        (case a => k_is); (case i => k_is); (case l => k_is); (case c => k_is); (case k => k_is)
      · refine' PB.meth_at ?a ?i ?l ?c ?k
        (case a => k_is); (case i => k_is); (case l => k_is); (case c => k_is); (case k => k_is)
      · refine' PB.meth_at ?a ?i ?l ?c ?k
        (case a => k_is); (case i => k_is); (case l => k_is); (case c => k_is); (case k => k_is)
      · refine' PB.meth_at ?a ?i ?l ?c ?k
        (case a => k_is); (case i => k_is); (case l => k_is); (case c => k_is); (case k => k_is)
      · refine' PB.meth_at ?a ?i ?l ?c ?k
        (case a => k_is); (case i => k_is); (case l => k_is); (case c => k_is); (case k => k_is)
      · refine' PB.meth_at ?a ?i ?l ?c ?k
        (case a => k_is); (case i => k_is); (case l => k_is); (case c => k_is); (case k => k_is)
      · refine' PB.meth_at ?a ?i ?l ?c ?k
        (case a => k_is); (case i => k_is); (case l => k_is); (case c => k_is); (case k => k_is)
      · refine' PB.meth_at ?a ?i ?l ?c ?k
        (case a => k_is); (case i => k_is); (case l => k_is); (case c => k_is); (case k => k_is)
      · refine' PB.meth_at ?a ?i ?l ?c ?k
        (case a => k_is); (case i => k_is); (case l => k_is); (case c => k_is); (case k => k_is)
      · refine' PB.meth_at ?a ?i ?l ?c ?k
        (case a => k_is); (case i => k_is); (case l => k_is); (case c => k_is); (case k => k_is)
      · refine' PB.meth_at ?a ?i ?l ?c ?k
        (case a => k_is); (case i => k_is); (case l => k_is); (case c => k_is); (case k => k_is)
      · refine' PB.meth_at ?a ?i ?l ?c ?k
        (case a => k_is); (case i => k_is); (case l => k_is); (case c => k_is); (case k => k_is)
      · refine' PB.meth_at ?a ?i ?l ?c ?k
        (case a => k_is); (case i => k_is); (case l => k_is); (case c => k_is); (case k => k_is)
      · refine' PB.meth_at ?a ?i ?l ?c ?k
        (case a => k_is); (case i => k_is); (case l => k_is); (case c => k_is); (case k => k_is)
      · refine' PB.meth_at ?a ?i ?l ?c ?k
        (case a => k_is); (case i => k_is); (case l => k_is); (case c => k_is); (case k => k_is)
      · refine' PB.meth_at ?a ?i ?l ?c ?k
        (case a => k_is); (case i => k_is); (case l => k_is); (case c => k_is); (case k => k_is)
      · refine' PB.meth_at ?a ?i ?l ?c ?k
        (case a => k_is); (case i => k_is); (case l => k_is); (case c => k_is); (case k => k_is)
      · refine' PB.meth_at ?a ?i ?l ?c ?k
        (case a => k_is); (case i => k_is); (case l => k_is); (case c => k_is); (case k => k_is)
      · refine' PB.meth_at ?a ?i ?l ?c ?k
        (case a => k_is); (case i => k_is); (case l => k_is); (case c => k_is); (case k => k_is)
      · refine' PB.meth_at ?a ?i ?l ?c ?k
        (case a => k_is); (case i => k_is); (case l => k_is); (case c => k_is); (case k => k_is)
      · refine' PB.meth_at ?a ?i ?l ?c ?k
        (case a => k_is); (case i => k_is); (case l => k_is); (case c => k_is); (case k => k_is)
      · refine' PB.meth_at ?a ?i ?l ?c ?k
        (case a => k_is); (case i => k_is); (case l => k_is); (case c => k_is); (case k => k_is)
      · refine' PB.meth_at ?a ?i ?l ?c ?k
        (case a => k_is); (case i => k_is); (case l => k_is); (case c => k_is); (case k => k_is)
      · refine' PB.meth_at ?a ?i ?l ?c ?k
        (case a => k_is); (case i => k_is); (case l => k_is); (case c => k_is); (case k => k_is)
      · refine' PB.meth_at ?a ?i ?l ?c ?k
        (case a => k_is); (case i => k_is); (case l => k_is); (case c => k_is); (case k => k_is)
      · refine' PB.make_at KX G ?g ?mk ?a ?i ?kc ?l ?c ?k
        (case g => k_is); (case mk => k_is); (case a => k_is); (case i => k_is); (case kc => k_is); (case l => k_is); (case c => k_is); (case k => k_is)
      · refine' PB.def_at KX G ?a ?l ?c ?k
        (case a => k_is); (case l => k_is); (case c => k_is); (case k => k_is)
      · refine' PB.def_at KX G ?a ?l ?c ?k
        (case a => k_is); (case l => k_is); (case c => k_is); (case k => k_is)
      · refine' PB.def_at KX G ?a ?l ?c ?k
        (case a => k_is); (case l => k_is); (case c => k_is); (case k => k_is)
  case S =>
    intro K H xs a hO hwi hask hx
    cases hx with
    | cons h1 h2 =>
      cases h2
      cases h1 with
      | lst hs ha =>
        have e := L2.ints_dw a.1 _ ha
        subst e
        have q : ((PySem.W.Codec.inLen 0 17000 a.1 && a.1.all (PySem.W.Codec.inInt (-1000000000000000000) 1000000000000000000)) && true) = true := hwi
        rw [Bool.and_eq_true, Bool.and_eq_true] at q
        obtain ⟨cs, hP, he, hl⟩ := PB.answers_eq hask
        refine ⟨_, a.1, cs, rfl, hs, hP, (PySem.W.Codec.inNat_iff.mp q.1.1).2, hl, fun p H' hp => ?_⟩
        have z : L2.Dw K H' (.ref p) (.list ((PB.mAns cs).map WData.int)) := .lst (L2.SqL.of hp) (L2.dw_ints _)
        have he : PyVbkoab.answers a.1 = PB.mAns cs := he
        rw [← he] at z
        exact z
#print axioms PySem.Challenge.cw_personbooks_s01_answers_holds
