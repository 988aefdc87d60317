import PyProof.Rows.All
import Wide.All
import OpenK.AllK
import Wide.FinOn
import KE.KTupSum
import HandS.ForMost
import HandS.Evl
import HandS.IsInst
import HandS.SetFor
import HandS.Defaults
import HandS.Head0
import HandS.Head1
import HandS.Head2
import HandS.HeadEnd
import HandS.HeadHook1
import HandS.HeadHook2
import KE.KStateDown
import HandS.Base
import HandS.Call
import HandS.Ends
import HandS.More
import HandS.Words
import PySem.Challenge.RW_dueturns_k49_whole_kept_for_ever
set_option Elab.async false
set_option linter.all false
set_option maxRecDepth 100000
set_option maxHeartbeats 4000000
/-! Own layer for law k49: described values (a value by a word of the heap that stays), over HandS.Evl. -/
namespace Dt
open PySem PySem.Spec PyProof.Rows L2 Evl

/-! ### names of readings -/
abbrev rAddI : R2 := rI0 fun i j => .int (i + j)
abbrev rSubI : R2 := rI0 fun i j => .int (i - j)
abbrev rMulI : R2 := rI CMul fun i j => .int (i * j)
abbrev rDivI : R2 := rI CDiv fun i j => .int (i / j)
abbrev rModI : R2 := rI (fun _ j => 0 < j) fun i j => .int (i % j)
abbrev rPowI : R2 := rI CPow fun i j => .int (i ^ j.toNat)
abbrev rLtI : R2 := rI0 fun i j => .bl (decide (i < j))
abbrev rLeI : R2 := rI0 fun i j => .bl (decide (i ≤ j))
abbrev rGtI : R2 := rI0 fun i j => .bl (decide (j < i))
abbrev rGeI : R2 := rI0 fun i j => .bl (decide (j ≤ i))
abbrev rNegI : V → Hp → VK → Prop := rU fun i => .int (-i)
abbrev rIsNo : R2 := fun x y H Q => y = .non ∧ Q (.bl (decide (x = .non))) H
abbrev rNotNo : R2 := fun x y H Q => y = .non ∧ Q (.bl (!decide (x = .non))) H
abbrev rAbs : List V → Hp → VK → Prop := fun xs H Q => ∃ i, xs = [.int i] ∧ Q (.int (if i < 0 then -i else i)) H
def rTupS (K : PySem.W.Frag) : List V → Hp → VK → Prop := fun xs H Q => ∃ p ys, xs = [.ref p] ∧ ((SqL K H p ys ∧ ∀ l, H l = none → Q (.ref l) (upd H l (.tup ys))) ∨ (SqT K H p ys ∧ Q (.ref p) H))
def rSumT (K : PySem.W.Frag) : List V → Hp → VK → Prop := fun vs H Q => ∃ (a : Addr) (ns : List Int), vs = [V.ref a] ∧ SqT K H a (ns.map V.int) ∧ Q (.int ns.sum) H
/-- sum(t) of a tuple of ints -/
theorem sumT_raw {prog : Program} {w : World} {A : Around} {E : Value → Shared → Prop} {s : Shared} {l : Addr} {its : List Value} {ns : List Int} {Q : Value → Shared → Prop} (hh : A.handled = none) (hl : s.heap.IsTuple l its.toArray) (hi : IntsAre its ns)
    (h : ∀ h' tk t', (∀ b o, s.heap.get? b = some o → h'.get? b = some o) → Q (.int ns.sum t') { s with heap := h', toks := tk }) : wpAny (model prog w) A (call (.builtin "sum") [.ref l]) Q E s := by
  obtain ⟨xs, e⟩ := hi.allInts.items
  have hn : PySem.numsOf (PySem.intItems xs).toList = ns := by rw [← e]; exact hi.numsOf
  rw [PySem.nums_intItems] at hn
  rw [e] at hl
  refine PySem.W.ktm_sumG hh hl fun h' tk t' hk => ?_
  have := h h' tk t' hk
  rw [PySem.preSum_eq, List.take_of_length_le (by simp), hn]; exact this
theorem cr_sumT {X : Cx} (hc : X.calm = true) : CallR X (.builtin "sum") (rSumT X.K) := by
  intro pins s σ H vs us Q I r h
  obtain ⟨a, ns, rfl, hs, q⟩ := h
  obtain ⟨its, rv, hl, _⟩ := I.tuple hs
  rw [Vals.ref1 r]
  exact sumT_raw (I.ok.hd hc) hl rv.ints fun h' tk t' hk => ⟨.int _, H, I.kept hk, ⟨_, rfl⟩, q⟩

/-! ### calls of the program's own defs, packed -/
section
variable (P : Program) (w : World) (K : PySem.W.Frag) (mg : Str → Option Value) (base : Heap)
structure Cal (k : Nat) (x : Str) (ps : List Str) (sp : Sp) : Prop where
  ex : ∃ (f : Addr) (fd : FuncData), FnOk P w K mg base CX0 k f fd ps sp ∧ mg x = some (.ref f) ∧ PySem.W.keepIn K (.ref f) = true ∧ Binds K fd ps []
structure MCal (C : Addr) (k : Nat) (m : Str) (ps : List Str) (sp : Sp) : Prop where
  cl : Cls K C
  ex : ∃ (f : Addr) (fd : FuncData), FnOk P w K mg base CX0 k f fd ps sp ∧ Meth K C m f ∧ Binds K fd ps []
structure KCal (C : Addr) (k : Nat) (x : Str) (ps : List Str) (sp : Sp) : Prop where
  ex : ∃ (f : Addr) (fd : FuncData), FnOk P w K mg base CX0 k f fd ps sp ∧ Mk K C f ∧ mg x = some (.ref C) ∧ Binds K fd ps []
end
section
variable {X : Cx} {k : Nat} {ps : List Str} {sp : Sp} {x m : Str} {C : Addr} {p pos apos : Pos} {e o : Expr} {es : List Expr} {ta : TE} {t : TA}
theorem pe_cal (c : Cal X.prog X.w X.K X.mg X.base k x ps sp) (hr : Room k X.A) (hg : Gl X x)
    (ha : PA X (e :: es) t) (hdb : (x == ("__debug__" : Str)) = false := by decide) (he : starEach (e :: es) X.env = (false, eval e X.env) :: starEach es X.env := by rfl) (hpl : (backTo pos (starEach es X.env)).any (·.1) = false := by rfl) :
    PE X (.Call (.Name x p) (e :: es) [] pos) (tCall sp [] E0 t) := by
  obtain ⟨f, fd, F, hm, kp, b⟩ := c.ex
  exact pe_call F hr hg hm kp b .nil pass0 ha hdb he hpl
theorem pe_mcal0 {pl : Sem Bool} (c : MCal X.prog X.w X.K X.mg X.base C k m ps sp) (hr : Room k X.A) (he : PE X o ta)
    (ht : eval (.Call (.Attribute o m apos) [] [] pos) X.env = (do
      let ov ← eval o X.env
      standAt apos.atName
      let (f, first) ← holding [ov] (getMethod ov m pl)
      callWith pos f first (backTo pos (starEach [] X.env)) (backToKw pos (keywordEach [] X.env))) := by rfl) :
    PE X (.Call (.Attribute o m apos) [] [] pos) (tMeth C m sp [] E0 ta tNil) := by
  obtain ⟨f, fd, F, hm, b⟩ := c.ex
  exact pe_meth0 he c.cl hm F hr b .nil pass0 ht
theorem pe_kcal (c : KCal X.prog X.w X.K X.mg X.base C k x ps sp) (hr : Room (k + 1) X.A) (hg : Gl X x)
    (ha : PA X (e :: es) t) (hdb : (x == ("__debug__" : Str)) = false := by decide) (he : starEach (e :: es) X.env = (false, eval e X.env) :: starEach es X.env := by rfl) (hpl : (backTo pos (starEach es X.env)).any (·.1) = false := by rfl) :
    PE X (.Call (.Name x p) (e :: es) [] pos) (tMake C sp [] E0 t) := by
  obtain ⟨f, fd, F, M, hm, b⟩ := c.ex
  exact pe_make M F hr hg hm b .nil pass0 ha hdb he hpl
end
/-- a def of the text as it stands behind the top -/
abbrev FnD (K : PySem.W.Frag) (x q : Str) (st : Stmt) (f : Addr) (fd : FuncData) : Prop := FunD K x q (defArgs st) (defBody st) (defScope st) [] [] f fd
theorem loc_l {sc : Scope} {x : Str} (h : sc.names.lookup x = some .local) : Loc sc x := Or.inl h


/-! ### described values. G: what is known and stays; H: the heap, G within it; what H has beyond G (lists that grow, objects that change) is hidden -/
abbrev Dsc := V → Hp → Prop
class Up (d : Dsc) : Prop where
  up : ∀ v G G', Ex G G' → d v G → d v G'
def Is (v : V) : Dsc := fun x _ => x = v
instance (v : V) : Up (Is v) := ⟨fun _ _ _ _ h => h⟩
structure Gr (G H G' H' : Hp) : Prop where
  g : Ex G G'
  s : Ex G' H'
  k : Ex H H'
  hid : ∀ a, H a ≠ none → G a = none → G' a = none
theorem some_ne {H : Hp} {a : Addr} {o : HO} (h : H a = some o) : H a ≠ none := fun e => by rw [h] at e; cases e
section
variable {G G0 G1 G2 H H0 H1 H2 : Hp} {a p : Addr} {o : HO}
theorem Gr.refl (e : Ex G H) : Gr G H G H := ⟨Ex.refl G, e, Ex.refl H, fun _ _ h => h⟩
theorem Gr.of (e : Ex G H) (k : Ex H H1) : Gr G H G H1 := ⟨Ex.refl G, e.trans k, k, fun _ _ h => h⟩
theorem Gr.e (r : Gr G H G1 H1) : Ex G H1 := r.g.trans r.s
theorem Gr.trans (a : Gr G H G1 H1) (b : Gr G1 H1 G2 H2) : Gr G H G2 H2 := ⟨a.g.trans b.g, b.s, a.k.trans b.k, fun x h1 h2 => b.hid x (by
  cases q : H x with
  | none => exact absurd q h1
  | some u => exact some_ne (a.k x u q)) (a.hid x h1 h2)⟩
theorem none_back (e : Ex G H) (h : H p = none) : G p = none := fresh_back e h
theorem ex_upd (e : Ex G H) (h : G p = none) : Ex G (upd H p o) := Ex.mut e h
theorem ex_new (h : G p = none) : Ex G (upd G p o) := Ex.new h
theorem ex_same (h : G p = some o) : upd G p o = G := by
  funext b
  by_cases q : b = p
  · subst q; rw [upd_same, h]
  · rw [upd_ne q]
theorem ex_updw (h : H p = some o) (e : Ex G H) : Ex (upd G p o) H := fun b u q => by
  by_cases c : b = p
  · subst c; rw [upd_same] at q; cases q; exact h
  · rw [upd_ne c] at q; exact e b u q
theorem ex_updg (h : H p = some o) (e : Ex G H) : Ex G (upd G p o) := fun b u q => by
  by_cases c : b = p
  · subst c; rw [upd_same]; have z := e b u q; rw [h] at z; exact z
  · rw [upd_ne c]; exact q
/-- a new object is laid -/
theorem Gr.new (e : Ex G H) (hp : H p = none) : Gr G H (upd G p o) (upd H p o) := ⟨ex_new (none_back e hp), fun b u q => by
  by_cases c : b = p
  · subst c; rw [upd_same] at q ⊢; exact q
  · rw [upd_ne c] at q ⊢; exact e b u q, ex_new hp, fun x h1 h2 => by rw [upd_ne (fun c => h1 (by rw [c]; exact hp))]; exact h2⟩
/-- .. and hidden -/
theorem Gr.newH (e : Ex G H) (hp : H p = none) : Gr G H G (upd H p o) := ⟨Ex.refl G, ex_upd e (none_back e hp), ex_new hp, fun _ _ h => h⟩
/-- a thing that came on the way is known from now on -/
theorem Gr.add (r : Gr G H G1 H1) (n : H p = none) (h : H1 p = some o) : Gr G H (upd G1 p o) H1 := ⟨r.g.trans (ex_updg h r.s), ex_updw h r.s, r.k, fun x h1 h2 => by rw [upd_ne (fun c => h1 (by rw [c]; exact n))]; exact r.hid x h1 h2⟩
/-- a hidden thing that came on the way changes -/
theorem Gr.mut (r : Gr G H G1 H1) (n : H p = none) (m : G1 p = none) : Gr G H G1 (upd H1 p o) := ⟨r.g, ex_upd r.s m, ex_upd r.k n, r.hid⟩
theorem Gr.hidd (r : Gr G H G1 H1) (h : H p = some o) (n : G p = none) : G1 p = none := r.hid p (some_ne h) n
def un (G G2 : Hp) : Hp := fun a => match G a with
  | some o => some o
  | none => G2 a
theorem ex_un : Ex G (un G G2) := fun b u q => by unfold un; rw [q]
theorem un_gr (e0 : Ex G0 G) (e : Ex G H1) (r : Gr G0 H1 G2 H2) : Gr G H1 (un G G2) H2 ∧ Ex G2 (un G G2) := by
  refine ⟨⟨ex_un, fun b u q => ?_, r.k, fun b h1 h2 => ?_⟩, fun b u q => ?_⟩
  · unfold un at q
    cases c : G b with
    | none => rw [c] at q; exact r.s b u q
    | some w => rw [c] at q; cases q; exact r.k b _ (e b _ c)
  · unfold un
    rw [h2]
    exact r.hid b h1 (none_back e0 h2)
  · unfold un
    cases c : G b with
    | none => exact q
    | some w =>
      have z1 := r.k b _ (e b _ c)
      have z2 := r.s b _ q
      rw [z1] at z2
      exact z2
end
def EvP (te : TE) (σ : L2.St) (G : Hp) (d : Dsc) : Prop := ∀ H1, Ex G H1 → ∀ Q : VK, (∀ v G2 H2, Gr G H1 G2 H2 → d v G2 → Q v H2) → te σ H1 Q
/-- a new list of n things, the i-th so described; the list itself hidden -/
def EvM (te : TE) (σ : L2.St) (G : Hp) (n : Nat) (f : Nat → Dsc) : Prop := ∀ H1, Ex G H1 → ∀ Q : VK, (∀ p xs G2 H2, H1 p = none → Gr G H1 G2 H2 → G2 p = none → H2 p = some (.lst xs) → xs.length = n → (∀ i x, xs[i]? = some x → f i x G2) → Q (.ref p) H2) → te σ H1 Q
def EvAP (ta : TA) (σ : L2.St) (G : Hp) (P : List V → Hp → Prop) : Prop := ∀ H1, Ex G H1 → ∀ Q : List V → Hp → Prop, (∀ vs G2 H2, Gr G H1 G2 H2 → P vs G2 → Q vs H2) → ta σ H1 Q
/-- what a promise gives: a value so described, the heap only grown -/
def Ret (d : Dsc) (G H : Hp) (Q : VK) : Prop := ∀ v G2 H2, Gr G H G2 H2 → d v G2 → Q v H2
section
variable {K : PySem.W.Frag} {σ : L2.St} {G G' G1 H H' : Hp} {ta tb te tx : TE} {t u : TT} {x y z v : V} {r : R2} {d d1 d2 d3 d4 : Dsc}
theorem Ret.val {Q : VK} (k : Ret (Is v) G H Q) (e : Gr G H G1 H') : Q v H' := k v G1 H' e rfl
theorem Ret.mono {Q : VK} (k : Ret d G H Q) (e : Gr G H G1 H') : Ret d G1 H' Q := fun v G2 H2 e2 h => k v G2 H2 (e.trans e2) h
theorem Ret.imp {Q : VK} (k : Ret d G H Q) (i : ∀ v G1, d1 v G1 → d v G1) : Ret d1 G H Q := fun v G2 H2 r h => k v G2 H2 r (i v G2 h)
theorem _root_.Evl.Ev.p (h : Ev te σ G v) : EvP te σ G (Is v) := fun H1 e Q q => h H1 e Q fun H2 e2 => q v G H2 (Gr.of e e2) rfl
theorem EvP.val (h : EvP te σ G (Is v)) : Ev te σ G v := fun H1 e Q q => h H1 e Q fun w G2 H2 r e3 => by
  cases e3
  exact q H2 r.k
theorem EvP.mono [Up d] (e : Ex G G') (h : EvP te σ G d) : EvP te σ G' d := fun H1 a Q q => h H1 (e.trans a) Q fun v G2 H2 r dv => by
  obtain ⟨r2, e2⟩ := un_gr e a r
  exact q v _ H2 r2 (Up.up v G2 _ e2 dv)
theorem EvP.imp (h : EvP te σ G d) (i : ∀ v G1, Ex G G1 → d v G1 → d1 v G1) : EvP te σ G d1 := fun H1 e Q q => h H1 e Q fun v G2 H2 e2 dv => q v G2 H2 e2 (i v G2 e2.g dv)
/-- a value that is known, with what is known of it -/
theorem _root_.Evl.Ev.dsc (h : Ev te σ G v) (hd : d v G) : EvP te σ G d := fun H1 e Q q => h H1 e Q fun H2 e2 => q v G H2 (Gr.of e e2) hd
theorem ep_var {i : Nat} (h : σ[i]? = some (some v)) (hd : d v G) : EvP (tVar i) σ G d := (ev_var h).dsc hd
theorem ep_un {r : V → Hp → VK → Prop} (ha : EvP ta σ G d) (hr : ∀ x G1 H1, Ex G G1 → Ex G1 H1 → d x G1 → ∀ Q : VK, Ret d1 G1 H1 Q → r x H1 Q) : EvP (tUn r ta) σ G d1 := fun H1 e Q q =>
  ha H1 e _ fun v G2 H2 e2 dv => hr v G2 H2 e2.g e2.s dv Q fun w G3 H3 e3 dw => q w G3 H3 (e2.trans e3) dw
theorem ep_op (ha : EvP ta σ G d1) (hb : EvP tb σ G d2) [Up d1] [Up d2] (hr : ∀ x y G1 H1, Ex G G1 → Ex G1 H1 → d1 x G1 → d2 y G1 → ∀ Q : VK, Ret d G1 H1 Q → r x y H1 Q) : EvP (tOp r ta tb) σ G d := fun H1 e Q q =>
  ha H1 e _ fun v G2 H2 e2 dv => (hb.mono e2.g) H2 e2.s _ fun w G3 H3 e3 dw => hr v w G3 H3 (e2.g.trans e3.g) e3.s (Up.up v G2 G3 e3.g dv) dw Q fun z G4 H4 e4 dz => q z G4 H4 ((e2.trans e3).trans e4) dz
theorem eap_nil : EvAP tNil σ G (fun vs _ => vs = []) := fun H1 e _ q => q [] G H1 (Gr.refl e) rfl
theorem eap1 (h1 : EvP ta σ G d1) : EvAP (tCons ta tNil) σ G (fun vs H1 => ∃ x, vs = [x] ∧ d1 x H1) := fun H1 e Q q =>
  h1 H1 e _ fun v G2 H2 e2 dv => q [v] G2 H2 e2 ⟨v, rfl, dv⟩
theorem eap2 (h1 : EvP ta σ G d1) (h2 : EvP tb σ G d2) [Up d1] [Up d2] : EvAP (tCons ta (tCons tb tNil)) σ G (fun vs H1 => ∃ x y, vs = [x, y] ∧ d1 x H1 ∧ d2 y H1) := fun H1 e Q q =>
  h1 H1 e _ fun v G2 H2 e2 dv => (h2.mono e2.g) H2 e2.s _ fun w G3 H3 e3 dw => q [v, w] G3 H3 (e2.trans e3) ⟨v, w, rfl, Up.up v G2 G3 e3.g dv, dw⟩
theorem eap3 {tc : TE} (h1 : EvP ta σ G d1) (h2 : EvP tb σ G d2) (h3 : EvP tc σ G d3) [Up d1] [Up d2] [Up d3] : EvAP (tCons ta (tCons tb (tCons tc tNil))) σ G (fun vs H1 => ∃ x y z, vs = [x, y, z] ∧ d1 x H1 ∧ d2 y H1 ∧ d3 z H1) := fun H1 e Q q =>
  h1 H1 e _ fun v G2 H2 e2 dv => (h2.mono e2.g) H2 e2.s _ fun w G3 H3 e3 dw => (h3.mono (e2.g.trans e3.g)) H3 e3.s _ fun z G4 H4 e4 dz =>
    q [v, w, z] G4 H4 ((e2.trans e3).trans e4) ⟨v, w, z, rfl, Up.up v G2 G4 (e3.g.trans e4.g) dv, Up.up w G3 G4 e4.g dw, dz⟩
theorem eap4 {tc td : TE} (h1 : EvP ta σ G d1) (h2 : EvP tb σ G d2) (h3 : EvP tc σ G d3) (h4 : EvP td σ G d4) [Up d1] [Up d2] [Up d3] [Up d4] :
    EvAP (tCons ta (tCons tb (tCons tc (tCons td tNil)))) σ G (fun vs H1 => ∃ x y z w, vs = [x, y, z, w] ∧ d1 x H1 ∧ d2 y H1 ∧ d3 z H1 ∧ d4 w H1) := fun H1 e Q q =>
  h1 H1 e _ fun v G2 H2 e2 dv => (h2.mono e2.g) H2 e2.s _ fun w G3 H3 e3 dw => (h3.mono (e2.g.trans e3.g)) H3 e3.s _ fun z G4 H4 e4 dz => (h4.mono ((e2.g.trans e3.g).trans e4.g)) H4 e4.s _ fun u G5 H5 e5 du =>
    q [v, w, z, u] G5 H5 (((e2.trans e3).trans e4).trans e5) ⟨v, w, z, u, rfl, Up.up v G2 G5 ((e3.g.trans e4.g).trans e5.g) dv, Up.up w G3 G5 (e4.g.trans e5.g) dw, Up.up z G4 G5 e5.g dz, du⟩
/-- a call of a def of one's own -/
theorem ep_call {sp : Sp} {E : XK} {ta : TA} {P : List V → Hp → Prop} (h : EvAP ta σ G P) (hs : ∀ vs G1 H1, Ex G G1 → Ex G1 H1 → P vs G1 → ∀ (Q : VK) (E : XK), Ret d G1 H1 Q → sp vs H1 Q E) : EvP (tCall sp [] E ta) σ G d := fun H1 e Q q =>
  h H1 e _ fun vs G2 H2 e2 p => by
    rw [List.append_nil]
    exact hs vs G2 H2 e2.g e2.s p Q E fun z G4 H4 e4 dz => q z G4 H4 (e2.trans e4) dz
theorem ep_call1 {sp : Sp} {E : XK} (h1 : EvP ta σ G d1) (hs : ∀ x G1 H1, Ex G G1 → Ex G1 H1 → d1 x G1 → ∀ (Q : VK) (E : XK), Ret d G1 H1 Q → sp [x] H1 Q E) : EvP (tCall sp [] E (tCons ta tNil)) σ G d :=
  ep_call (eap1 h1) fun vs G1 H1 e e2 ⟨x, ev, dx⟩ Q E q => by rw [ev]; exact hs x G1 H1 e e2 dx Q E q
theorem ep_call2 {sp : Sp} {E : XK} (h1 : EvP ta σ G d1) (h2 : EvP tb σ G d2) [Up d1] [Up d2] (hs : ∀ x y G1 H1, Ex G G1 → Ex G1 H1 → d1 x G1 → d2 y G1 → ∀ (Q : VK) (E : XK), Ret d G1 H1 Q → sp [x, y] H1 Q E) : EvP (tCall sp [] E (tCons ta (tCons tb tNil))) σ G d :=
  ep_call (eap2 h1 h2) fun vs G1 H1 e e2 ⟨x, y, ev, dx, dy⟩ Q E q => by rw [ev]; exact hs x y G1 H1 e e2 dx dy Q E q
theorem ep_call3 {tc : TE} {sp : Sp} {E : XK} (h1 : EvP ta σ G d1) (h2 : EvP tb σ G d2) (h3 : EvP tc σ G d3) [Up d1] [Up d2] [Up d3] (hs : ∀ x y z G1 H1, Ex G G1 → Ex G1 H1 → d1 x G1 → d2 y G1 → d3 z G1 → ∀ (Q : VK) (E : XK), Ret d G1 H1 Q → sp [x, y, z] H1 Q E) :
    EvP (tCall sp [] E (tCons ta (tCons tb (tCons tc tNil)))) σ G d :=
  ep_call (eap3 h1 h2 h3) fun vs G1 H1 e e2 ⟨x, y, z, ev, dx, dy, dz⟩ Q E q => by rw [ev]; exact hs x y z G1 H1 e e2 dx dy dz Q E q
theorem ep_call4 {tc td : TE} {sp : Sp} {E : XK} (h1 : EvP ta σ G d1) (h2 : EvP tb σ G d2) (h3 : EvP tc σ G d3) (h4 : EvP td σ G d4) [Up d1] [Up d2] [Up d3] [Up d4]
    (hs : ∀ x y z w G1 H1, Ex G G1 → Ex G1 H1 → d1 x G1 → d2 y G1 → d3 z G1 → d4 w G1 → ∀ (Q : VK) (E : XK), Ret d G1 H1 Q → sp [x, y, z, w] H1 Q E) :
    EvP (tCall sp [] E (tCons ta (tCons tb (tCons tc (tCons td tNil))))) σ G d :=
  ep_call (eap4 h1 h2 h3 h4) fun vs G1 H1 e e2 ⟨x, y, z, w, ev, dx, dy, dz, dw⟩ Q E q => by rw [ev]; exact hs x y z w G1 H1 e e2 dx dy dz dw Q E q
/-- a built-in's call by a rule of values -/
theorem ep_cb {r : List V → Hp → VK → Prop} {ta : TA} {P : List V → Hp → Prop} (h : EvAP ta σ G P) (hr : ∀ vs G1 H1, Ex G G1 → Ex G1 H1 → P vs G1 → ∀ Q : VK, Ret d G1 H1 Q → r vs H1 Q) : EvP (tCB r ta) σ G d := fun H1 e Q q =>
  h H1 e _ fun vs G2 H2 e2 p => hr vs G2 H2 e2.g e2.s p Q fun z G4 H4 e4 dz => q z G4 H4 (e2.trans e4) dz
/-! ### descriptions -/
def IsTup (xs : List V) : Dsc := fun v H => ∃ p, v = .ref p ∧ H p = some (.tup xs)
def IsLst (xs : List V) : Dsc := fun v H => ∃ p, v = .ref p ∧ H p = some (.lst xs)
instance (xs : List V) : Up (IsTup xs) := ⟨fun _ _ _ e ⟨p, h1, h2⟩ => ⟨p, h1, e p _ h2⟩⟩
instance (xs : List V) : Up (IsLst xs) := ⟨fun _ _ _ e ⟨p, h1, h2⟩ => ⟨p, h1, e p _ h2⟩⟩
/-- a tuple of two things so described, at an address that may be written too -/
def Pr (K : PySem.W.Frag) (d1 d2 : Dsc) : Dsc := fun v H => ∃ p x y, v = .ref p ∧ SqT K H p [x, y] ∧ d1 x H ∧ d2 y H
instance [Up d1] [Up d2] : Up (Pr K d1 d2) := ⟨fun _ H H' e ⟨p, x, y, h1, h2, h3, h4⟩ => ⟨p, x, y, h1, ex_t e h2, Up.up x H H' e h3, Up.up y H H' e h4⟩⟩
/-- a list (a tuple) of n things, the i-th so described -/
def Ls (n : Nat) (f : Nat → Dsc) : Dsc := fun v H => ∃ p xs, v = .ref p ∧ H p = some (.lst xs) ∧ xs.length = n ∧ ∀ i x, xs[i]? = some x → f i x H
def Ts (K : PySem.W.Frag) (n : Nat) (f : Nat → Dsc) : Dsc := fun v H => ∃ p xs, v = .ref p ∧ SqT K H p xs ∧ xs.length = n ∧ ∀ i x, xs[i]? = some x → f i x H
instance {n : Nat} {f : Nat → Dsc} [∀ i, Up (f i)] : Up (Ls n f) := ⟨fun _ H H' e ⟨p, xs, h1, h2, h3, h4⟩ => ⟨p, xs, h1, e p _ h2, h3, fun i x hx => Up.up x H H' e (h4 i x hx)⟩⟩
instance {n : Nat} {f : Nat → Dsc} [∀ i, Up (f i)] : Up (Ts K n f) := ⟨fun _ H H' e ⟨p, xs, h1, h2, h3, h4⟩ => ⟨p, xs, h1, ex_t e h2, h3, fun i x hx => Up.up x H H' e (h4 i x hx)⟩⟩
/-- a list, a tuple of ints -/
def Ints (ns : List Int) : Dsc := IsLst (ns.map V.int)
def TInts (K : PySem.W.Frag) (ns : List Int) : Dsc := fun v H => ∃ p, v = .ref p ∧ SqT K H p (ns.map V.int)
instance (ns : List Int) : Up (Ints ns) := ⟨fun v G G' e h => Up.up (d := IsLst (ns.map V.int)) v G G' e h⟩
instance (ns : List Int) : Up (TInts K ns) := ⟨fun _ _ _ e ⟨p, h1, h2⟩ => ⟨p, h1, ex_t e h2⟩⟩
theorem EvM.ls {n : Nat} {f : Nat → Dsc} [∀ i, Up (f i)] (h : EvM te σ G n f) : EvP te σ G (Ls n f) := fun H1 e Q q => h H1 e Q fun p xs G2 H2 n r m hp hl hx =>
  q _ _ H2 (r.add n hp) ⟨p, xs, rfl, upd_same, hl, fun i x hi => Up.up x G2 _ (ex_new m) (hx i x hi)⟩
theorem _root_.Evl.EvL.p {xs : List V} (h : EvL te σ G xs) : EvP te σ G (IsLst xs) := fun H1 e Q q => h H1 e Q fun p H2 n k hp => q _ _ H2 ((Gr.of e k).add n hp) ⟨p, rfl, upd_same⟩
theorem _root_.Evl.EvU.p {xs : List V} (h : EvU te σ G xs) : EvP te σ G (IsTup xs) := fun H1 e Q q => h H1 e Q fun p H2 n k hp => q _ _ H2 ((Gr.of e k).add n hp) ⟨p, rfl, upd_same⟩
theorem en_tup {ta : TA} {P : List V → Hp → Prop} (h : EvAP ta σ G P) (hl : ∀ vs H1, P vs H1 → vs.length ≤ 100000) (hd : ∀ vs G1 p, Ex G G1 → P vs G1 → G1 p = none → d (.ref p) (upd G1 p (.tup vs))) : EvP (tTup ta) σ G d := fun H1 e _ q =>
  h H1 e _ fun vs G2 H2 e2 pv => ⟨sz_of (hl vs G2 pv), fun p hp => q _ _ _ (e2.trans (Gr.new e2.s hp)) (hd vs G2 p e2.g pv (none_back e2.s hp))⟩
theorem en_pr (h1 : EvP ta σ G d1) (h2 : EvP tb σ G d2) [Up d1] [Up d2] : EvP (tTup (tCons ta (tCons tb tNil))) σ G (Pr K d1 d2) :=
  en_tup (eap2 h1 h2) (fun vs H1 ⟨x, y, e, _⟩ => by rw [e]; show 2 ≤ 100000; decide) fun vs H1 p e ⟨x, y, ev, dx, dy⟩ hp =>
    ⟨p, x, y, rfl, by rw [ev]; exact st_of upd_same, Up.up x H1 _ (Ex.new hp) dx, Up.up y H1 _ (Ex.new hp) dy⟩
theorem em_lst {ta : TA} {P : List V → Hp → Prop} {n : Nat} {f : Nat → Dsc} (h : EvAP ta σ G P) (hl : ∀ vs G1, P vs G1 → vs.length = n ∧ n ≤ 100000 ∧ ∀ i x, vs[i]? = some x → f i x G1) : EvM (tLst ta) σ G n f := fun H1 e _ q =>
  h H1 e _ fun vs G2 H2 e2 pv => by
    obtain ⟨l1, l2, l3⟩ := hl vs G2 pv
    exact ⟨sz_of (by omega), fun p hp => q p vs G2 _ (none_back e2.k hp) (e2.trans (Gr.newH e2.s hp)) (none_back e2.s hp) upd_same l1 l3⟩
theorem el_nil : EvL (tLst tNil) σ G [] := el_lst ea_nil (by show 0 ≤ 100000; decide)
theorem ep_if {b : Bool} (h : EvT t σ G b) (h1 : b = true → EvP ta σ G d) (h2 : b = false → EvP tb σ G d) : EvP (tIf t ta tb) σ G d := fun H1 e Q q => h H1 e _ fun H2 e2 => by
  cases b with
  | true =>
    show ta σ H2 Q
    exact h1 rfl H2 (e.trans e2) Q fun v G3 H3 e3 dv => q v G3 H3 ((Gr.of e e2).trans e3) dv
  | false =>
    show tb σ H2 Q
    exact h2 rfl H2 (e.trans e2) Q fun v G3 H3 e3 dv => q v G3 H3 ((Gr.of e e2).trans e3) dv

/-! ### ints, in short -/
theorem ev_add {i j : Int} (ha : Ev ta σ G (.int i)) (hb : Ev tb σ G (.int j)) : Ev (tOp rAddI ta tb) σ G (.int (i + j)) := ev_op ha hb rv_I0
theorem ev_sub {i j : Int} (ha : Ev ta σ G (.int i)) (hb : Ev tb σ G (.int j)) : Ev (tOp rSubI ta tb) σ G (.int (i - j)) := ev_op ha hb rv_I0
theorem ev_mul {i j : Int} (ha : Ev ta σ G (.int i)) (hb : Ev tb σ G (.int j)) (hc : CMul i j) : Ev (tOp rMulI ta tb) σ G (.int (i * j)) := ev_op ha hb (rv_I hc)
theorem ev_div {i j : Int} (ha : Ev ta σ G (.int i)) (hb : Ev tb σ G (.int j)) (h1 : 0 < j) (h2 : j < 1073741824) : Ev (tOp rDivI ta tb) σ G (.int (i / j)) := ev_op ha hb (rv_I ⟨h1, h2⟩)
theorem ev_mod {i j : Int} (ha : Ev ta σ G (.int i)) (hb : Ev tb σ G (.int j)) (h1 : 0 < j) : Ev (tOp rModI ta tb) σ G (.int (i % j)) := ev_op ha hb (rv_I h1)
theorem ev_neg {i : Int} (ha : Ev ta σ G (.int i)) : Ev (tUn rNegI ta) σ G (.int (-i)) := ev_un ha ru_neg
theorem rv_lt {i j : Int} : RV rLtI (.int i) (.int j) G (.bl (decide (i < j))) := rv_I0
theorem rv_le {i j : Int} : RV rLeI (.int i) (.int j) G (.bl (decide (i ≤ j))) := rv_I0
theorem rv_gt {i j : Int} : RV rGtI (.int i) (.int j) G (.bl (decide (j < i))) := rv_I0
theorem rv_ge {i j : Int} : RV rGeI (.int i) (.int j) G (.bl (decide (j ≤ i))) := rv_I0
theorem dec_i {i j : Int} : decide (V.int i = V.int j) = decide (i = j) := by
  by_cases h : i = j
  · rw [decide_eq_true h, decide_eq_true (congrArg V.int h)]
  · rw [decide_eq_false h, decide_eq_false (fun e => h (V.int.inj e))]
theorem rv_eqI {i j : Int} : RV rEq (.int i) (.int j) G (.bl (decide (i = j))) := fun H1 e Q q => rv_eq (x := .int i) (y := .int j) (H := G) rfl H1 e Q fun H2 e2 => by rw [dec_i]; exact q H2 e2
theorem rv_neI {i j : Int} : RV rNe (.int i) (.int j) G (.bl (!decide (i = j))) := fun H1 e Q q => rv_ne (x := .int i) (y := .int j) (H := G) rfl H1 e Q fun H2 e2 => by rw [dec_i]; exact q H2 e2
theorem ev_lt {i j : Int} (ha : Ev ta σ G (.int i)) (hb : Ev tb σ G (.int j)) : Ev (tOp rLtI ta tb) σ G (.bl (decide (i < j))) := ev_op ha hb rv_lt
theorem ev_le {i j : Int} (ha : Ev ta σ G (.int i)) (hb : Ev tb σ G (.int j)) : Ev (tOp rLeI ta tb) σ G (.bl (decide (i ≤ j))) := ev_op ha hb rv_le
theorem ev_gt {i j : Int} (ha : Ev ta σ G (.int i)) (hb : Ev tb σ G (.int j)) : Ev (tOp rGtI ta tb) σ G (.bl (decide (j < i))) := ev_op ha hb rv_gt
theorem ev_ge {i j : Int} (ha : Ev ta σ G (.int i)) (hb : Ev tb σ G (.int j)) : Ev (tOp rGeI ta tb) σ G (.bl (decide (j ≤ i))) := ev_op ha hb rv_ge
theorem ev_eqI {i j : Int} (ha : Ev ta σ G (.int i)) (hb : Ev tb σ G (.int j)) : Ev (tOp rEq ta tb) σ G (.bl (decide (i = j))) := ev_op ha hb rv_eqI
theorem ev_neI {i j : Int} (ha : Ev ta σ G (.int i)) (hb : Ev tb σ G (.int j)) : Ev (tOp rNe ta tb) σ G (.bl (!decide (i = j))) := ev_op ha hb rv_neI
theorem ev_eqS {i j : Str} (ha : Ev ta σ G (.str i)) (hb : Ev tb σ G (.str j)) : Ev (tOp rEq ta tb) σ G (.bl (decide (V.str i = V.str j))) := ev_op ha hb (rv_eq rfl)
theorem ev_neS {i j : Str} (ha : Ev ta σ G (.str i)) (hb : Ev tb σ G (.str j)) : Ev (tOp rNe ta tb) σ G (.bl (!decide (V.str i = V.str j))) := ev_op ha hb (rv_ne rfl)
theorem ev_isN (ha : Ev ta σ G x) : Ev (tOp rIsNo ta (tC .non)) σ G (.bl (decide (x = .non))) := ev_op ha ev_c fun H1 _ _ q => ⟨rfl, q H1 (Ex.refl H1)⟩
theorem ev_notN (ha : Ev ta σ G x) : Ev (tOp rNotNo ta (tC .non)) σ G (.bl (!decide (x = .non))) := ev_op ha ev_c fun H1 _ _ q => ⟨rfl, q H1 (Ex.refl H1)⟩
theorem ev_abs {i : Int} (ha : Ev ta σ G (.int i)) : Ev (tCB rAbs (tCons ta tNil)) σ G (.int (if i < 0 then -i else i)) := fun H1 e Q q => ha H1 e _ fun H2 e2 => ⟨i, rfl, q H2 e2⟩
theorem ev_sum {p : Addr} {ns : List Int} (ha : Ev ta σ G (.ref p)) (h : SqL K G p (ns.map V.int)) : Ev (tCB (rSum K) (tCons ta tNil)) σ G (.int ns.sum) := fun H1 e Q q => ha H1 e _ fun H2 e2 => ⟨p, ns, rfl, ex_l (e.trans e2) h, q H2 e2⟩
theorem ev_sumT {p : Addr} {ns : List Int} (ha : Ev ta σ G (.ref p)) (h : SqT K G p (ns.map V.int)) : Ev (tCB (rSumT K) (tCons ta tNil)) σ G (.int ns.sum) := fun H1 e Q q => ha H1 e _ fun H2 e2 => ⟨p, ns, rfl, ex_t (e.trans e2) h, q H2 e2⟩
theorem ev_lenT {p : Addr} {xs : List V} (ha : Ev ta σ G (.ref p)) (h : SqT K G p xs) : Ev (tCB (rLenS K) (tCons ta tNil)) σ G (.int (xs.length : Int)) := fun H1 e Q q =>
  ha H1 e _ fun H2 e2 => ⟨p, xs, rfl, Or.inr (ex_t (e.trans e2) h), q H2 e2⟩
theorem ev_lenE {p : Addr} {xs : List V} {n : Int} (ha : Ev ta σ G (.ref p)) (h : SqL K G p xs) (hn : (xs.length : Int) = n) : Ev (tCB (rLenS K) (tCons ta tNil)) σ G (.int n) := by rw [← hn]; exact ev_len ha h
theorem ev_ixL {p : Addr} {xs : List V} {j : Nat} (ha : Ev ta σ G (.ref p)) (hb : Ev tb σ G (.int (j : Int))) (h : SqL K G p xs) (hx : xs[j]? = some v) : Ev (tOp (rIxL K) ta tb) σ G v := ev_op ha hb (rv_ixL h (atI_nat hx))
theorem ev_ixT {p : Addr} {xs : List V} {j : Nat} (ha : Ev ta σ G (.ref p)) (hb : Ev tb σ G (.int (j : Int))) (h : SqT K G p xs) (hx : xs[j]? = some v) : Ev (tOp (rIxT K) ta tb) σ G v := ev_op ha hb (rv_ixT h (atI_nat hx))
theorem ev_ixT0 {p : Addr} {v : V} {xs : List V} (ha : Ev ta σ G (.ref p)) (h : SqT K G p (v :: xs)) : Ev (tOp (rIxT K) ta (tC (.int 0))) σ G v := ev_ixT (j := 0) ha ev_c h rfl
theorem ev_ixT1 {p : Addr} {u v : V} {xs : List V} (ha : Ev ta σ G (.ref p)) (h : SqT K G p (u :: v :: xs)) : Ev (tOp (rIxT K) ta (tC (.int 1))) σ G v := ev_ixT (j := 1) ha ev_c h rfl
theorem ev_chain {i j l : V} {r1 r2 : R2} {tc : TE} {a b : Bool} (ha : Ev ta σ G i) (hb : Ev tb σ G j) (hc : Ev tc σ G l) (h1 : RV r1 i j G (.bl a)) (h2 : RV r2 j l G (.bl b)) : Ev (tChain r1 r2 ta tb tc) σ G (.bl (a && b)) := fun H1 e Q q =>
  ha H1 e _ fun H2 e2 => hb H2 (e.trans e2) _ fun H3 e3 => h1 H3 ((e.trans e2).trans e3) _ fun H4 e4 => ⟨a, rfl, by
    cases a with
    | true =>
      show tc σ H4 _
      refine hc H4 (((e.trans e2).trans e3).trans e4) _ fun H5 e5 => h2 H5 ((((e.trans e2).trans e3).trans e4).trans e5) Q fun H6 e6 => ?_
      exact q H6 ((((e2.trans e3).trans e4).trans e5).trans e6)
    | false =>
      show Q (.bl false) H4
      exact q H4 ((e2.trans e3).trans e4)⟩
theorem ev_bl {a b : Bool} (h : Ev te σ G (.bl a)) (e : a = b) : Ev te σ G (.bl b) := by rw [← e]; exact h
theorem ev_int {a b : Int} (h : Ev te σ G (.int a)) (e : a = b) : Ev te σ G (.int b) := by rw [← e]; exact h

/-! ### isinstance -/
theorem ev_isi {n m : String} {b : Bool} (ha : Ev ta σ G x) (ht : ∀ H1, Ex G H1 → TyX K H1 x (.type n)) (hk : kitB n m = some b) : Ev (tCB (rIsi K) (tCons ta (tCons (tC (.ty m)) tNil))) σ G (.bl b) := fun H1 e Q q =>
  ha H1 e _ fun H2 e2 => ⟨x, .ty m, .type n, .type m, b, rfl, .ty m, ht H2 (e.trans e2), kit_ty hk, q H2 e2⟩
theorem ty_int {i : Int} : TyX K H (.int i) (.type "int") := .base (.int i)
theorem ty_bl {i : Bool} : TyX K H (.bl i) (.type "bool") := .base (.bl i)
theorem ty_lst {a : Addr} {xs : List V} (h : H a = some (.lst xs)) : TyX K H (.ref a) (.type "list") := .base (.lst h)
theorem ty_tup {a : Addr} {xs : List V} (h : SqT K H a xs) : TyX K H (.ref a) (.type "tuple") := by
  rcases h with (h | ⟨o, h⟩) | ⟨o, its, n, h1, h2, _⟩
  · exact .base (.tup h)
  · exact .fTuple h
  · exact .kTuple h1 h2

/-! ### statements: G the known, H the heap -/
variable {D : Ends} {tu tw tz : TS} {g : TG}
theorem s_asgP {i : Nat} (e : Ex G H) (h : EvP te σ G d) (k : ∀ v G1 H1, Gr G H G1 H1 → d v G1 → D.nx (σ.set i (some v)) H1) : tAsg te (gName i) D σ H := h H e _ fun v G1 H1 r dv => k v G1 H1 r dv
theorem q_asgP {i : Nat} (e : Ex G H) (h : EvP te σ G d) (k : ∀ v G1 H1, Gr G H G1 H1 → d v G1 → tz D (σ.set i (some v)) H1) : tSeq (tAsg te (gName i)) tz D σ H := s_asgP (D := { D with nx := tz D }) e h k
theorem s_asgV {i : Nat} (e : Ex G H) (h : Ev te σ G v) (k : ∀ H1, Gr G H G H1 → D.nx (σ.set i (some v)) H1) : tAsg te (gName i) D σ H := h H e _ fun H1 r => k H1 (Gr.of e r)
theorem q_asgV {i : Nat} (e : Ex G H) (h : Ev te σ G v) (k : ∀ H1, Gr G H G H1 → tz D (σ.set i (some v)) H1) : tSeq (tAsg te (gName i)) tz D σ H := s_asgV (D := { D with nx := tz D }) e h k
theorem s_asgM {i n : Nat} {f : Nat → Dsc} (e : Ex G H) (h : EvM te σ G n f) (k : ∀ p xs G1 H1, H p = none → Gr G H G1 H1 → G1 p = none → H1 p = some (.lst xs) → xs.length = n → (∀ i x, xs[i]? = some x → f i x G1) → D.nx (σ.set i (some (.ref p))) H1) : tAsg te (gName i) D σ H := h H e _ k
theorem q_asgM {i n : Nat} {f : Nat → Dsc} (e : Ex G H) (h : EvM te σ G n f) (k : ∀ p xs G1 H1, H p = none → Gr G H G1 H1 → G1 p = none → H1 p = some (.lst xs) → xs.length = n → (∀ i x, xs[i]? = some x → f i x G1) → tz D (σ.set i (some (.ref p))) H1) : tSeq (tAsg te (gName i)) tz D σ H := s_asgM (D := { D with nx := tz D }) e h k
/-- a new list, hidden (it will change) -/
theorem q_asgH {i : Nat} {xs : List V} (e : Ex G H) (h : EvL te σ G xs) (k : ∀ p H1, H p = none → Gr G H G H1 → H1 p = some (.lst xs) → tz D (σ.set i (some (.ref p))) H1) : tSeq (tAsg te (gName i)) tz D σ H := h H e _ fun p H1 n r hp => k p H1 n (Gr.of e r) hp
theorem s_retP (e : Ex G H) (h : EvP te σ G d) (k : Ret d G H D.rt) : tRet te D σ H := h H e _ k
theorem s_retV (e : Ex G H) (h : Ev te σ G v) (k : Ret (Is v) G H D.rt) : tRet te D σ H := h H e _ fun H1 r => k v G H1 (Gr.of e r) rfl
theorem s_dropP (e : Ex G H) (h : EvP te σ G d) (k : ∀ v G1 H1, Gr G H G1 H1 → d v G1 → D.nx σ H1) : tDrop te D σ H := h H e _ k
theorem q_dropP (e : Ex G H) (h : EvP te σ G d) (k : ∀ v G1 H1, Gr G H G1 H1 → d v G1 → tz D σ H1) : tSeq (tDrop te) tz D σ H := s_dropP (D := { D with nx := tz D }) e h k
/-- an if whose test is false -/
theorem q_skip (e : Ex G H) (h : EvT t σ G false) (k : ∀ H1, Gr G H G H1 → tz D σ H1) : tSeq (tIfS t tu tNext) tz D σ H := q_when (h.mono e) (fun e => nomatch e) fun _ H1 r => k H1 (Gr.of e r)
theorem s_skip (e : Ex G H) (h : EvT t σ G false) (k : ∀ H1, Gr G H G H1 → D.nx σ H1) : tIfS t tu tNext D σ H := s_when (h.mono e) (fun e => nomatch e) fun _ H1 r => k H1 (Gr.of e r)
theorem q_ifb {b : Bool} (e : Ex G H) (h : EvT t σ G b) (h1 : b = true → ∀ H1, Gr G H G H1 → tu { D with nx := tz D } σ H1) (h2 : b = false → ∀ H1, Gr G H G H1 → tz D σ H1) : tSeq (tIfS t tu tNext) tz D σ H := q_when (h.mono e) (fun e1 H1 r => h1 e1 H1 (Gr.of e r)) fun e1 H1 r => h2 e1 H1 (Gr.of e r)
theorem s_ifb {b : Bool} (e : Ex G H) (h : EvT t σ G b) (h1 : b = true → ∀ H1, Gr G H G H1 → tu D σ H1) (h2 : b = false → ∀ H1, Gr G H G H1 → tw D σ H1) : tIfS t tu tw D σ H := s_if (h.mono e) (fun e1 H1 r => h1 e1 H1 (Gr.of e r)) fun e1 H1 r => h2 e1 H1 (Gr.of e r)
theorem s_par {i j : Nat} {ta : TA} (e : Ex G H) (h : EvA ta σ G [x, y]) (k : ∀ H1, Gr G H G H1 → D.nx ((σ.set i (some x)).set j (some y)) H1) : tPar i j ta D σ H := h H e _ fun H1 r => ⟨x, y, rfl, k H1 (Gr.of e r)⟩
/-- xs.append(e), e so described, xs hidden -/
theorem s_appP {l : Addr} {xs : List V} (e : Ex G H) (hl : H l = some (.lst xs)) (ha : Ev ta σ H (.ref l)) (h : EvP te σ G d) (hz : xs.length < 100000) (k : ∀ v G1 H1, Gr G H G1 H1 → d v G1 → D.nx σ (upd H1 l (.lst (xs ++ [v])))) :
    tDrop (tBM K "list" rAppend ta (tCons te tNil)) D σ H := ha H (Ex.refl H) _ fun H1 e1 =>
  ⟨Or.inl ⟨rfl, xs, sq_of (e1 l _ hl)⟩, h H1 (e.trans e1) _ fun v G2 H2 e2 dv => ⟨l, xs, v, rfl, rfl, e2.k l _ (e1 l _ hl), sz_lt hz, k v G2 H2 ((Gr.of e e1).trans e2) dv⟩⟩
theorem q_appP {l : Addr} {xs : List V} (e : Ex G H) (hl : H l = some (.lst xs)) (ha : Ev ta σ H (.ref l)) (h : EvP te σ G d) (hz : xs.length < 100000) (k : ∀ v G1 H1, Gr G H G1 H1 → d v G1 → tz D σ (upd H1 l (.lst (xs ++ [v])))) :
    tSeq (tDrop (tBM K "list" rAppend ta (tCons te tNil))) tz D σ H := s_appP (D := { D with nx := tz D }) e hl ha h hz k
/-- xs[j] = e, xs hidden -/
theorem s_setP {l : Addr} {xs : List V} {j : Nat} (e : Ex G H) (hl : H l = some (.lst xs)) (h : EvP te σ G d) (ho : Ev ta σ H (.ref l)) (hi : Ev tb σ H (.int (j : Int))) (hj : j < xs.length) (k : ∀ v G1 H1, Gr G H G1 H1 → d v G1 → D.nx σ (upd H1 l (.lst (xs.set j v)))) :
    tAsg te (gSub ta tb rSetL) D σ H := h H e _ fun v G1 H1 e1 dv => ho H1 e1.k _ fun H2 e2 => hi H2 (e1.k.trans e2) _ fun H3 e3 =>
  ⟨l, xs, (j : Int), j, rfl, rfl, ((e1.k.trans e2).trans e3) l _ hl, ixN_nat hj, k v G1 H3 (e1.trans (Gr.of e1.s (e2.trans e3))) dv⟩
theorem q_setP {l : Addr} {xs : List V} {j : Nat} (e : Ex G H) (hl : H l = some (.lst xs)) (h : EvP te σ G d) (ho : Ev ta σ H (.ref l)) (hi : Ev tb σ H (.int (j : Int))) (hj : j < xs.length) (k : ∀ v G1 H1, Gr G H G1 H1 → d v G1 → tz D σ (upd H1 l (.lst (xs.set j v)))) :
    tSeq (tAsg te (gSub ta tb rSetL)) tz D σ H := s_setP (D := { D with nx := tz D }) e hl h ho hi hj k

/-! ### comprehensions, each turn giving a thing so described -/
def Cv (G H : Hp) (f : Nat → Dsc) (Dl : Addr) (i : Nat) (H' : Hp) : Prop := H Dl = none ∧ ∃ G' xs, Gr G H G' H' ∧ G' Dl = none ∧ H' Dl = some (.lst xs) ∧ xs.length = i ∧ ∀ j x, xs[j]? = some x → f j x G'
theorem cv_start {f : Nat → Dsc} {Dl : Addr} (e : Ex G H) (k : Ex H H') (n : H' Dl = none) : Cv G H f Dl 0 (upd H' Dl (.lst [])) :=
  ⟨none_back k n, G, [], (Gr.of e k).mut (none_back k n) (none_back (e.trans k) n), none_back (e.trans k) n, upd_same, rfl, fun j x h => by cases h⟩
theorem cv_turn {f : Nat → Dsc} [∀ i, Up (f i)] {Dl : Addr} {i : Nat} {σ2 : L2.St} (c : Cv G H f Dl i H') (hi : i < 50000) (he : ∀ G1, Ex G G1 → EvP te σ2 G1 (f i)) :
    tYes σ2 H' fun b H3 => if b = true then te σ2 H3 fun y H4 => ∃ acc, H4 Dl = some (.lst acc) ∧ acc.length < sizeLine ∧ Cv G H f Dl (i + 1) (upd H4 Dl (.lst (acc ++ [y]))) else Cv G H f Dl (i + 1) H3 := by
  obtain ⟨n, G', xs, r, m, hl, hx, hf⟩ := c
  show te σ2 H' fun y H4 => ∃ acc, H4 Dl = some (.lst acc) ∧ acc.length < sizeLine ∧ Cv G H f Dl (i + 1) (upd H4 Dl (.lst (acc ++ [y])))
  refine he G' r.g H' r.s _ fun v G2 H2 r2 dv => ⟨xs, r2.k Dl _ hl, sz_lt (by omega), n, G2, xs ++ [v], (r.trans r2).mut n (r2.hidd hl m), r2.hidd hl m, upd_same, by rw [List.length_append, hx]; rfl, fun j x hj => ?_⟩
  by_cases c : j < xs.length
  · rw [List.getElem?_append_left c] at hj
    exact Up.up x G' G2 r2.g (hf j x hj)
  · rw [List.getElem?_append_right (by omega)] at hj
    cases q : j - xs.length with
    | zero =>
      rw [q] at hj
      have ej : j = i := by omega
      have ev : v = x := Option.some.inj hj
      subst ej ev
      exact dv
    | succ k => rw [q] at hj; cases hj
theorem em_lcR {ta : TA} {j : Nat} {n : Int} (f : Nat → Dsc) [∀ i, Up (f i)] (h : EvA ta σ G [.int n]) (hn : 0 ≤ n ∧ n ≤ 40000) (hw : ∀ x, wipe ((wipe σ [j]).set j (some x)) [j] = wipe σ [j])
    (he : ∀ (i : Nat) G1, Ex G G1 → (i : Int) < n → EvP te ((wipe σ [j]).set j (some (.int (i : Int)))) G1 (f i)) : EvM (tLc (iRng1 ta) (gName j) tYes te [j]) σ G n.toNat f := fun H1 e Q q => h H1 e _ fun H2 e2 => ⟨n, rfl, by omega, by omega, fun Dl hD =>
  lc_range (lo := 0) (n := n.toNat) (Cv G H1 f Dl) (cv_start e e2 hD) (fun i H' hi c => by
    have e0 : (0 : Int) + (i : Int) = (i : Int) := Int.zero_add _
    show wipe ((wipe σ [j]).set j (some (.int ((0 : Int) + (i : Int))))) [j] = wipe σ [j] ∧ tYes ((wipe σ [j]).set j (some (.int ((0 : Int) + (i : Int))))) H' fun b H3 => if b = true then te ((wipe σ [j]).set j (some (.int ((0 : Int) + (i : Int))))) H3 fun y H4 => ∃ acc, H4 Dl = some (.lst acc) ∧ acc.length < sizeLine ∧ Cv G H1 f Dl (i + 1) (upd H4 Dl (.lst (acc ++ [y]))) else Cv G H1 f Dl (i + 1) H3
    rw [e0]
    exact ⟨hw _, cv_turn c (by omega) fun G1 e1 => he i G1 e1 (by omega)⟩) (fun H' c => by
    obtain ⟨n0, G', xs, r, m, hl, hx, hf⟩ := c
    exact q Dl xs G' H' n0 r m hl hx hf)⟩
theorem em_lcL {a : Addr} {xs : List V} {tl : TE} {j : Nat} (f : Nat → Dsc) [∀ i, Up (f i)] (h : Ev tl σ G (.ref a)) (hx : SqL K G a xs) (hz : xs.length ≤ 40000) (hw : ∀ x, wipe ((wipe σ [j]).set j (some x)) [j] = wipe σ [j])
    (he : ∀ (i : Nat) (x : V) G1, Ex G G1 → xs[i]? = some x → EvP te ((wipe σ [j]).set j (some x)) G1 (f i)) : EvM (tLc (iList K tl) (gName j) tYes te [j]) σ G xs.length f := fun H1 e Q q => h H1 e _ fun H2 e2 => ⟨a, rfl, ⟨xs, ex_l (e.trans e2) hx⟩, fun Dl hD =>
  lc_list (xs := xs) (Cv G H1 f Dl) (cv_start e e2 hD) (fun i H' _ c => by
    obtain ⟨n0, G', ys, r, m, hl, hx', hf⟩ := c
    exact ex_l r.e hx) (fun i x H' hi c => ⟨hw x, cv_turn c (by have := (List.getElem?_eq_some_iff.mp hi).1; omega) fun G1 e1 => he i x G1 e1 hi⟩) (fun H' c => by
    obtain ⟨n0, G', ys, r, m, hl, hx', hf⟩ := c
    exact q Dl ys G' H' n0 r m hl hx' hf)⟩
/-- over a list of pairs: for a, b in xs -/
theorem em_lcL2 {a : Addr} {xs : List V} {tl : TE} {j k : Nat} (f : Nat → Dsc) [∀ i, Up (f i)] (h : Ev tl σ G (.ref a)) (hx : SqL K G a xs) (hz : xs.length ≤ 40000) (hw : ∀ x y, wipe (((wipe σ [j, k]).set j (some x)).set k (some y)) [j, k] = wipe σ [j, k])
    (he : ∀ (i : Nat) (z : V), xs[i]? = some z → ∃ p x y, z = .ref p ∧ SqT K G p [x, y] ∧ ∀ G1, Ex G G1 → EvP te (((wipe σ [j, k]).set j (some x)).set k (some y)) G1 (f i)) : EvM (tLc (iList K tl) (gTup K 2 (gCons (gName j) (gCons (gName k) gNil))) tYes te [j, k]) σ G xs.length f := fun H1 e Q q => h H1 e _ fun H2 e2 => ⟨a, rfl, ⟨xs, ex_l (e.trans e2) hx⟩, fun Dl hD =>
  lc_list (xs := xs) (Cv G H1 f Dl) (cv_start e e2 hD) (fun i H' _ c => by
    obtain ⟨n0, G', ys, r, m, hl, hx', hf⟩ := c
    exact ex_l r.e hx) (fun i z H' hi c => by
    obtain ⟨n0, G', ys, r, m, hl, hx', hf⟩ := id c
    obtain ⟨p, x, y, rfl, ht, hev⟩ := he i z hi
    exact ⟨p, [x, y], rfl, ex_t r.e ht, rfl, x, [y], rfl, y, [], rfl, rfl, hw x y, cv_turn c (by have := (List.getElem?_eq_some_iff.mp hi).1; omega) hev⟩) (fun H' c => by
    obtain ⟨n0, G', ys, r, m, hl, hx', hf⟩ := c
    exact q Dl ys G' H' n0 r m hl hx' hf)⟩
end
end Dt
set_option Elab.async false
set_option linter.all false
/-! Plain arithmetic for law k49: fractions in lowest terms over one bottom. -/
namespace DtM
def fr (a b : Int) : Int × Int := (a / (Int.gcd a b : Int), b / (Int.gcd a b : Int))
theorem gcd_pos {a b : Int} (h : 0 < b) : 0 < (Int.gcd a b : Int) := by
  have : Int.gcd a b ≠ 0 := fun e => by
    have := (Int.gcd_eq_zero_iff.mp e).2
    omega
  omega
theorem gcd_le {a b : Int} (h : 0 < b) : (Int.gcd a b : Int) ≤ b := Int.le_of_dvd h (Int.gcd_dvd_right ..)
theorem fr_1 {a b : Int} (h : 0 < b) : (fr a b).1 * (Int.gcd a b : Int) = a := Int.ediv_mul_cancel (Int.gcd_dvd_left ..)
theorem fr_2 {a b : Int} (h : 0 < b) : (fr a b).2 * (Int.gcd a b : Int) = b := Int.ediv_mul_cancel (Int.gcd_dvd_right ..)
theorem fr_pos {a b : Int} (h : 0 < b) : 0 < (fr a b).2 := by
  have h1 := fr_2 (a := a) h
  have h2 := gcd_pos (a := a) h
  rcases Int.lt_trichotomy (fr a b).2 0 with c | c | c
  · have := Int.mul_neg_of_neg_of_pos c h2
    omega
  · rw [c] at h1; omega
  · exact c
theorem fr_le {a b : Int} (h : 0 < b) : (fr a b).2 ≤ b := by
  have h1 := fr_2 (a := a) h
  have h2 := gcd_pos (a := a) h
  have h3 := fr_pos (a := a) h
  have : (fr a b).2 * 1 ≤ (fr a b).2 * (Int.gcd a b : Int) := Int.mul_le_mul_of_nonneg_left (by omega) (by omega)
  omega
theorem fr_mul {a b : Int} (h : 0 < b) : (fr a b).1 * b = a * (fr a b).2 := by
  have h1 := fr_1 (a := a) h
  have h2 := fr_2 (a := a) h
  grind
theorem fr_gcd {a b : Int} (h : 0 < b) : Int.gcd (fr a b).1 (fr a b).2 = 1 := Int.gcd_ediv_gcd_ediv_gcd (by have := gcd_pos (a := a) h; omega)
theorem fr_scale {a b k : Int} (h : 0 < b) (hk : 0 < k) : fr (a * k) (b * k) = fr a b := by
  have g : (Int.gcd (a * k) (b * k) : Int) = (Int.gcd a b : Int) * k := by
    rw [Int.gcd_mul_right, Int.natCast_mul]
    have : (k.natAbs : Int) = k := by omega
    rw [this]
  unfold fr
  rw [g, Int.mul_ediv_mul_of_pos_left _ _ hk, Int.mul_ediv_mul_of_pos_left _ _ hk]
theorem fr_eq {a b c d : Int} (hb : 0 < b) (hd : 0 < d) (e : a * d = c * b) : fr a b = fr c d := by
  rw [← fr_scale (a := a) hb hd, ← fr_scale (a := c) hd hb, e, Int.mul_comm b d]
theorem fr_plus {a b S : Int} (h : 0 < S) : fr ((fr a S).1 * (fr b S).2 + (fr b S).1 * (fr a S).2) ((fr a S).2 * (fr b S).2) = fr (a + b) S := by
  refine fr_eq (Int.mul_pos (fr_pos h) (fr_pos h)) h ?_
  have h1 := fr_mul (a := a) h
  have h2 := fr_mul (a := b) h
  grind
theorem fr_minus {a b S : Int} (h : 0 < S) : fr ((fr a S).1 * (fr b S).2 - (fr b S).1 * (fr a S).2) ((fr a S).2 * (fr b S).2) = fr (a - b) S := by
  refine fr_eq (Int.mul_pos (fr_pos h) (fr_pos h)) h ?_
  have h1 := fr_mul (a := a) h
  have h2 := fr_mul (a := b) h
  grind
theorem fr_less {a b S : Int} (h : 0 < S) : (fr a S).1 * (fr b S).2 < (fr b S).1 * (fr a S).2 ↔ a < b := by
  have h1 := fr_mul (a := a) h
  have h2 := fr_mul (a := b) h
  have p := Int.mul_pos (fr_pos (a := a) h) (fr_pos (a := b) h)
  have e1 : (fr a S).1 * (fr b S).2 * S = a * ((fr a S).2 * (fr b S).2) := by grind
  have e2 : (fr b S).1 * (fr a S).2 * S = b * ((fr a S).2 * (fr b S).2) := by grind
  constructor
  · intro c
    have := Int.mul_lt_mul_of_pos_right c h
    rw [e1, e2] at this
    exact Int.lt_of_mul_lt_mul_right this (by omega)
  · intro c
    have := Int.mul_lt_mul_of_pos_right c p
    rw [← e1, ← e2] at this
    exact Int.lt_of_mul_lt_mul_right this (by omega)
theorem fr_whole {k S : Int} (h : 0 < S) : fr (k * S) S = (k, 1) := by
  have e : fr (k * S) S = fr k 1 := fr_eq h (by omega) (by omega)
  rw [e]
  unfold fr
  simp
theorem fr_nought {S : Int} (h : 0 < S) : fr 0 S = (0, 1) := by
  have := fr_whole (k := 0) h
  simpa using this
theorem fr_one {S : Int} (h : 0 < S) : fr S S = (1, 1) := by
  have := fr_whole (k := 1) h
  simpa using this
theorem fr_zero_iff {a S : Int} (h : 0 < S) : fr a S = (0, 1) ↔ a = 0 := by
  constructor
  · intro e
    have h1 := fr_mul (a := a) h
    rw [e] at h1
    simpa using h1.symm
  · intro e; rw [e]; exact fr_nought h
theorem fr_floor {a S : Int} (h : 0 < S) : (fr a S).1 / (fr a S).2 = a / S := by
  have h1 := fr_1 (a := a) h
  have h2 := fr_2 (a := a) h
  have e : a / S = ((fr a S).1 * (Int.gcd a S : Int)) / ((fr a S).2 * (Int.gcd a S : Int)) := by rw [h1, h2]
  rw [e, Int.mul_ediv_mul_of_pos_left _ _ (gcd_pos h)]
theorem fr_neg {a S : Int} (h : 0 < S) : fr (-a) S = (-(fr a S).1, (fr a S).2) := by
  have g : Int.gcd (-a) S = Int.gcd a S := Int.neg_gcd ..
  unfold fr
  rw [g, Int.neg_ediv_of_dvd (Int.gcd_dvd_left ..)]
theorem fr_abs {a S : Int} (h : 0 < S) : ((if (fr a S).1 < 0 then -(fr a S).1 else (fr a S).1), (fr a S).2) = fr (if a < 0 then -a else a) S := by
  have h1 := fr_1 (a := a) h
  have g := gcd_pos (a := a) h
  by_cases c : a < 0
  · have : (fr a S).1 < 0 := by
      rcases Int.lt_or_le (fr a S).1 0 with q | q
      · exact q
      · have := Int.mul_nonneg q (Int.le_of_lt g); omega
    rw [if_pos c, if_pos this, fr_neg h]
  · have : ¬ (fr a S).1 < 0 := fun q => by
      have := Int.mul_neg_of_neg_of_pos q g; omega
    rw [if_neg c, if_neg this]
theorem fr_bound {a S M : Int} (h : 0 < S) (h1 : -M ≤ a) (h2 : a ≤ M) : -M ≤ (fr a S).1 ∧ (fr a S).1 ≤ M := by
  have e := fr_1 (a := a) h
  have g := gcd_pos (a := a) h
  constructor
  · rcases Int.lt_or_le (fr a S).1 0 with q | q
    · have := Int.mul_le_mul_of_nonpos_left (a := (fr a S).1) (b := (Int.gcd a S : Int)) (c := 1) (by omega) (by omega)
      omega
    · omega
  · rcases Int.lt_or_le (fr a S).1 0 with q | q
    · omega
    · have := Int.mul_le_mul_of_nonneg_left (a := 1) (b := (Int.gcd a S : Int)) (c := (fr a S).1) (by omega) (by omega)
      omega
end DtM
namespace DtM
theorem gcd_mod {p q : Int} (hp : 0 ≤ p) (hq : 0 ≤ q) : Int.gcd q (p % q) = Int.gcd p q := by
  obtain ⟨m, rfl⟩ := Int.eq_ofNat_of_zero_le hp
  obtain ⟨n, rfl⟩ := Int.eq_ofNat_of_zero_le hq
  have e : ((m : Int) % (n : Int)) = ((m % n : Nat) : Int) := by omega
  rw [e]
  show Nat.gcd n (m % n) = Nat.gcd m n
  rw [Nat.gcd_comm m n, Nat.gcd_rec n m, Nat.gcd_comm]
end DtM
set_option Elab.async false
set_option linter.all false
/-! Plain words for law k49. -/
namespace DtM
/-- the law's weights -/
structure Wts (w : List Int) : Prop where
  l2 : 2 ≤ w.length
  l6 : w.length ≤ 6
  nn : ∀ x ∈ w, 0 ≤ x
  le : ∀ x ∈ w, x ≤ 29
  ps : 0 < w.sum
  ss : w.sum ≤ 174
def wt (w : List Int) (i : Nat) : Int := w.getD i 0
/-- the ranges of counts for the bound of all below 1 -/
def lo (w : List Int) (t i : Nat) : Int := ((t : Int) * wt w i) / w.sum
def hi (w : List Int) (t i : Nat) : Int := -((-((t : Int) * wt w i)) / w.sum)
/-- the first of k places from p on where low is above c; behind them where none is -/
def mbF (w : List Int) (i : Nat) (c : Int) : Nat → Nat → Nat
  | 0, p => p
  | k + 1, p => if lo w p i > c then p else mbF w i c k (p + 1)
def mb (w : List Int) (T p i : Nat) (c : Int) : Nat := mbF w i c (T + 1 - p) p
def cnt (row : List Int) (t i : Nat) : Int := ((row.take t).count (i : Int) : Nat)
/-- a claimant's lag behind t turns, times the weights' sum -/
def lagN (w : List Int) (row : List Int) (i t : Nat) : Int := (t : Int) * wt w i - cnt row t i * w.sum
structure GoodRow (w : List Int) (T : Nat) (row : List Int) : Prop where
  len : row.length = T
  cl : ∀ a ∈ row, 0 ≤ a ∧ a < w.length
  lag : ∀ t i, t ≤ T → i < w.length → -w.sum < lagN w row i t ∧ lagN w row i t < w.sum
/-- how often i is chosen in the first t turns of the lap for ever -/
def cntE (lap : List Int) (i t : Int) : Int := t / lap.length * (lap.count i : Nat) + ((lap.take (t % lap.length).toNat).count i : Nat)
def gcdL (w : List Int) : Int := w.foldl (fun g x => (Int.gcd g x : Int)) 0
def SpellsOk (ns : List Int) : Prop := ns ≠ [] ∧ ns.length ≤ 8 ∧ (∀ n ∈ ns, 1 ≤ n ∧ n ≤ 60) ∧ ns.sum ≤ 240
/-- the keeper: credits times the weights' sum -/
def grow (w c : List Int) : List Int := List.zipWith (· + ·) c w
/-- the first greatest -/
def am (g : List Int) : Nat → Nat
  | 0 => 0
  | k + 1 => if g.getD (am g k) 0 < g.getD (k + 1) 0 then k + 1 else am g k
def pick (w c : List Int) : Nat := am (grow w c) (w.length - 1)
def kstep (w c : List Int) : List Int := (grow w c).set (pick w c) ((grow w c).getD (pick w c) 0 - w.sum)
def kcred (w : List Int) : Nat → List Int
  | 0 => List.replicate w.length 0
  | k + 1 => kstep w (kcred w k)
def krow (w : List Int) (k : Nat) : List Int := (List.range k).map fun j => ((pick w (kcred w j) : Nat) : Int)
end DtM
set_option Elab.async false
set_option linter.all false
set_option maxRecDepth 100000
set_option maxHeartbeats 4000000
/-! The text by places, what the top leaves, and each def's promise. -/
namespace Dt
open PySem PySem.Spec PyProof.Rows L2 Evl DtM
def top (i : Nat) : Stmt := PySem.Challenge.pw_dueturns_k49_whole_kept_for_ever.main.body.getD i (.Pass ⟨0, 0, 0, 0⟩)
abbrev FARI : Int := 10 ^ 40
structure Txt (K : PySem.W.Frag) (mg : Str → Option Value) (aNOUGHT aONE : Addr) : Prop where
  MOST_SPELLS : ∃ t, mg "MOST_SPELLS" = some (.int 8 t)
  MOST_TURNS : ∃ t, mg "MOST_TURNS" = some (.int 240 t)
  MOST_IN_SPELL : ∃ t, mg "MOST_IN_SPELL" = some (.int 60 t)
  MOST_CLAIMANTS : ∃ t, mg "MOST_CLAIMANTS" = some (.int 6 t)
  MOST_WEIGHT : ∃ t, mg "MOST_WEIGHT" = some (.int 1000 t)
  MOST_BOUND : ∃ t, mg "MOST_BOUND" = some (.int 300 t)
  FAR : ∃ t, mg "FAR" = some (.int FARI t)
  NOUGHT : mg "NOUGHT" = some (.ref aNOUGHT)
  ONE : mg "ONE" = some (.ref aONE)
  tN : ∀ H, SqT K H aNOUGHT [.int 0, .int 1]
  tO : ∀ H, SqT K H aONE [.int 1, .int 1]
  b_len : mg "len" = none
  b_sum : mg "sum" = none
  b_max : mg "max" = none
  b_abs : mg "abs" = none
  b_all : mg "all" = none
  b_range : mg "range" = none
  b_isinstance : mg "isinstance" = none
  b_list : mg "list" = none
  b_tuple : mg "tuple" = none
  b_int : mg "int" = none
  b_bool : mg "bool" = none
/-! ### promises by the number of arguments -/
def Sp1 (B : V → Hp → VK → Prop) : Sp := fun vs H Q _ => ∃ x, vs = [x] ∧ B x H Q
def Sp2 (B : V → V → Hp → VK → Prop) : Sp := fun vs H Q _ => ∃ x y, vs = [x, y] ∧ B x y H Q
def Sp3 (B : V → V → V → Hp → VK → Prop) : Sp := fun vs H Q _ => ∃ x y z, vs = [x, y, z] ∧ B x y z H Q
def Sp4 (B : V → V → V → V → Hp → VK → Prop) : Sp := fun vs H Q _ => ∃ x y z u, vs = [x, y, z, u] ∧ B x y z u H Q
theorem len1 {B} : ∀ vs H Q E, Sp1 B vs H Q E → vs.length = 1 := fun _ _ _ _ ⟨_, h, _⟩ => by rw [h]; rfl
theorem len2 {B} : ∀ vs H Q E, Sp2 B vs H Q E → vs.length = 2 := fun _ _ _ _ ⟨_, _, h, _⟩ => by rw [h]; rfl
theorem len3 {B} : ∀ vs H Q E, Sp3 B vs H Q E → vs.length = 3 := fun _ _ _ _ ⟨_, _, _, h, _⟩ => by rw [h]; rfl
theorem len4 {B} : ∀ vs H Q E, Sp4 B vs H Q E → vs.length = 4 := fun _ _ _ _ ⟨_, _, _, _, h, _⟩ => by rw [h]; rfl
/-! ### descriptions -/
/-- the fraction a / S -/
def Fr (K : PySem.W.Frag) (S a : Int) : Dsc := fun v H => ∃ p, v = .ref p ∧ SqT K H p [.int (fr a S).1, .int (fr a S).2]
instance (K : PySem.W.Frag) (S a : Int) : Up (Fr K S a) := ⟨fun _ _ _ e ⟨p, h1, h2⟩ => ⟨p, h1, ex_t e h2⟩⟩
def Sm (S : Int) : Prop := 0 < S ∧ S ≤ 30000
/-- the bound of all below m / S -/
abbrev Bd (K : PySem.W.Frag) (S m : Int) : Dsc := Pr K (Fr K S m) (Is (.bl true))
abbrev RunD (K : PySem.W.Frag) (lap : List Int) : Dsc := Pr K (Ints []) (Ints lap)
/-- a list of things that are in every turn so described by a word that holds of some list of ints -/
def ExI (p : List Int → Prop) : Dsc := fun v H => ∃ row, p row ∧ Ints row v H
instance (p : List Int → Prop) : Up (ExI p) := ⟨fun v G G' e ⟨r, h1, h2⟩ => ⟨r, h1, Up.up v G G' e h2⟩⟩
abbrev TableD (K : PySem.W.Frag) (w : List Int) (T : Nat) : Dsc := Ls (T + 1) fun t => Ls w.length fun i => Fr K w.sum ((t : Int) * wt w i)
abbrev RangesD (K : PySem.W.Frag) (w : List Int) (T : Nat) : Dsc := Ls (T + 1) fun t => Ls w.length fun i => Pr K (Is (.int (lo w t i))) (Is (.int (hi w t i)))
abbrev SpellsD (K : PySem.W.Frag) (ns w : List Int) : Dsc := Ls ns.length fun i => Pr K (Is (.int (ns.getD i 0))) (Ints w)
abbrev KeptD (K : PySem.W.Frag) (ns w : List Int) : Dsc := Ls ns.length fun i => Pr K (Is (.int (ns.getD i 0))) (TInts K w)
/-- a plan as far as its spells -/
def KeptAt (K : PySem.W.Frag) (C : Addr) (ns w : List Int) : Dsc := fun x H => ∃ p dx fs kv, x = .ref p ∧ H p = some (.ins C dx fs) ∧ fs.lookup ("kept" : Str) = some kv ∧ fs.lookup ("many" : Str) = none ∧ KeptD K ns w kv H
def PlanD (K : PySem.W.Frag) (C : Addr) (w : List Int) (T : Nat) : Dsc := fun x H => ∃ ns, SpellsOk ns ∧ ns.sum = (T : Int) ∧ KeptAt K C ns w x H ∧ ∃ p dx fs tv, x = .ref p ∧ H p = some (.ins C dx fs) ∧ fs.lookup ("table" : Str) = some tv ∧ TableD K w T tv H
instance (K : PySem.W.Frag) (C : Addr) (ns w : List Int) : Up (KeptAt K C ns w) := ⟨fun v G G' e ⟨p, dx, fs, kv, h1, h2, h3, h4, h5⟩ => ⟨p, dx, fs, kv, h1, e p _ h2, h3, h4, Up.up kv G G' e h5⟩⟩
instance (K : PySem.W.Frag) (C : Addr) (w : List Int) (T : Nat) : Up (PlanD K C w T) := ⟨fun v G G' e ⟨ns, h1, h2, h3, p, dx, fs, tv, h4, h5, h6, h7⟩ => ⟨ns, h1, h2, Up.up v G G' e h3, p, dx, fs, tv, h4, e p _ h5, h6, Up.up tv G G' e h7⟩⟩
abbrev Dealt (K : PySem.W.Frag) (w : List Int) (T : Nat) : Dsc := Pr K (Is (.str "row")) (ExI (GoodRow w T))
abbrev RootP (lap : List Int) (r : List Int) : Prop := ∃ k : Nat, 0 < k ∧ k ∣ lap.length ∧ r = lap.take k
/-- (low, low_at, high, high_at), the lows above, the highs below -/
def EndsD (K : PySem.W.Frag) (S l h : Int) : Dsc := fun v G => ∃ p a b x x1 y y1, v = .ref p ∧ SqT K G p [x, x1, y, y1] ∧ Fr K S a x G ∧ Fr K S b y G ∧ l < a ∧ b < h
def WithinD (K : PySem.W.Frag) (S l h : Int) : Dsc := fun v G => ∃ p a b x x1 y y1, v = .ref p ∧ SqT K G p [.str "within", x, x1, y, y1] ∧ Fr K S a x G ∧ Fr K S b y G ∧ l < a ∧ b < h
instance (K : PySem.W.Frag) (S l h : Int) : Up (EndsD K S l h) := ⟨fun v G G' e ⟨p, a, b, x, x1, y, y1, h1, h2, h3, h4, h5, h6⟩ => ⟨p, a, b, x, x1, y, y1, h1, ex_t e h2, Up.up x G G' e h3, Up.up y G G' e h4, h5, h6⟩⟩
instance (K : PySem.W.Frag) (S l h : Int) : Up (WithinD K S l h) := ⟨fun v G G' e ⟨p, a, b, x, x1, y, y1, h1, h2, h3, h4, h5, h6⟩ => ⟨p, a, b, x, x1, y, y1, h1, ex_t e h2, Up.up x G G' e h3, Up.up y G G' e h4, h5, h6⟩⟩
/-- the keeper's fields -/
def kfs (nw ow rl dl : Addr) : List (Str × V) := [("now", .ref nw), ("owed", .ref ow), ("row", .ref rl), ("deeds", .ref dl)]
structure KeeperAt (K : PySem.W.Frag) (C : Addr) (w c row : List Int) (p rl dl : Addr) (H : Hp) : Prop where
  ex : ∃ dx nw ow dv, H p = some (.ins C dx (kfs nw ow rl dl)) ∧ TInts K w (.ref nw) H ∧ Ts K w.length (fun i => Fr K w.sum (c.getD i 0)) (.ref ow) H ∧ H rl = some (.lst (row.map V.int)) ∧ H dl = some (.lst dv) ∧ dv.length = row.length ∧ rl ≠ dl
/-! ### promises -/
section
variable (K : PySem.W.Frag) (C : Addr)
def sp_common : Sp := Sp2 fun x y H Q => ∃ a b : Int, x = .int a ∧ y = .int b ∧ RetV (.int (Int.gcd a b)) H Q
def sp_is_whole : Sp := Sp1 fun x H Q => ∃ a : Int, x = .int a ∧ RetV (.bl true) H Q
def sp_is_fraction : Sp := Sp1 fun x H Q => ∃ a S, 0 < S ∧ Fr K S a x H ∧ RetV (.bl true) H Q
def sp_made : Sp := Sp2 fun x y H Q => ∃ G a b, Ex G H ∧ x = .int a ∧ y = .int b ∧ 0 < b ∧ b < 1073741824 ∧ Ret (Fr K b a) G H Q
def sp_plus : Sp := Sp2 fun x y H Q => ∃ G S a b, Ex G H ∧ Sm S ∧ Fr K S a x G ∧ Fr K S b y G ∧ Ret (Fr K S (a + b)) G H Q
def sp_minus : Sp := Sp2 fun x y H Q => ∃ G S a b, Ex G H ∧ Sm S ∧ Fr K S a x G ∧ Fr K S b y G ∧ Ret (Fr K S (a - b)) G H Q
def sp_less : Sp := Sp2 fun x y H Q => ∃ S a b, Sm S ∧ Fr K S a x H ∧ Fr K S b y H ∧ RetV (.bl (decide (a < b))) H Q
def sp_unsigned : Sp := Sp1 fun x H Q => ∃ G S a, Ex G H ∧ Sm S ∧ Fr K S a x G ∧ Ret (Fr K S (if a < 0 then -a else a)) G H Q
def sp_floor_of : Sp := Sp1 fun x H Q => ∃ S a, Sm S ∧ Fr K S a x H ∧ RetV (.int (a / S)) H Q
def sp_ceiling_of : Sp := Sp1 fun x H Q => ∃ S a, Sm S ∧ Fr K S a x H ∧ RetV (.int (-((-a) / S))) H Q
def sp_are_weights : Sp := Sp1 fun x H Q => ∃ w, Wts w ∧ Ints w x H ∧ RetV (.bl true) H Q
def sp_is_spell : Sp := Sp1 fun x H Q => ∃ (n : Int) (w : List Int), 1 ≤ n ∧ n ≤ 60 ∧ Wts w ∧ Pr K (Is (.int n)) (Ints w) x H ∧ RetV (.bl true) H Q
def sp_check_spells : Sp := Sp1 fun x H Q => ∃ ns w, Wts w ∧ SpellsOk ns ∧ SpellsD K ns w x H ∧ RetV .non H Q
def sp_Plan_init : Sp := Sp2 fun x y H Q => ∃ G p dx ns w T, Ex G H ∧ x = .ref p ∧ H p = some (.ins C dx []) ∧ G p = none ∧ Wts w ∧ SpellsOk ns ∧ ns.sum = ((T : Nat) : Int) ∧ SpellsD K ns w y G ∧
  ∀ G2 H2, Ex G G2 → Ex G2 H2 → (∀ b o, H b = some o → b ≠ p → H2 b = some o) → (∀ a, H a ≠ none → G a = none → a ≠ p → G2 a = none) → PlanD K C w T (.ref p) G2 → Q .non H2
def sp_Plan_many : Sp := Sp1 fun x H Q => ∃ ns w, ns ≠ [] ∧ KeptAt K C ns w x H ∧ RetV (.int w.length) H Q
def sp_Plan_dues_by_turns : Sp := Sp1 fun x H Q => ∃ G ns w T, Ex G H ∧ Wts w ∧ SpellsOk ns ∧ ns.sum = ((T : Nat) : Int) ∧ KeptAt K C ns w x G ∧ Ret (TableD K w T) G H Q
def sp_Credits_init : Sp := Sp2 fun x y H Q => ∃ p dx w, x = .ref p ∧ H p = some (.ins C dx []) ∧ Wts w ∧ Ints w y H ∧
  ∀ H2 rl dl, H rl = none → H dl = none → rl ≠ dl → (∀ b o, H b = some o → b ≠ p → H2 b = some o) → KeeperAt K C w (List.replicate w.length 0) [] p rl dl H2 → Q .non H2
def sp_Credits_step : Sp := Sp1 fun x H Q => ∃ p rl dl w c row, x = .ref p ∧ Wts w ∧ c.length = w.length ∧ row.length < 100000 ∧ KeeperAt K C w c row p rl dl H ∧
  ∀ H2, (∀ b o, H b = some o → b ≠ p → b ≠ rl → b ≠ dl → H2 b = some o) → KeeperAt K C w (kstep w c) (row ++ [((pick w c : Nat) : Int)]) p rl dl H2 → Q (.int (pick w c : Nat)) H2
def sp_check_bound : Sp := Sp1 fun x H Q => ∃ S m, Sm S ∧ 0 ≤ m ∧ m ≤ 300 * S ∧ Bd K S m x H ∧ RetV .non H Q
def sp_lag_keeps : Sp := Sp2 fun x y H Q => ∃ S m a, Sm S ∧ Bd K S m x H ∧ Fr K S a y H ∧ RetV (.bl (decide ((if a < 0 then -a else a) < m))) H Q
def sp_low_of : Sp := Sp2 fun x y H Q => ∃ S m a, Sm S ∧ Bd K S m x H ∧ Fr K S a y H ∧ RetV (.int (if (a - m) / S + 1 > 0 then (a - m) / S + 1 else 0)) H Q
def sp_high_of : Sp := Sp2 fun x y H Q => ∃ S m a, Sm S ∧ Bd K S m x H ∧ Fr K S a y H ∧ RetV (.int (if -((-(a + m)) / S) - 1 > 0 then -((-(a + m)) / S) - 1 else 0)) H Q
def sp_ranges_by_turns : Sp := Sp2 fun x y H Q => ∃ G w T, Ex G H ∧ Wts w ∧ T ≤ 240 ∧ PlanD K C w T x G ∧ Bd K w.sum w.sum y G ∧ Ret (RangesD K w T) G H Q
def sp_must_by : Sp := Sp4 fun x y z u H Q => ∃ (w : List Int) (T p i : Nat) (c : Int), T ≤ 240 ∧ p ≤ T ∧ i < w.length ∧ RangesD K w T x H ∧ y = .int p ∧ z = .int i ∧ u = .int c ∧ RetV (.int (mb w T p i c : Nat)) H Q
def sp_soonest : Sp := Sp3 fun x y z H Q => ∃ (w cs : List Int) (T p : Nat), Wts w ∧ T ≤ 240 ∧ p ≤ T ∧ cs.length = w.length ∧ RangesD K w T x H ∧ y = .int p ∧ Ints cs z H ∧ (∃ i, i < w.length ∧ cs.getD i 0 + 1 ≤ hi w p i) ∧
  ∀ i : Nat, i < w.length → cs.getD i 0 + 1 ≤ hi w p i → (∀ j, j < w.length → cs.getD j 0 + 1 ≤ hi w p j → mb w T p i (cs.getD i 0) ≤ mb w T p j (cs.getD j 0)) → RetV (.int i) H Q
def sp_too_far : Sp := Sp3 fun x y z H Q => ∃ (w cs : List Int) (T p : Nat), Wts w ∧ T ≤ 240 ∧ p ≤ T ∧ cs.length = w.length ∧ RangesD K w T x H ∧ y = .int p ∧ Ints cs z H ∧ (∀ i, i < w.length → cs.getD i 0 ≤ hi w p i) ∧ RetV (.bl false) H Q
def sp_too_few : Sp := Sp3 fun x y z H Q => ∃ (w cs : List Int) (T p : Nat), Wts w ∧ T ≤ 240 ∧ p ≤ T ∧ cs.length = w.length ∧ RangesD K w T x H ∧ y = .int p ∧ Ints cs z H ∧ (∀ i, i < w.length → lo w p i ≤ cs.getD i 0) ∧ RetV (.bl false) H Q
def sp_dealt : Sp := Sp3 fun x y z H Q => ∃ G w T, Ex G H ∧ Wts w ∧ T ≤ 240 ∧ RangesD K w T x G ∧ y = .int 0 ∧ Ints (List.replicate w.length 0) z G ∧ Ret (Dealt K w T) G H Q
def sp_kept_by : Sp := Sp2 fun x y H Q => ∃ G w T, Ex G H ∧ Wts w ∧ T ≤ 240 ∧ PlanD K C w T x G ∧ Bd K w.sum w.sum y G ∧ Ret (Dealt K w T) G H Q
def sp_is_within : Sp := Sp3 fun x y z H Q => ∃ a l h : Int, x = .int a ∧ y = .int l ∧ z = .int h ∧ l ≤ a ∧ a ≤ h ∧ RetV (.bl true) H Q
def sp_are_claimants : Sp := Sp2 fun x y H Q => ∃ (row : List Int) (m : Int), row.length ≤ 10000 ∧ Ints row x H ∧ y = .int m ∧ (∀ a ∈ row, 0 ≤ a ∧ a ≤ m - 1) ∧ RetV (.bl true) H Q
def LapOk (lap : List Int) : Prop := 0 < lap.length ∧ lap.length ≤ 10000 ∧ ∀ a ∈ lap, 0 ≤ a ∧ a ≤ 5
def sp_is_running : Sp := Sp1 fun x H Q => ∃ lap, LapOk lap ∧ RunD K lap x H ∧ RetV (.bl true) H Q
def sp_check_running : Sp := Sp1 fun x H Q => ∃ lap, LapOk lap ∧ RunD K lap x H ∧ RetV .non H Q
def sp_check_claimant : Sp := Sp2 fun x y H Q => ∃ a m : Int, x = .int a ∧ y = .int m ∧ 0 ≤ a ∧ a ≤ m - 1 ∧ RetV .non H Q
def sp_check_number : Sp := Sp2 fun x y H Q => ∃ a m : Int, x = .int a ∧ y = .int m ∧ m ≤ a ∧ a ≤ FARI ∧ RetV .non H Q
def sp_count_in : Sp := Sp3 fun x y z H Q => ∃ (lap : List Int) (i t : Int), LapOk lap ∧ RunD K lap x H ∧ y = .int i ∧ z = .int t ∧ 0 ≤ t ∧ RetV (.int (cntE lap i t)) H Q
def sp_count_at : Sp := Sp3 fun x y z H Q => ∃ (lap : List Int) (i t : Int), LapOk lap ∧ RunD K lap x H ∧ y = .int i ∧ z = .int t ∧ 0 ≤ i ∧ i ≤ 5 ∧ 0 ≤ t ∧ t ≤ FARI ∧ RetV (.int (cntE lap i t)) H Q
def sp_root_of : Sp := Sp1 fun x H Q => ∃ G lap, Ex G H ∧ LapOk lap ∧ Ints lap x G ∧ Ret (ExI (RootP lap)) G H Q
def sp_least_of : Sp := Sp1 fun x H Q => ∃ G lap, Ex G H ∧ LapOk lap ∧ RunD K lap x G ∧ Ret (Pr K (Ints []) (ExI (RootP lap))) G H Q
def sp_check_weights : Sp := Sp1 fun x H Q => ∃ w, Wts w ∧ Ints w x H ∧ RetV .non H Q
def sp_check_among : Sp := Sp2 fun x y H Q => ∃ w lap, Wts w ∧ LapOk lap ∧ (∀ a ∈ lap, a < w.length) ∧ Ints w x H ∧ RunD K lap y H ∧ RetV .non H Q
def sp_lag_of : Sp := Sp4 fun x y z u H Q => ∃ G w lap i t, Ex G H ∧ Wts w ∧ LapOk lap ∧ Ints w x G ∧ RunD K lap y G ∧ z = .int (i : Nat) ∧ u = .int (t : Nat) ∧ i < w.length ∧ t < lap.length ∧ Ret (Fr K w.sum (lagN w lap i t)) G H Q
def sp_drift_of : Sp := Sp3 fun x y z H Q => ∃ G w lap i, Ex G H ∧ Wts w ∧ LapOk lap ∧ Ints w x G ∧ RunD K lap y G ∧ z = .int (i : Nat) ∧ i < w.length ∧ Ret (Fr K w.sum (lagN w lap i lap.length)) G H Q
def sp_ends_of : Sp := Sp3 fun x y z H Q => ∃ G w lap i l h, Ex G H ∧ Wts w ∧ LapOk lap ∧ Ints w x G ∧ RunD K lap y G ∧ z = .int (i : Nat) ∧ i < w.length ∧ l < 0 ∧ 0 < h ∧ (∀ t, t < lap.length → l < lagN w lap i t ∧ lagN w lap i t < h) ∧ Ret (EndsD K w.sum l h) G H Q
def sp_lags_of : Sp := Sp2 fun x y H Q => ∃ G w lap l h, Ex G H ∧ Wts w ∧ LapOk lap ∧ (∀ a ∈ lap, a < w.length) ∧ Ints w x G ∧ RunD K lap y G ∧ l < 0 ∧ 0 < h ∧ (∀ i, i < w.length → lagN w lap i lap.length = 0) ∧ (∀ i t, i < w.length → t < lap.length → l < lagN w lap i t ∧ lagN w lap i t < h) ∧
  Ret (Ls w.length fun _ => WithinD K w.sum l h) G H Q
def sp_first_out : Sp := Sp4 fun x y z u H Q => ∃ w lap i m, Wts w ∧ LapOk lap ∧ Ints w x H ∧ RunD K lap y H ∧ z = .int (i : Nat) ∧ i < w.length ∧ Bd K w.sum m u H ∧ lagN w lap i lap.length = 0 ∧ (∀ t, t < lap.length → -m < lagN w lap i t ∧ lagN w lap i t < m) ∧ RetV .non H Q
def sp_broken_at : Sp := Sp3 fun x y z H Q => ∃ w lap m, Wts w ∧ LapOk lap ∧ (∀ a ∈ lap, a < w.length) ∧ Ints w x H ∧ RunD K lap y H ∧ 0 ≤ m ∧ m ≤ 300 * w.sum ∧ Bd K w.sum m z H ∧ (∀ i, i < w.length → lagN w lap i lap.length = 0) ∧ (∀ i t, i < w.length → t < lap.length → -m < lagN w lap i t ∧ lagN w lap i t < m) ∧ RetV .non H Q
def sp_round_of : Sp := Sp1 fun x H Q => ∃ w, Wts w ∧ Ints w x H ∧ RetV (.int (w.sum / gcdL w)) H Q
def sp_dealt_for_ever : Sp := Sp2 fun x y H Q => ∃ G w T, Ex G H ∧ Wts w ∧ w.sum / gcdL w = ((T : Nat) : Int) ∧ Ints w x G ∧ Bd K w.sum w.sum y G ∧ Ret (Pr K (Is (.str "running")) (Pr K (Ints []) (ExI (GoodRow w T)))) G H Q
def sp__law_cell_at : Sp := Sp2 fun x y H Q => ∃ (a : Addr) (ns : List Int) (k : Int), x = .ref a ∧ SqL K H a (ns.map V.int) ∧ ns.length ≤ 63 ∧ y = .int k ∧ 0 ≤ k ∧ ∀ z : Int, RetV (.int z) H Q
def sp__law_draw : Sp := Sp3 fun x y z H Q => ∃ a k b : Int, x = .int a ∧ y = .int k ∧ z = .int b ∧ 0 ≤ k ∧ k ≤ 1000 ∧ 0 < b ∧ b ≤ 1000000000 ∧ ∀ r : Int, 0 ≤ r → r < b → RetV (.int r) H Q
def sp__law_by : Sp := Sp1 fun x H Q => ∃ w, Wts w ∧ Ints w x H ∧ RetV (.int (gcdL w)) H Q
def sp__law_near : Sp := Sp3 fun x y z H Q => ∃ (w lap : List Int) (T : Nat) (c : Int), Wts w ∧ w.sum / gcdL w = (T : Int) ∧ GoodRow w T lap ∧ Ints w x H ∧ RunD K lap y H ∧ z = .int c ∧ RetV (.bl true) H Q
def sp__law_keeper_right : Sp := Sp2 fun x y H Q => ∃ (w : List Int) (T : Nat), Wts w ∧ w.sum / gcdL w = (T : Int) ∧ Ints w x H ∧ y = .int T ∧ RetV (.bl true) H Q
def sp_law : Sp := Sp1 fun x H Q => ∃ (a : Addr) (ns : List Int), x = .ref a ∧ SqL K H a (ns.map V.int) ∧ ns.length ≤ 63 ∧ ∀ H', Q (.bl true) H'
end
end Dt
set_option Elab.async false
set_option linter.all false
set_option maxRecDepth 100000
set_option maxHeartbeats 4000000
/-! Printed by gen.py: each def's place, names, reading and derivation. -/
namespace Dt
open PySem PySem.Spec PyProof.Rows L2 Evl DtM
section
variable {P : Program} {w : World} {K : PySem.W.Frag} {mg : Str → Option Value} {base : Heap} {aNOUGHT aONE cPlan cCredits : Addr}
/-! ### common -/
abbrev st_common : Stmt := (top 15)
abbrev N_common : List Str := ["one", "other"]
theorem sc_common : FnScope N_common ["one", "other"] (defScope st_common) := ⟨rfl, rfl, rfl, by decide +kernel, rfl, by decide +kernel, by decide +kernel⟩
def t_common : TS :=
  (tSeq (tAsg (tCB rAbs (tCons (tVar 0) tNil)) (gName 0))
    (tSeq (tAsg (tCB rAbs (tCons (tVar 1) tNil)) (gName 1))
    (tSeq (tWhile (tTest (tOp rGtI (tVar 1) (tC (.int 0))))
      (tPar 0 1 (tCons (tVar 1) (tCons (tOp rModI (tVar 0) (tVar 1)) tNil))))
    (tRet (tVar 0)))))
theorem dv_common (T : Txt K mg aNOUGHT aONE)  {f : Addr} {cdv : Value} {A : Around} {outer : List Env} {s : Shared} {H : Hp} {E : XK} (hr : Room 0 (A.deeper (envOfC "common" (defScope st_common) s.heap.objs.size f cdv))) :
    PSs (cxOf CX0 P w K mg base N_common "common" (defScope st_common) f cdv A outer s H E).nox (defBody st_common) (t_common) :=
  (pss_cons (ps_set (i := 0) sc_common.nd rfl (by first | exact Or.inl rfl | exact Or.inr rfl) (pe_callB call_abs (by rfl) T.b_abs (by decide +kernel) (pa_cons (pv 0) pa_nil)))
    (pss_cons (ps_set (i := 1) sc_common.nd rfl (by first | exact Or.inl rfl | exact Or.inr rfl) (pe_callB call_abs (by rfl) T.b_abs (by decide +kernel) (pa_cons (pv 1) pa_nil)))
    (pss_cons (ps_while PassesOwn.never (pt_cmpR op_gt (pv 1) pe_int (nomark _))
      (pss_one (ps_par (by rfl) sc_common.nd rfl rfl (by decide) rfl rfl (pa_cons (pv 1) (pa_cons (pe_op op_mod (pv 0) (pv 1)) pa_nil)) (by rfl))))
    (pss_one (ps_ret (pv 0))))))
/-! ### is_whole -/
abbrev st_is_whole : Stmt := (top 14)
abbrev N_is_whole : List Str := ["thing"]
theorem sc_is_whole : FnScope N_is_whole ["thing"] (defScope st_is_whole) := ⟨rfl, rfl, rfl, by decide +kernel, rfl, by decide +kernel, by decide +kernel⟩
def t_is_whole (K : PySem.W.Frag) : TS :=
  (tRet (tAndV (tCB (rIsi K) (tCons (tVar 0) (tCons (tC (.ty "int")) tNil))) (tNotV (tCB (rIsi K) (tCons (tVar 0) (tCons (tC (.ty "bool")) tNil))))))
theorem dv_is_whole (T : Txt K mg aNOUGHT aONE)  {f : Addr} {cdv : Value} {A : Around} {outer : List Env} {s : Shared} {H : Hp} {E : XK} (hr : Room 0 (A.deeper (envOfC "is_whole" (defScope st_is_whole) s.heap.objs.size f cdv))) :
    PSs (cxOf CX0 P w K mg base N_is_whole "is_whole" (defScope st_is_whole) f cdv A outer s H E).nox (defBody st_is_whole) (t_is_whole K) :=
  (pss_one (ps_ret (pe_and (pe_callB call_isi (by rfl) T.b_isinstance (by decide +kernel) (pa_cons (pv 0) (pa_cons (pe_bltn (by rfl) T.b_int (by decide +kernel) rfl) pa_nil))) (pe_one (pe_not (pe_callB call_isi (by rfl) T.b_isinstance (by decide +kernel) (pa_cons (pv 0) (pa_cons (pe_bltn (by rfl) T.b_bool (by decide +kernel) rfl) pa_nil))))))))
/-! ### is_fraction -/
abbrev st_is_fraction : Stmt := (top 16)
abbrev N_is_fraction : List Str := ["thing"]
theorem sc_is_fraction : FnScope N_is_fraction ["thing"] (defScope st_is_fraction) := ⟨rfl, rfl, rfl, by decide +kernel, rfl, by decide +kernel, by decide +kernel⟩
def t_is_fraction (K : PySem.W.Frag) : TS :=
  (tSeq (tIfS (tOr (tNot (tB (tCB (rIsi K) (tCons (tVar 0) (tCons (tC (.ty "tuple")) tNil))))) (tTest (tOp rNe (tCB (rLenS K) (tCons (tVar 0) tNil)) (tC (.int 2))))) (tRet (tC (.bl false)))
      tNext)
    (tSeq (tIfS (tOr (tNot (tB (tCall (sp_is_whole) [] E0 (tCons (tOp (rIxT K) (tVar 0) (tC (.int 0))) tNil)))) (tNot (tB (tCall (sp_is_whole) [] E0 (tCons (tOp (rIxT K) (tVar 0) (tC (.int 1))) tNil))))) (tRet (tC (.bl false)))
      tNext)
    (tRet (tAndV (tOp rGtI (tOp (rIxT K) (tVar 0) (tC (.int 1))) (tC (.int 0))) (tOp rEq (tCall (sp_common) [] E0 (tCons (tOp (rIxT K) (tVar 0) (tC (.int 0))) (tCons (tOp (rIxT K) (tVar 0) (tC (.int 1))) tNil))) (tC (.int 1)))))))
theorem dv_is_fraction (T : Txt K mg aNOUGHT aONE) (c_common : Cal P w K mg base 1 "common" ["one", "other"] (sp_common)) (c_is_whole : Cal P w K mg base 1 "is_whole" ["thing"] (sp_is_whole)) {f : Addr} {cdv : Value} {A : Around} {outer : List Env} {s : Shared} {H : Hp} {E : XK} (hr : Room 1 (A.deeper (envOfC "is_fraction" (defScope st_is_fraction) s.heap.objs.size f cdv))) :
    PSs (cxOf CX0 P w K mg base N_is_fraction "is_fraction" (defScope st_is_fraction) f cdv A outer s H E).nox (defBody st_is_fraction) (t_is_fraction K) :=
  (pss_cons (ps_if (PW.pt (pw_or (pt_not (pt_val (pe_callB call_isi (by rfl) T.b_isinstance (by decide +kernel) (pa_cons (pv 0) (pa_cons (pe_bltn (by rfl) T.b_tuple (by decide +kernel) rfl) pa_nil))))) (pw_or1 (pt_cmpR op_ne (pe_callB call_len_seq (by rfl) T.b_len boot_len (pa_cons (pv 0) pa_nil)) pe_int (nomark _))))) (pss_one (ps_ret pe_bl))
      pss_nil)
    (pss_cons (ps_if (PW.pt (pw_or (pt_not (pt_val (pe_cal c_is_whole (hr.mono (by decide)) rfl (pa_cons (pe_ix ix_tup (pv 0) pe_int (fun _ _ => rfl)) pa_nil)))) (pw_or1 (pt_not (pt_val (pe_cal c_is_whole (hr.mono (by decide)) rfl (pa_cons (pe_ix ix_tup (pv 0) pe_int (fun _ _ => rfl)) pa_nil))))))) (pss_one (ps_ret pe_bl))
      pss_nil)
    (pss_one (ps_ret (pe_and (pe_cmpR op_gt (pe_ix ix_tup (pv 0) pe_int (fun _ _ => rfl)) pe_int (nomark _)) (pe_one (pe_cmpR op_eq (pe_cal c_common (hr.mono (by decide)) rfl (pa_cons (pe_ix ix_tup (pv 0) pe_int (fun _ _ => rfl)) (pa_cons (pe_ix ix_tup (pv 0) pe_int (fun _ _ => rfl)) pa_nil))) pe_int (nomark _))))))))
/-! ### made -/
abbrev st_made : Stmt := (top 17)
abbrev N_made : List Str := ["top", "bottom", "share"]
theorem sc_made : FnScope N_made ["top", "bottom"] (defScope st_made) := ⟨rfl, rfl, rfl, by decide +kernel, rfl, by decide +kernel, by decide +kernel⟩
def t_made : TS :=
  (tSeq (tIfS (tTest (tOp rEq (tVar 1) (tC (.int 0)))) tNever
      tNext)
    (tSeq (tAsg (tCall (sp_common) [] E0 (tCons (tVar 0) (tCons (tVar 1) tNil))) (gName 2))
    (tSeq (tIfS (tTest (tOp rLtI (tVar 1) (tC (.int 0)))) (tAsg (tUn rNegI (tVar 2)) (gName 2))
      tNext)
    (tRet (tTup (tCons (tOp rDivI (tVar 0) (tVar 2)) (tCons (tOp rDivI (tVar 1) (tVar 2)) tNil)))))))
theorem dv_made (T : Txt K mg aNOUGHT aONE) (c_common : Cal P w K mg base 1 "common" ["one", "other"] (sp_common)) {f : Addr} {cdv : Value} {A : Around} {outer : List Env} {s : Shared} {H : Hp} {E : XK} (hr : Room 1 (A.deeper (envOfC "made" (defScope st_made) s.heap.objs.size f cdv))) :
    PSs (cxOf CX0 P w K mg base N_made "made" (defScope st_made) f cdv A outer s H E).nox (defBody st_made) (t_made) :=
  (pss_cons (ps_if (pt_cmpR op_eq (pv 1) pe_int (nomark _)) pss_never
      pss_nil)
    (pss_cons (ps_set (i := 2) sc_made.nd rfl (by first | exact Or.inl rfl | exact Or.inr rfl) (pe_cal c_common (hr.mono (by decide)) rfl (pa_cons (pv 0) (pa_cons (pv 1) pa_nil))))
    (pss_cons (ps_if (pt_cmpR op_lt (pv 1) pe_int (nomark _)) (pss_one (ps_set (i := 2) sc_made.nd rfl (by first | exact Or.inl rfl | exact Or.inr rfl) (pe_un un_neg (pv 2))))
      pss_nil)
    (pss_one (ps_ret (pe_tup (pa_cons (pe_op op_fdiv (pv 0) (pv 2)) (pa_cons (pe_op op_fdiv (pv 1) (pv 2)) pa_nil))))))))
/-! ### plus -/
abbrev st_plus : Stmt := (top 18)
abbrev N_plus : List Str := ["one", "other"]
theorem sc_plus : FnScope N_plus ["one", "other"] (defScope st_plus) := ⟨rfl, rfl, rfl, by decide +kernel, rfl, by decide +kernel, by decide +kernel⟩
def t_plus (K : PySem.W.Frag) : TS :=
  (tRet (tCall (sp_made K) [] E0 (tCons (tOp rAddI (tOp rMulI (tOp (rIxT K) (tVar 0) (tC (.int 0))) (tOp (rIxT K) (tVar 1) (tC (.int 1)))) (tOp rMulI (tOp (rIxT K) (tVar 1) (tC (.int 0))) (tOp (rIxT K) (tVar 0) (tC (.int 1))))) (tCons (tOp rMulI (tOp (rIxT K) (tVar 0) (tC (.int 1))) (tOp (rIxT K) (tVar 1) (tC (.int 1)))) tNil))))
theorem dv_plus (T : Txt K mg aNOUGHT aONE) (c_made : Cal P w K mg base 2 "made" ["top", "bottom"] (sp_made K)) {f : Addr} {cdv : Value} {A : Around} {outer : List Env} {s : Shared} {H : Hp} {E : XK} (hr : Room 2 (A.deeper (envOfC "plus" (defScope st_plus) s.heap.objs.size f cdv))) :
    PSs (cxOf CX0 P w K mg base N_plus "plus" (defScope st_plus) f cdv A outer s H E).nox (defBody st_plus) (t_plus K) :=
  (pss_one (ps_ret (pe_cal c_made (hr.mono (by decide)) rfl (pa_cons (pe_op op_add (pe_op op_mul (pe_ix ix_tup (pv 0) pe_int (fun _ _ => rfl)) (pe_ix ix_tup (pv 1) pe_int (fun _ _ => rfl))) (pe_op op_mul (pe_ix ix_tup (pv 1) pe_int (fun _ _ => rfl)) (pe_ix ix_tup (pv 0) pe_int (fun _ _ => rfl)))) (pa_cons (pe_op op_mul (pe_ix ix_tup (pv 0) pe_int (fun _ _ => rfl)) (pe_ix ix_tup (pv 1) pe_int (fun _ _ => rfl))) pa_nil)))))
/-! ### minus -/
abbrev st_minus : Stmt := (top 19)
abbrev N_minus : List Str := ["one", "other"]
theorem sc_minus : FnScope N_minus ["one", "other"] (defScope st_minus) := ⟨rfl, rfl, rfl, by decide +kernel, rfl, by decide +kernel, by decide +kernel⟩
def t_minus (K : PySem.W.Frag) : TS :=
  (tRet (tCall (sp_made K) [] E0 (tCons (tOp rSubI (tOp rMulI (tOp (rIxT K) (tVar 0) (tC (.int 0))) (tOp (rIxT K) (tVar 1) (tC (.int 1)))) (tOp rMulI (tOp (rIxT K) (tVar 1) (tC (.int 0))) (tOp (rIxT K) (tVar 0) (tC (.int 1))))) (tCons (tOp rMulI (tOp (rIxT K) (tVar 0) (tC (.int 1))) (tOp (rIxT K) (tVar 1) (tC (.int 1)))) tNil))))
theorem dv_minus (T : Txt K mg aNOUGHT aONE) (c_made : Cal P w K mg base 2 "made" ["top", "bottom"] (sp_made K)) {f : Addr} {cdv : Value} {A : Around} {outer : List Env} {s : Shared} {H : Hp} {E : XK} (hr : Room 2 (A.deeper (envOfC "minus" (defScope st_minus) s.heap.objs.size f cdv))) :
    PSs (cxOf CX0 P w K mg base N_minus "minus" (defScope st_minus) f cdv A outer s H E).nox (defBody st_minus) (t_minus K) :=
  (pss_one (ps_ret (pe_cal c_made (hr.mono (by decide)) rfl (pa_cons (pe_op op_sub (pe_op op_mul (pe_ix ix_tup (pv 0) pe_int (fun _ _ => rfl)) (pe_ix ix_tup (pv 1) pe_int (fun _ _ => rfl))) (pe_op op_mul (pe_ix ix_tup (pv 1) pe_int (fun _ _ => rfl)) (pe_ix ix_tup (pv 0) pe_int (fun _ _ => rfl)))) (pa_cons (pe_op op_mul (pe_ix ix_tup (pv 0) pe_int (fun _ _ => rfl)) (pe_ix ix_tup (pv 1) pe_int (fun _ _ => rfl))) pa_nil)))))
/-! ### less -/
abbrev st_less : Stmt := (top 22)
abbrev N_less : List Str := ["one", "other"]
theorem sc_less : FnScope N_less ["one", "other"] (defScope st_less) := ⟨rfl, rfl, rfl, by decide +kernel, rfl, by decide +kernel, by decide +kernel⟩
def t_less (K : PySem.W.Frag) : TS :=
  (tRet (tOp rLtI (tOp rMulI (tOp (rIxT K) (tVar 0) (tC (.int 0))) (tOp (rIxT K) (tVar 1) (tC (.int 1)))) (tOp rMulI (tOp (rIxT K) (tVar 1) (tC (.int 0))) (tOp (rIxT K) (tVar 0) (tC (.int 1))))))
theorem dv_less (T : Txt K mg aNOUGHT aONE)  {f : Addr} {cdv : Value} {A : Around} {outer : List Env} {s : Shared} {H : Hp} {E : XK} (hr : Room 0 (A.deeper (envOfC "less" (defScope st_less) s.heap.objs.size f cdv))) :
    PSs (cxOf CX0 P w K mg base N_less "less" (defScope st_less) f cdv A outer s H E).nox (defBody st_less) (t_less K) :=
  (pss_one (ps_ret (pe_cmpR op_lt (pe_op op_mul (pe_ix ix_tup (pv 0) pe_int (fun _ _ => rfl)) (pe_ix ix_tup (pv 1) pe_int (fun _ _ => rfl))) (pe_op op_mul (pe_ix ix_tup (pv 1) pe_int (fun _ _ => rfl)) (pe_ix ix_tup (pv 0) pe_int (fun _ _ => rfl))) (nomark _))))
/-! ### unsigned -/
abbrev st_unsigned : Stmt := (top 23)
abbrev N_unsigned : List Str := ["one"]
theorem sc_unsigned : FnScope N_unsigned ["one"] (defScope st_unsigned) := ⟨rfl, rfl, rfl, by decide +kernel, rfl, by decide +kernel, by decide +kernel⟩
def t_unsigned (K : PySem.W.Frag) : TS :=
  (tRet (tTup (tCons (tCB rAbs (tCons (tOp (rIxT K) (tVar 0) (tC (.int 0))) tNil)) (tCons (tOp (rIxT K) (tVar 0) (tC (.int 1))) tNil))))
theorem dv_unsigned (T : Txt K mg aNOUGHT aONE)  {f : Addr} {cdv : Value} {A : Around} {outer : List Env} {s : Shared} {H : Hp} {E : XK} (hr : Room 0 (A.deeper (envOfC "unsigned" (defScope st_unsigned) s.heap.objs.size f cdv))) :
    PSs (cxOf CX0 P w K mg base N_unsigned "unsigned" (defScope st_unsigned) f cdv A outer s H E).nox (defBody st_unsigned) (t_unsigned K) :=
  (pss_one (ps_ret (pe_tup (pa_cons (pe_callB call_abs (by rfl) T.b_abs (by decide +kernel) (pa_cons (pe_ix ix_tup (pv 0) pe_int (fun _ _ => rfl)) pa_nil)) (pa_cons (pe_ix ix_tup (pv 0) pe_int (fun _ _ => rfl)) pa_nil)))))
/-! ### floor_of -/
abbrev st_floor_of : Stmt := (top 24)
abbrev N_floor_of : List Str := ["one"]
theorem sc_floor_of : FnScope N_floor_of ["one"] (defScope st_floor_of) := ⟨rfl, rfl, rfl, by decide +kernel, rfl, by decide +kernel, by decide +kernel⟩
def t_floor_of (K : PySem.W.Frag) : TS :=
  (tRet (tOp rDivI (tOp (rIxT K) (tVar 0) (tC (.int 0))) (tOp (rIxT K) (tVar 0) (tC (.int 1)))))
theorem dv_floor_of (T : Txt K mg aNOUGHT aONE)  {f : Addr} {cdv : Value} {A : Around} {outer : List Env} {s : Shared} {H : Hp} {E : XK} (hr : Room 0 (A.deeper (envOfC "floor_of" (defScope st_floor_of) s.heap.objs.size f cdv))) :
    PSs (cxOf CX0 P w K mg base N_floor_of "floor_of" (defScope st_floor_of) f cdv A outer s H E).nox (defBody st_floor_of) (t_floor_of K) :=
  (pss_one (ps_ret (pe_op op_fdiv (pe_ix ix_tup (pv 0) pe_int (fun _ _ => rfl)) (pe_ix ix_tup (pv 0) pe_int (fun _ _ => rfl)))))
/-! ### ceiling_of -/
abbrev st_ceiling_of : Stmt := (top 25)
abbrev N_ceiling_of : List Str := ["one"]
theorem sc_ceiling_of : FnScope N_ceiling_of ["one"] (defScope st_ceiling_of) := ⟨rfl, rfl, rfl, by decide +kernel, rfl, by decide +kernel, by decide +kernel⟩
def t_ceiling_of (K : PySem.W.Frag) : TS :=
  (tRet (tUn rNegI (tOp rDivI (tUn rNegI (tOp (rIxT K) (tVar 0) (tC (.int 0)))) (tOp (rIxT K) (tVar 0) (tC (.int 1))))))
theorem dv_ceiling_of (T : Txt K mg aNOUGHT aONE)  {f : Addr} {cdv : Value} {A : Around} {outer : List Env} {s : Shared} {H : Hp} {E : XK} (hr : Room 0 (A.deeper (envOfC "ceiling_of" (defScope st_ceiling_of) s.heap.objs.size f cdv))) :
    PSs (cxOf CX0 P w K mg base N_ceiling_of "ceiling_of" (defScope st_ceiling_of) f cdv A outer s H E).nox (defBody st_ceiling_of) (t_ceiling_of K) :=
  (pss_one (ps_ret (pe_un un_neg (pe_op op_fdiv (pe_un un_neg (pe_ix ix_tup (pv 0) pe_int (fun _ _ => rfl))) (pe_ix ix_tup (pv 0) pe_int (fun _ _ => rfl))))))
end
end Dt
set_option Elab.async false
set_option linter.all false
set_option maxRecDepth 100000
set_option maxHeartbeats 4000000
/-! Printed by gen.py: each def's place, names, reading and derivation. -/
namespace Dt
open PySem PySem.Spec PyProof.Rows L2 Evl DtM
section
variable {P : Program} {w : World} {K : PySem.W.Frag} {mg : Str → Option Value} {base : Heap} {aNOUGHT aONE cPlan cCredits : Addr}
/-! ### are_weights -/
abbrev st_are_weights : Stmt := (top 32)
abbrev N_are_weights : List Str := ["thing", "weight"]
theorem sc_are_weights : FnScope N_are_weights ["thing"] (defScope st_are_weights) := ⟨rfl, rfl, rfl, by decide +kernel, rfl, by decide +kernel, by decide +kernel⟩
def t_are_weights (K : PySem.W.Frag) : TS :=
  (tSeq (tIfS (tOr (tNot (tB (tCB (rIsi K) (tCons (tVar 0) (tCons (tC (.ty "list")) tNil))))) (tNot (tTest (tChain rLeI rLeI (tC (.int 1)) (tCB (rLenS K) (tCons (tVar 0) tNil)) (tC (.int 6)))))) (tRet (tC (.bl false)))
      tNext)
    (tSeq (tFor (iList K (tVar 0)) (gName 1)
      (tIfS (tOr (tNot (tB (tCall (sp_is_whole) [] E0 (tCons (tVar 1) tNil)))) (tNot (tTest (tChain rLeI rLeI (tC (.int 0)) (tVar 1) (tC (.int 1000)))))) (tRet (tC (.bl false)))
      tNext))
    (tRet (tOp rGtI (tCB (rSum K) (tCons (tVar 0) tNil)) (tC (.int 0))))))
theorem dv_are_weights (T : Txt K mg aNOUGHT aONE) (c_is_whole : Cal P w K mg base 1 "is_whole" ["thing"] (sp_is_whole)) {f : Addr} {cdv : Value} {A : Around} {outer : List Env} {s : Shared} {H : Hp} {E : XK} (hr : Room 1 (A.deeper (envOfC "are_weights" (defScope st_are_weights) s.heap.objs.size f cdv))) :
    PSs (cxOf CX0 P w K mg base N_are_weights "are_weights" (defScope st_are_weights) f cdv A outer s H E).nox (defBody st_are_weights) (t_are_weights K) :=
  (pss_cons (ps_if (PW.pt (pw_or (pt_not (pt_val (pe_callB call_isi (by rfl) T.b_isinstance (by decide +kernel) (pa_cons (pv 0) (pa_cons (pe_bltn (by rfl) T.b_list (by decide +kernel) rfl) pa_nil))))) (pw_or1 (pt_not (pt_chain op_le op_le pe_int (pe_callB call_len_seq (by rfl) T.b_len boot_len (pa_cons (pv 0) pa_nil)) (pe_glob rfl T.MOST_CLAIMANTS.choose_spec ⟨_, rfl⟩)))))) (pss_one (ps_ret pe_bl))
      pss_nil)
    (pss_cons (ps_for PassesOwn.never rfl (pi_list (pv 0)) (pg_name (i := 1) sc_are_weights.nd rfl (by first | exact Or.inl rfl | exact Or.inr rfl))
      (pss_one (ps_if (PW.pt (pw_or (pt_not (pt_val (pe_cal c_is_whole (hr.mono (by decide)) rfl (pa_cons (pv 1) pa_nil)))) (pw_or1 (pt_not (pt_chain op_le op_le pe_int (pv 1) (pe_glob rfl T.MOST_WEIGHT.choose_spec ⟨_, rfl⟩)))))) (pss_one (ps_ret pe_bl))
      pss_nil)))
    (pss_one (ps_ret (pe_cmpR op_gt (pe_callB (cr_sum rfl) (by rfl) T.b_sum (by decide +kernel) (pa_cons (pv 0) pa_nil)) pe_int (nomark _))))))
/-! ### is_spell -/
abbrev st_is_spell : Stmt := (top 33)
abbrev N_is_spell : List Str := ["thing"]
theorem sc_is_spell : FnScope N_is_spell ["thing"] (defScope st_is_spell) := ⟨rfl, rfl, rfl, by decide +kernel, rfl, by decide +kernel, by decide +kernel⟩
def t_is_spell (K : PySem.W.Frag) : TS :=
  (tSeq (tIfS (tOr (tNot (tB (tCB (rIsi K) (tCons (tVar 0) (tCons (tC (.ty "tuple")) tNil))))) (tTest (tOp rNe (tCB (rLenS K) (tCons (tVar 0) tNil)) (tC (.int 2))))) (tRet (tC (.bl false)))
      tNext)
    (tSeq (tIfS (tOr (tNot (tB (tCall (sp_is_whole) [] E0 (tCons (tOp (rIxT K) (tVar 0) (tC (.int 0))) tNil)))) (tNot (tTest (tChain rLeI rLeI (tC (.int 1)) (tOp (rIxT K) (tVar 0) (tC (.int 0))) (tC (.int 60)))))) (tRet (tC (.bl false)))
      tNext)
    (tRet (tCall (sp_are_weights) [] E0 (tCons (tOp (rIxT K) (tVar 0) (tC (.int 1))) tNil)))))
theorem dv_is_spell (T : Txt K mg aNOUGHT aONE) (c_are_weights : Cal P w K mg base 2 "are_weights" ["thing"] (sp_are_weights)) (c_is_whole : Cal P w K mg base 1 "is_whole" ["thing"] (sp_is_whole)) {f : Addr} {cdv : Value} {A : Around} {outer : List Env} {s : Shared} {H : Hp} {E : XK} (hr : Room 2 (A.deeper (envOfC "is_spell" (defScope st_is_spell) s.heap.objs.size f cdv))) :
    PSs (cxOf CX0 P w K mg base N_is_spell "is_spell" (defScope st_is_spell) f cdv A outer s H E).nox (defBody st_is_spell) (t_is_spell K) :=
  (pss_cons (ps_if (PW.pt (pw_or (pt_not (pt_val (pe_callB call_isi (by rfl) T.b_isinstance (by decide +kernel) (pa_cons (pv 0) (pa_cons (pe_bltn (by rfl) T.b_tuple (by decide +kernel) rfl) pa_nil))))) (pw_or1 (pt_cmpR op_ne (pe_callB call_len_seq (by rfl) T.b_len boot_len (pa_cons (pv 0) pa_nil)) pe_int (nomark _))))) (pss_one (ps_ret pe_bl))
      pss_nil)
    (pss_cons (ps_if (PW.pt (pw_or (pt_not (pt_val (pe_cal c_is_whole (hr.mono (by decide)) rfl (pa_cons (pe_ix ix_tup (pv 0) pe_int (fun _ _ => rfl)) pa_nil)))) (pw_or1 (pt_not (pt_chain op_le op_le pe_int (pe_ix ix_tup (pv 0) pe_int (fun _ _ => rfl)) (pe_glob rfl T.MOST_IN_SPELL.choose_spec ⟨_, rfl⟩)))))) (pss_one (ps_ret pe_bl))
      pss_nil)
    (pss_one (ps_ret (pe_cal c_are_weights (hr.mono (by decide)) rfl (pa_cons (pe_ix ix_tup (pv 0) pe_int (fun _ _ => rfl)) pa_nil))))))
/-! ### check_spells -/
abbrev st_check_spells : Stmt := (top 34)
abbrev N_check_spells : List Str := ["thing", "turns", "at", "spell"]
theorem sc_check_spells : FnScope N_check_spells ["thing"] (defScope st_check_spells) := ⟨rfl, rfl, rfl, by decide +kernel, rfl, by decide +kernel, by decide +kernel⟩
def t_check_spells (K : PySem.W.Frag) : TS :=
  (tSeq (tIfS (tOr (tNot (tB (tCB (rIsi K) (tCons (tVar 0) (tCons (tC (.ty "list")) tNil))))) (tTest (tOp (rEqD K) (tVar 0) (tLst tNil)))) tNever
      tNext)
    (tSeq (tAsg (tC (.int 0)) (gName 1))
    (tFor (iRng1 (tCons (tCB (rLenS K) (tCons (tVar 0) tNil)) tNil)) (gName 2)
      (tSeq (tAsg (tOp (rIxL K) (tVar 0) (tVar 2)) (gName 3))
    (tSeq (tIfS (tOr (tTest (tOp rGeI (tVar 2) (tC (.int 8)))) (tNot (tB (tCall (sp_is_spell K) [] E0 (tCons (tVar 3) tNil))))) tNever
      tNext)
    (tSeq (tAsg (tOp rAddI (tVar 1) (tOp (rIxT K) (tVar 3) (tC (.int 0)))) (gName 1))
    (tIfS (tOr (tTest (tOp rNe (tCB (rLenS K) (tCons (tOp (rIxT K) (tVar 3) (tC (.int 1))) tNil)) (tCB (rLenS K) (tCons (tOp (rIxT K) (tOp (rIxL K) (tVar 0) (tC (.int 0))) (tC (.int 1))) tNil)))) (tTest (tOp rGtI (tVar 1) (tC (.int 240))))) tNever
      tNext)))))))
theorem dv_check_spells (T : Txt K mg aNOUGHT aONE) (c_is_spell : Cal P w K mg base 3 "is_spell" ["thing"] (sp_is_spell K)) {f : Addr} {cdv : Value} {A : Around} {outer : List Env} {s : Shared} {H : Hp} {E : XK} (hr : Room 3 (A.deeper (envOfC "check_spells" (defScope st_check_spells) s.heap.objs.size f cdv))) :
    PSs (cxOf CX0 P w K mg base N_check_spells "check_spells" (defScope st_check_spells) f cdv A outer s H E).nox (defBody st_check_spells) (t_check_spells K) :=
  (pss_cons (ps_if (PW.pt (pw_or (pt_not (pt_val (pe_callB call_isi (by rfl) T.b_isinstance (by decide +kernel) (pa_cons (pv 0) (pa_cons (pe_bltn (by rfl) T.b_list (by decide +kernel) rfl) pa_nil))))) (pw_or1 (pt_cmpR (op_eqD hr.units) (pv 0) (pe_lst pa_nil) (nomark _))))) pss_never
      pss_nil)
    (pss_cons (ps_set (i := 1) sc_check_spells.nd rfl (by first | exact Or.inl rfl | exact Or.inr rfl) pe_int)
    (pss_one (ps_for PassesOwn.never rfl (pi_range1 (by rfl) T.b_range (pa_cons (pe_callB call_len_seq (by rfl) T.b_len boot_len (pa_cons (pv 0) pa_nil)) pa_nil)) (pg_name (i := 2) sc_check_spells.nd rfl (by first | exact Or.inl rfl | exact Or.inr rfl))
      (pss_cons (ps_set (i := 3) sc_check_spells.nd rfl (by first | exact Or.inl rfl | exact Or.inr rfl) (pe_ix ix_list (pv 0) (pv 2) (fun _ _ => rfl)))
    (pss_cons (ps_if (PW.pt (pw_or (pt_cmpR op_ge (pv 2) (pe_glob rfl T.MOST_SPELLS.choose_spec ⟨_, rfl⟩) (nomark _)) (pw_or1 (pt_not (pt_val (pe_cal c_is_spell (hr.mono (by decide)) rfl (pa_cons (pv 3) pa_nil))))))) pss_never
      pss_nil)
    (pss_cons (ps_set (i := 1) sc_check_spells.nd rfl (by first | exact Or.inl rfl | exact Or.inr rfl) (pe_op op_add (pv 1) (pe_ix ix_tup (pv 3) pe_int (fun _ _ => rfl))))
    (pss_one (ps_if (PW.pt (pw_or (pt_cmpR op_ne (pe_callB call_len_seq (by rfl) T.b_len boot_len (pa_cons (pe_ix ix_tup (pv 3) pe_int (fun _ _ => rfl)) pa_nil)) (pe_callB call_len_seq (by rfl) T.b_len boot_len (pa_cons (pe_ix ix_tup (pe_ix ix_list (pv 0) pe_int (fun _ _ => rfl)) pe_int (fun _ _ => rfl)) pa_nil)) (nomark _)) (pw_or1 (pt_cmpR op_gt (pv 1) (pe_glob rfl T.MOST_TURNS.choose_spec ⟨_, rfl⟩) (nomark _))))) pss_never
      pss_nil)))))))))
/-! ### Plan.__init__ -/
abbrev st_Plan_init : Stmt := (inClass (top 35) 0)
abbrev N_Plan_init : List Str := ["self", "spells", "turns", "weights"]
theorem sc_Plan_init : FnScope N_Plan_init ["self", "spells"] (defScope st_Plan_init) := ⟨rfl, rfl, rfl, by decide +kernel, rfl, by decide +kernel, by decide +kernel⟩
def t_Plan_init (K : PySem.W.Frag) (cPlan : Addr) : TS :=
  (tSeq (tDrop (tCall (sp_check_spells K) [] E0 (tCons (tVar 1) tNil)))
    (tSeq (sFld K (tVar 0) (tLc (iList K (tVar 1)) (gTup K 2 (gCons (gName 2) (gCons (gName 3) gNil))) tYes (tTup (tCons (tVar 2) (tCons (tCB (rTupS K) (tCons (tVar 3) tNil)) tNil))) [2, 3]) "kept")
    (sFld K (tVar 0) (tMeth cPlan "dues_by_turns" (sp_Plan_dues_by_turns K cPlan) [] E0 (tVar 0) tNil) "table")))
theorem dv_Plan_init (T : Txt K mg aNOUGHT aONE) (c_Plan_dues_by_turns : MCal P w K mg base cPlan 4 "dues_by_turns" ["self"] (sp_Plan_dues_by_turns K cPlan)) (c_check_spells : Cal P w K mg base 4 "check_spells" ["thing"] (sp_check_spells K)) {f : Addr} {cdv : Value} {A : Around} {outer : List Env} {s : Shared} {H : Hp} {E : XK} (hr : Room 4 (A.deeper (envOfC "Plan.__init__" (defScope st_Plan_init) s.heap.objs.size f cdv))) :
    PSs (cxOf CX0 P w K mg base N_Plan_init "Plan.__init__" (defScope st_Plan_init) f cdv A outer s H E).nox (defBody st_Plan_init) (t_Plan_init K cPlan) :=
  (pss_cons (ps_expr (pe_cal c_check_spells (hr.mono (by decide)) rfl (pa_cons (pv 1) pa_nil)))
    (pss_cons (ps_fld (pv 0) (pe_lc (own := [("turns", 2), ("weights", 3)]) rfl sc_Plan_init.nd (pi_list (pv 1)) (blkOk_by (own := [("turns", 2), ("weights", 3)]) (N := N_Plan_init) (sc := defScope st_Plan_init) (by decide +kernel)) (fun _ _ _ _ _ => (pg_tup rfl (pgs_cons (pg_name (i := 2) sc_Plan_init.nd rfl (by first | exact Or.inl rfl | exact Or.inr rfl)) (pgs_cons (pg_name (i := 3) sc_Plan_init.nd rfl (by first | exact Or.inl rfl | exact Or.inr rfl)) pgs_nil)))) (fun _ _ _ _ _ => pts_nil) (fun _ _ _ _ _ => (pe_tup (pa_cons (pv 2) (pa_cons (pe_callTy call_tuple_of (by rfl) T.b_tuple (by decide +kernel) (pa_cons (pv 3) pa_nil)) pa_nil))))) rfl)
    (pss_one (ps_fld (pv 0) (pe_mcal0 c_Plan_dues_by_turns (hr.mono (by decide)) (pv 0)) rfl))))
/-! ### Plan.many -/
abbrev st_Plan_many : Stmt := (inClass (top 35) 3)
abbrev N_Plan_many : List Str := ["self"]
theorem sc_Plan_many : FnScope N_Plan_many ["self"] (defScope st_Plan_many) := ⟨rfl, rfl, rfl, by decide +kernel, rfl, by decide +kernel, by decide +kernel⟩
def t_Plan_many (K : PySem.W.Frag) : TS :=
  (tRet (tCB (rLenS K) (tCons (tOp (rIxT K) (tOp (rIxL K) (tFld K (tVar 0) "kept") (tC (.int 0))) (tC (.int 1))) tNil)))
theorem dv_Plan_many (T : Txt K mg aNOUGHT aONE)  {f : Addr} {cdv : Value} {A : Around} {outer : List Env} {s : Shared} {H : Hp} {E : XK} (hr : Room 0 (A.deeper (envOfC "Plan.many" (defScope st_Plan_many) s.heap.objs.size f cdv))) :
    PSs (cxOf CX0 P w K mg base N_Plan_many "Plan.many" (defScope st_Plan_many) f cdv A outer s H E).nox (defBody st_Plan_many) (t_Plan_many K) :=
  (pss_one (ps_ret (pe_callB call_len_seq (by rfl) T.b_len boot_len (pa_cons (pe_ix ix_tup (pe_ix ix_list (pe_fld (pv 0) rfl) pe_int (fun _ _ => rfl)) pe_int (fun _ _ => rfl)) pa_nil))))
/-! ### Plan.dues_by_turns -/
abbrev st_Plan_dues_by_turns : Stmt := (inClass (top 35) 5)
abbrev N_Plan_dues_by_turns : List Str := ["self", "table", "turns", "weights", "whole", "first", "turn", "who"]
theorem sc_Plan_dues_by_turns : FnScope N_Plan_dues_by_turns ["self"] (defScope st_Plan_dues_by_turns) := ⟨rfl, rfl, rfl, by decide +kernel, rfl, by decide +kernel, by decide +kernel⟩
def t_Plan_dues_by_turns (K : PySem.W.Frag) (aNOUGHT : Addr) (cPlan : Addr) : TS :=
  (tSeq (tAsg (tLst (tCons (tOp rRep (tLst (tCons (tC (.ref aNOUGHT)) tNil)) (tMeth cPlan "many" (sp_Plan_many K cPlan) [] E0 (tVar 0) tNil)) tNil)) (gName 1))
    (tSeq (tFor (iList K (tFld K (tVar 0) "kept")) (gTup K 2 (gCons (gName 2) (gCons (gName 3) gNil)))
      (tSeq (tAsg (tCB (rSumT K) (tCons (tVar 3) tNil)) (gName 4))
    (tSeq (tAsg (tOp (rIxL K) (tVar 1) (tUn rNegI (tC (.int 1)))) (gName 5))
    (tFor (iRng2 (tCons (tC (.int 1)) (tCons (tOp rAddI (tVar 2) (tC (.int 1))) tNil))) (gName 6)
      (tDrop (tBM K "list" rAppend (tVar 1) (tCons (tLc (iRng1 (tCons (tCB (rLenS K) (tCons (tVar 3) tNil)) tNil)) (gName 7) tYes (tCall (sp_plus K) [] E0 (tCons (tOp (rIxL K) (tVar 5) (tVar 7)) (tCons (tCall (sp_made K) [] E0 (tCons (tOp rMulI (tVar 6) (tOp (rIxT K) (tVar 3) (tVar 7))) (tCons (tVar 4) tNil))) tNil))) [7]) tNil)))))))
    (tRet (tVar 1))))
theorem dv_Plan_dues_by_turns (T : Txt K mg aNOUGHT aONE) (c_made : Cal P w K mg base 2 "made" ["top", "bottom"] (sp_made K)) (c_plus : Cal P w K mg base 3 "plus" ["one", "other"] (sp_plus K)) (c_Plan_many : MCal P w K mg base cPlan 1 "many" ["self"] (sp_Plan_many K cPlan)) {f : Addr} {cdv : Value} {A : Around} {outer : List Env} {s : Shared} {H : Hp} {E : XK} (hr : Room 3 (A.deeper (envOfC "Plan.dues_by_turns" (defScope st_Plan_dues_by_turns) s.heap.objs.size f cdv))) :
    PSs (cxOf CX0 P w K mg base N_Plan_dues_by_turns "Plan.dues_by_turns" (defScope st_Plan_dues_by_turns) f cdv A outer s H E).nox (defBody st_Plan_dues_by_turns) (t_Plan_dues_by_turns K aNOUGHT cPlan) :=
  (pss_cons (ps_set (i := 1) sc_Plan_dues_by_turns.nd rfl (by first | exact Or.inl rfl | exact Or.inr rfl) (pe_lst (pa_cons (pe_op op_rep (pe_lst (pa_cons (pe_glob rfl T.NOUGHT rfl) pa_nil)) (pe_mcal0 c_Plan_many (hr.mono (by decide)) (pv 0))) pa_nil)))
    (pss_cons (ps_for PassesOwn.never rfl (pi_list (pe_fld (pv 0) rfl)) (pg_tup rfl (pgs_cons (pg_name (i := 2) sc_Plan_dues_by_turns.nd rfl (by first | exact Or.inl rfl | exact Or.inr rfl)) (pgs_cons (pg_name (i := 3) sc_Plan_dues_by_turns.nd rfl (by first | exact Or.inl rfl | exact Or.inr rfl)) pgs_nil)))
      (pss_cons (ps_set (i := 4) sc_Plan_dues_by_turns.nd rfl (by first | exact Or.inl rfl | exact Or.inr rfl) (pe_callB (cr_sumT rfl) (by rfl) T.b_sum (by decide +kernel) (pa_cons (pv 3) pa_nil)))
    (pss_cons (ps_set (i := 5) sc_Plan_dues_by_turns.nd rfl (by first | exact Or.inl rfl | exact Or.inr rfl) (pe_ix ix_list (pv 1) (pe_un un_neg pe_int) (fun _ _ => rfl)))
    (pss_one (ps_for PassesOwn.never rfl (pi_range2 (by rfl) T.b_range (pa_cons pe_int (pa_cons (pe_op op_add (pv 2) pe_int) pa_nil))) (pg_name (i := 6) sc_Plan_dues_by_turns.nd rfl (by first | exact Or.inl rfl | exact Or.inr rfl))
      (pss_one (ps_expr (pe_bm PySem.F.plainAttrs_list PySem.F.slot_list_append PySem.F.type_list_append mt_append (pv 1) (pa_cons (pe_lc (own := [("who", 7)]) rfl sc_Plan_dues_by_turns.nd (pi_range1 (by rfl) T.b_range (pa_cons (pe_callB call_len_seq (by rfl) T.b_len boot_len (pa_cons (pv 3) pa_nil)) pa_nil)) (blkOk_by (own := [("who", 7)]) (N := N_Plan_dues_by_turns) (sc := defScope st_Plan_dues_by_turns) (by decide +kernel)) (fun _ _ _ _ _ => (pg_name (i := 7) sc_Plan_dues_by_turns.nd rfl (by first | exact Or.inl rfl | exact Or.inr rfl))) (fun _ _ _ _ _ => pts_nil) (fun _ _ _ _ _ => (pe_cal c_plus (hr.mono (by decide)) rfl (pa_cons (pe_ix ix_list (pv 5) (pv 7) (fun _ _ => rfl)) (pa_cons (pe_cal c_made (hr.mono (by decide)) rfl (pa_cons (pe_op op_mul (pv 6) (pe_ix ix_tup (pv 3) (pv 7) (fun _ _ => rfl))) (pa_cons (pv 4) pa_nil))) pa_nil))))) pa_nil)))))))))
    (pss_one (ps_ret (pv 1)))))
/-! ### Credits.__init__ -/
abbrev st_Credits_init : Stmt := (inClass (top 37) 0)
abbrev N_Credits_init : List Str := ["self", "weights"]
theorem sc_Credits_init : FnScope N_Credits_init ["self", "weights"] (defScope st_Credits_init) := ⟨rfl, rfl, rfl, by decide +kernel, rfl, by decide +kernel, by decide +kernel⟩
def t_Credits_init (K : PySem.W.Frag) (aNOUGHT : Addr) : TS :=
  (tSeq (tIfS (tNot (tB (tCall (sp_are_weights) [] E0 (tCons (tVar 1) tNil)))) tNever
      tNext)
    (tSeq (sFld K (tVar 0) (tCB (rTupS K) (tCons (tVar 1) tNil)) "now")
    (tSeq (sFld K (tVar 0) (tCB (rTupS K) (tCons (tOp rRep (tLst (tCons (tC (.ref aNOUGHT)) tNil)) (tCB (rLenS K) (tCons (tVar 1) tNil))) tNil)) "owed")
    (tSeq (sFld K (tVar 0) (tLst tNil) "row")
    (sFld K (tVar 0) (tLst tNil) "deeds")))))
theorem dv_Credits_init (T : Txt K mg aNOUGHT aONE) (c_are_weights : Cal P w K mg base 2 "are_weights" ["thing"] (sp_are_weights)) {f : Addr} {cdv : Value} {A : Around} {outer : List Env} {s : Shared} {H : Hp} {E : XK} (hr : Room 2 (A.deeper (envOfC "Credits.__init__" (defScope st_Credits_init) s.heap.objs.size f cdv))) :
    PSs (cxOf CX0 P w K mg base N_Credits_init "Credits.__init__" (defScope st_Credits_init) f cdv A outer s H E).nox (defBody st_Credits_init) (t_Credits_init K aNOUGHT) :=
  (pss_cons (ps_if (pt_not (pt_val (pe_cal c_are_weights (hr.mono (by decide)) rfl (pa_cons (pv 1) pa_nil)))) pss_never
      pss_nil)
    (pss_cons (ps_fld (pv 0) (pe_callTy call_tuple_of (by rfl) T.b_tuple (by decide +kernel) (pa_cons (pv 1) pa_nil)) rfl)
    (pss_cons (ps_fld (pv 0) (pe_callTy call_tuple_of (by rfl) T.b_tuple (by decide +kernel) (pa_cons (pe_op op_rep (pe_lst (pa_cons (pe_glob rfl T.NOUGHT rfl) pa_nil)) (pe_callB call_len_seq (by rfl) T.b_len boot_len (pa_cons (pv 1) pa_nil))) pa_nil)) rfl)
    (pss_cons (ps_fld (pv 0) (pe_lst pa_nil) rfl)
    (pss_one (ps_fld (pv 0) (pe_lst pa_nil) rfl))))))
/-! ### Credits.step -/
abbrev st_Credits_step : Stmt := (inClass (top 37) 4)
abbrev N_Credits_step : List Str := ["self", "whole", "grown", "chosen", "who"]
theorem sc_Credits_step : FnScope N_Credits_step ["self"] (defScope st_Credits_step) := ⟨rfl, rfl, rfl, by decide +kernel, rfl, by decide +kernel, by decide +kernel⟩
def t_Credits_step (K : PySem.W.Frag) : TS :=
  (tSeq (tAsg (tCB (rSumT K) (tCons (tFld K (tVar 0) "now") tNil)) (gName 1))
    (tSeq (tAsg (tLc (iRng1 (tCons (tCB (rLenS K) (tCons (tFld K (tVar 0) "now") tNil)) tNil)) (gName 4) tYes (tCall (sp_plus K) [] E0 (tCons (tOp (rIxT K) (tFld K (tVar 0) "owed") (tVar 4)) (tCons (tCall (sp_made K) [] E0 (tCons (tOp (rIxT K) (tFld K (tVar 0) "now") (tVar 4)) (tCons (tVar 1) tNil))) tNil))) [4]) (gName 2))
    (tSeq (tAsg (tC (.int 0)) (gName 3))
    (tSeq (tFor (iRng2 (tCons (tC (.int 1)) (tCons (tCB (rLenS K) (tCons (tVar 2) tNil)) tNil))) (gName 4)
      (tIfS (tB (tCall (sp_less K) [] E0 (tCons (tOp (rIxL K) (tVar 2) (tVar 3)) (tCons (tOp (rIxL K) (tVar 2) (tVar 4)) tNil)))) (tAsg (tVar 4) (gName 3))
      tNext))
    (tSeq (tAsg (tCall (sp_minus K) [] E0 (tCons (tOp (rIxL K) (tVar 2) (tVar 3)) (tCons (tTup (tCons (tC (.int 1)) (tCons (tC (.int 1)) tNil))) tNil))) (gSub (tVar 2) (tVar 3) rSetL))
    (tSeq (tDrop (tBM K "list" rAppend (tFld K (tVar 0) "deeds") (tCons (tTup (tCons (tC (.str "step")) (tCons (tFld K (tVar 0) "owed") tNil))) tNil)))
    (tSeq (sFld K (tVar 0) (tCB (rTupS K) (tCons (tVar 2) tNil)) "owed")
    (tSeq (tDrop (tBM K "list" rAppend (tFld K (tVar 0) "row") (tCons (tVar 3) tNil)))
    (tRet (tVar 3))))))))))
theorem dv_Credits_step (T : Txt K mg aNOUGHT aONE) (c_minus : Cal P w K mg base 3 "minus" ["one", "other"] (sp_minus K)) (c_less : Cal P w K mg base 1 "less" ["one", "other"] (sp_less K)) (c_made : Cal P w K mg base 2 "made" ["top", "bottom"] (sp_made K)) (c_plus : Cal P w K mg base 3 "plus" ["one", "other"] (sp_plus K)) {f : Addr} {cdv : Value} {A : Around} {outer : List Env} {s : Shared} {H : Hp} {E : XK} (hr : Room 3 (A.deeper (envOfC "Credits.step" (defScope st_Credits_step) s.heap.objs.size f cdv))) :
    PSs (cxOf CX0 P w K mg base N_Credits_step "Credits.step" (defScope st_Credits_step) f cdv A outer s H E).nox (defBody st_Credits_step) (t_Credits_step K) :=
  (pss_cons (ps_set (i := 1) sc_Credits_step.nd rfl (by first | exact Or.inl rfl | exact Or.inr rfl) (pe_callB (cr_sumT rfl) (by rfl) T.b_sum (by decide +kernel) (pa_cons (pe_fld (pv 0) rfl) pa_nil)))
    (pss_cons (ps_setLc (i := 2) (own := [("who", 4)]) rfl sc_Credits_step.nd rfl rfl (sw_true rfl rfl rfl (by decide +kernel)) (pi_range1 (by rfl) T.b_range (pa_cons (pe_callB call_len_seq (by rfl) T.b_len boot_len (pa_cons (pe_fld (pv 0) rfl) pa_nil)) pa_nil)) (blkOk_by (own := [("who", 4)]) (N := N_Credits_step) (sc := defScope st_Credits_step) (by decide +kernel)) (fun _ _ _ _ _ => (pg_name (i := 4) sc_Credits_step.nd rfl (by first | exact Or.inl rfl | exact Or.inr rfl))) (fun _ _ _ _ _ => pts_nil) (fun _ _ _ _ _ => (pe_cal c_plus (hr.mono (by decide)) rfl (pa_cons (pe_ix ix_tup (pe_fld (pv 0) rfl) (pv 4) (fun _ _ => rfl)) (pa_cons (pe_cal c_made (hr.mono (by decide)) rfl (pa_cons (pe_ix ix_tup (pe_fld (pv 0) rfl) (pv 4) (fun _ _ => rfl)) (pa_cons (pv 1) pa_nil))) pa_nil)))))
    (pss_cons (ps_set (i := 3) sc_Credits_step.nd rfl (by first | exact Or.inl rfl | exact Or.inr rfl) pe_int)
    (pss_cons (ps_for PassesOwn.never rfl (pi_range2 (by rfl) T.b_range (pa_cons pe_int (pa_cons (pe_callB call_len_seq (by rfl) T.b_len boot_len (pa_cons (pv 2) pa_nil)) pa_nil))) (pg_name (i := 4) sc_Credits_step.nd rfl (by first | exact Or.inl rfl | exact Or.inr rfl))
      (pss_one (ps_if (pt_val (pe_cal c_less (hr.mono (by decide)) rfl (pa_cons (pe_ix ix_list (pv 2) (pv 3) (fun _ _ => rfl)) (pa_cons (pe_ix ix_list (pv 2) (pv 4) (fun _ _ => rfl)) pa_nil)))) (pss_one (ps_set (i := 3) sc_Credits_step.nd rfl (by first | exact Or.inl rfl | exact Or.inr rfl) (pv 4)))
      pss_nil)))
    (pss_cons (ps_asg (pe_cal c_minus (hr.mono (by decide)) rfl (pa_cons (pe_ix ix_list (pv 2) (pv 3) (fun _ _ => rfl)) (pa_cons (pe_tup (pa_cons pe_int (pa_cons pe_int pa_nil))) pa_nil))) (pg_sub (pv 2) (pv 3) set_list))
    (pss_cons (ps_expr (pe_bm PySem.F.plainAttrs_list PySem.F.slot_list_append PySem.F.type_list_append mt_append (pe_fld (pv 0) rfl) (pa_cons (pe_tup (pa_cons pe_str (pa_cons (pe_fld (pv 0) rfl) pa_nil))) pa_nil)))
    (pss_cons (ps_fld (pv 0) (pe_callTy call_tuple_of (by rfl) T.b_tuple (by decide +kernel) (pa_cons (pv 2) pa_nil)) rfl)
    (pss_cons (ps_expr (pe_bm PySem.F.plainAttrs_list PySem.F.slot_list_append PySem.F.type_list_append mt_append (pe_fld (pv 0) rfl) (pa_cons (pv 3) pa_nil)))
    (pss_one (ps_ret (pv 3)))))))))))
end
end Dt
set_option Elab.async false
set_option linter.all false
set_option maxRecDepth 100000
set_option maxHeartbeats 4000000
/-! Printed by gen.py: each def's place, names, reading and derivation. -/
namespace Dt
open PySem PySem.Spec PyProof.Rows L2 Evl DtM
section
variable {P : Program} {w : World} {K : PySem.W.Frag} {mg : Str → Option Value} {base : Heap} {aNOUGHT aONE cPlan cCredits : Addr}
/-! ### check_bound -/
abbrev st_check_bound : Stmt := (top 40)
abbrev N_check_bound : List Str := ["bound"]
theorem sc_check_bound : FnScope N_check_bound ["bound"] (defScope st_check_bound) := ⟨rfl, rfl, rfl, by decide +kernel, rfl, by decide +kernel, by decide +kernel⟩
def t_check_bound (K : PySem.W.Frag) : TS :=
  (tSeq (tIfS (tOr (tNot (tB (tCB (rIsi K) (tCons (tVar 0) (tCons (tC (.ty "tuple")) tNil))))) (tOr (tTest (tOp rNe (tCB (rLenS K) (tCons (tVar 0) tNil)) (tC (.int 2)))) (tNot (tB (tCB (rIsi K) (tCons (tOp (rIxT K) (tVar 0) (tC (.int 1))) (tCons (tC (.ty "bool")) tNil))))))) tNever
      tNext)
    (tIfS (tOr (tNot (tB (tCall (sp_is_fraction K) [] E0 (tCons (tOp (rIxT K) (tVar 0) (tC (.int 0))) tNil)))) (tOr (tTest (tOp rLtI (tOp (rIxT K) (tOp (rIxT K) (tVar 0) (tC (.int 0))) (tC (.int 0))) (tC (.int 0)))) (tB (tCall (sp_less K) [] E0 (tCons (tTup (tCons (tC (.int 300)) (tCons (tC (.int 1)) tNil))) (tCons (tOp (rIxT K) (tVar 0) (tC (.int 0))) tNil)))))) tNever
      tNext))
theorem dv_check_bound (T : Txt K mg aNOUGHT aONE) (c_is_fraction : Cal P w K mg base 2 "is_fraction" ["thing"] (sp_is_fraction K)) (c_less : Cal P w K mg base 1 "less" ["one", "other"] (sp_less K)) {f : Addr} {cdv : Value} {A : Around} {outer : List Env} {s : Shared} {H : Hp} {E : XK} (hr : Room 2 (A.deeper (envOfC "check_bound" (defScope st_check_bound) s.heap.objs.size f cdv))) :
    PSs (cxOf CX0 P w K mg base N_check_bound "check_bound" (defScope st_check_bound) f cdv A outer s H E).nox (defBody st_check_bound) (t_check_bound K) :=
  (pss_cons (ps_if (PW.pt (pw_or (pt_not (pt_val (pe_callB call_isi (by rfl) T.b_isinstance (by decide +kernel) (pa_cons (pv 0) (pa_cons (pe_bltn (by rfl) T.b_tuple (by decide +kernel) rfl) pa_nil))))) (pw_or (pt_cmpR op_ne (pe_callB call_len_seq (by rfl) T.b_len boot_len (pa_cons (pv 0) pa_nil)) pe_int (nomark _)) (pw_or1 (pt_not (pt_val (pe_callB call_isi (by rfl) T.b_isinstance (by decide +kernel) (pa_cons (pe_ix ix_tup (pv 0) pe_int (fun _ _ => rfl)) (pa_cons (pe_bltn (by rfl) T.b_bool (by decide +kernel) rfl) pa_nil))))))))) pss_never
      pss_nil)
    (pss_one (ps_if (PW.pt (pw_or (pt_not (pt_val (pe_cal c_is_fraction (hr.mono (by decide)) rfl (pa_cons (pe_ix ix_tup (pv 0) pe_int (fun _ _ => rfl)) pa_nil)))) (pw_or (pt_cmpR op_lt (pe_ix ix_tup (pe_ix ix_tup (pv 0) pe_int (fun _ _ => rfl)) pe_int (fun _ _ => rfl)) pe_int (nomark _)) (pw_or1 (pt_val (pe_cal c_less (hr.mono (by decide)) rfl (pa_cons (pe_tup (pa_cons (pe_glob rfl T.MOST_BOUND.choose_spec ⟨_, rfl⟩) (pa_cons pe_int pa_nil))) (pa_cons (pe_ix ix_tup (pv 0) pe_int (fun _ _ => rfl)) pa_nil)))))))) pss_never
      pss_nil)))
/-! ### lag_keeps -/
abbrev st_lag_keeps : Stmt := (top 41)
abbrev N_lag_keeps : List Str := ["bound", "far"]
theorem sc_lag_keeps : FnScope N_lag_keeps ["bound", "far"] (defScope st_lag_keeps) := ⟨rfl, rfl, rfl, by decide +kernel, rfl, by decide +kernel, by decide +kernel⟩
def t_lag_keeps (K : PySem.W.Frag) : TS :=
  (tSeq (tIfS (tB (tOp (rIxT K) (tVar 0) (tC (.int 1)))) (tRet (tCall (sp_less K) [] E0 (tCons (tCall (sp_unsigned K) [] E0 (tCons (tVar 1) tNil)) (tCons (tOp (rIxT K) (tVar 0) (tC (.int 0))) tNil))))
      tNext)
    tNever)
theorem dv_lag_keeps (T : Txt K mg aNOUGHT aONE) (c_unsigned : Cal P w K mg base 1 "unsigned" ["one"] (sp_unsigned K)) (c_less : Cal P w K mg base 1 "less" ["one", "other"] (sp_less K)) {f : Addr} {cdv : Value} {A : Around} {outer : List Env} {s : Shared} {H : Hp} {E : XK} (hr : Room 1 (A.deeper (envOfC "lag_keeps" (defScope st_lag_keeps) s.heap.objs.size f cdv))) :
    PSs (cxOf CX0 P w K mg base N_lag_keeps "lag_keeps" (defScope st_lag_keeps) f cdv A outer s H E).nox (defBody st_lag_keeps) (t_lag_keeps K) :=
  (pss_cons (ps_if (pt_val (pe_ix ix_tup (pv 0) pe_int (fun _ _ => rfl))) (pss_one (ps_ret (pe_cal c_less (hr.mono (by decide)) rfl (pa_cons (pe_cal c_unsigned (hr.mono (by decide)) rfl (pa_cons (pv 1) pa_nil)) (pa_cons (pe_ix ix_tup (pv 0) pe_int (fun _ _ => rfl)) pa_nil)))))
      pss_nil)
    (pss_one ps_never))
/-! ### low_of -/
abbrev st_low_of : Stmt := (top 42)
abbrev N_low_of : List Str := ["bound", "due"]
theorem sc_low_of : FnScope N_low_of ["bound", "due"] (defScope st_low_of) := ⟨rfl, rfl, rfl, by decide +kernel, rfl, by decide +kernel, by decide +kernel⟩
def t_low_of (K : PySem.W.Frag) : TS :=
  (tSeq (tIfS (tB (tOp (rIxT K) (tVar 0) (tC (.int 1)))) (tRet (tCB rMax2 (tCons (tC (.int 0)) (tCons (tOp rAddI (tCall (sp_floor_of K) [] E0 (tCons (tCall (sp_minus K) [] E0 (tCons (tVar 1) (tCons (tOp (rIxT K) (tVar 0) (tC (.int 0))) tNil))) tNil)) (tC (.int 1))) tNil))))
      tNext)
    tNever)
theorem dv_low_of (T : Txt K mg aNOUGHT aONE) (c_minus : Cal P w K mg base 3 "minus" ["one", "other"] (sp_minus K)) (c_floor_of : Cal P w K mg base 1 "floor_of" ["one"] (sp_floor_of K)) {f : Addr} {cdv : Value} {A : Around} {outer : List Env} {s : Shared} {H : Hp} {E : XK} (hr : Room 3 (A.deeper (envOfC "low_of" (defScope st_low_of) s.heap.objs.size f cdv))) :
    PSs (cxOf CX0 P w K mg base N_low_of "low_of" (defScope st_low_of) f cdv A outer s H E).nox (defBody st_low_of) (t_low_of K) :=
  (pss_cons (ps_if (pt_val (pe_ix ix_tup (pv 0) pe_int (fun _ _ => rfl))) (pss_one (ps_ret (pe_callB (call_max2 rfl) (by rfl) T.b_max (by decide +kernel) (pa_cons pe_int (pa_cons (pe_op op_add (pe_cal c_floor_of (hr.mono (by decide)) rfl (pa_cons (pe_cal c_minus (hr.mono (by decide)) rfl (pa_cons (pv 1) (pa_cons (pe_ix ix_tup (pv 0) pe_int (fun _ _ => rfl)) pa_nil))) pa_nil)) pe_int) pa_nil)))))
      pss_nil)
    (pss_one ps_never))
/-! ### high_of -/
abbrev st_high_of : Stmt := (top 43)
abbrev N_high_of : List Str := ["bound", "due"]
theorem sc_high_of : FnScope N_high_of ["bound", "due"] (defScope st_high_of) := ⟨rfl, rfl, rfl, by decide +kernel, rfl, by decide +kernel, by decide +kernel⟩
def t_high_of (K : PySem.W.Frag) : TS :=
  (tSeq (tIfS (tB (tOp (rIxT K) (tVar 0) (tC (.int 1)))) (tRet (tCB rMax2 (tCons (tC (.int 0)) (tCons (tOp rSubI (tCall (sp_ceiling_of K) [] E0 (tCons (tCall (sp_plus K) [] E0 (tCons (tVar 1) (tCons (tOp (rIxT K) (tVar 0) (tC (.int 0))) tNil))) tNil)) (tC (.int 1))) tNil))))
      tNext)
    tNever)
theorem dv_high_of (T : Txt K mg aNOUGHT aONE) (c_plus : Cal P w K mg base 3 "plus" ["one", "other"] (sp_plus K)) (c_ceiling_of : Cal P w K mg base 1 "ceiling_of" ["one"] (sp_ceiling_of K)) {f : Addr} {cdv : Value} {A : Around} {outer : List Env} {s : Shared} {H : Hp} {E : XK} (hr : Room 3 (A.deeper (envOfC "high_of" (defScope st_high_of) s.heap.objs.size f cdv))) :
    PSs (cxOf CX0 P w K mg base N_high_of "high_of" (defScope st_high_of) f cdv A outer s H E).nox (defBody st_high_of) (t_high_of K) :=
  (pss_cons (ps_if (pt_val (pe_ix ix_tup (pv 0) pe_int (fun _ _ => rfl))) (pss_one (ps_ret (pe_callB (call_max2 rfl) (by rfl) T.b_max (by decide +kernel) (pa_cons pe_int (pa_cons (pe_op op_sub (pe_cal c_ceiling_of (hr.mono (by decide)) rfl (pa_cons (pe_cal c_plus (hr.mono (by decide)) rfl (pa_cons (pv 1) (pa_cons (pe_ix ix_tup (pv 0) pe_int (fun _ _ => rfl)) pa_nil))) pa_nil)) pe_int) pa_nil)))))
      pss_nil)
    (pss_one ps_never))
/-! ### must_by -/
abbrev st_must_by : Stmt := (top 46)
abbrev N_must_by : List Str := ["table", "at", "who", "count", "place"]
theorem sc_must_by : FnScope N_must_by ["table", "at", "who", "count"] (defScope st_must_by) := ⟨rfl, rfl, rfl, by decide +kernel, rfl, by decide +kernel, by decide +kernel⟩
def t_must_by (K : PySem.W.Frag) : TS :=
  (tSeq (tFor (iRng2 (tCons (tVar 1) (tCons (tCB (rLenS K) (tCons (tVar 0) tNil)) tNil))) (gName 4)
      (tIfS (tTest (tOp rGtI (tOp (rIxT K) (tOp (rIxL K) (tOp (rIxL K) (tVar 0) (tVar 4)) (tVar 2)) (tC (.int 0))) (tVar 3))) (tRet (tVar 4))
      tNext))
    (tRet (tCB (rLenS K) (tCons (tVar 0) tNil))))
theorem dv_must_by (T : Txt K mg aNOUGHT aONE)  {f : Addr} {cdv : Value} {A : Around} {outer : List Env} {s : Shared} {H : Hp} {E : XK} (hr : Room 0 (A.deeper (envOfC "must_by" (defScope st_must_by) s.heap.objs.size f cdv))) :
    PSs (cxOf CX0 P w K mg base N_must_by "must_by" (defScope st_must_by) f cdv A outer s H E).nox (defBody st_must_by) (t_must_by K) :=
  (pss_cons (ps_for PassesOwn.never rfl (pi_range2 (by rfl) T.b_range (pa_cons (pv 1) (pa_cons (pe_callB call_len_seq (by rfl) T.b_len boot_len (pa_cons (pv 0) pa_nil)) pa_nil))) (pg_name (i := 4) sc_must_by.nd rfl (by first | exact Or.inl rfl | exact Or.inr rfl))
      (pss_one (ps_if (pt_cmpR op_gt (pe_ix ix_tup (pe_ix ix_list (pe_ix ix_list (pv 0) (pv 4) (fun _ _ => rfl)) (pv 2) (fun _ _ => rfl)) pe_int (fun _ _ => rfl)) (pv 3) (nomark _)) (pss_one (ps_ret (pv 4)))
      pss_nil)))
    (pss_one (ps_ret (pe_callB call_len_seq (by rfl) T.b_len boot_len (pa_cons (pv 0) pa_nil)))))
/-! ### soonest -/
abbrev st_soonest : Stmt := (top 47)
abbrev N_soonest : List Str := ["table", "at", "counts", "found", "who", "by"]
theorem sc_soonest : FnScope N_soonest ["table", "at", "counts"] (defScope st_soonest) := ⟨rfl, rfl, rfl, by decide +kernel, rfl, by decide +kernel, by decide +kernel⟩
def t_soonest (K : PySem.W.Frag) : TS :=
  (tSeq (tAsg (tC .non) (gName 3))
    (tSeq (tFor (iRng1 (tCons (tCB (rLenS K) (tCons (tVar 2) tNil)) tNil)) (gName 4)
      (tIfS (tTest (tOp rLeI (tOp rAddI (tOp (rIxL K) (tVar 2) (tVar 4)) (tC (.int 1))) (tOp (rIxT K) (tOp (rIxL K) (tOp (rIxL K) (tVar 0) (tVar 1)) (tVar 4)) (tC (.int 1))))) (tSeq (tAsg (tCall (sp_must_by K) [] E0 (tCons (tVar 0) (tCons (tVar 1) (tCons (tVar 4) (tCons (tOp (rIxL K) (tVar 2) (tVar 4)) tNil))))) (gName 5))
    (tIfS (tOr (tTest (tOp rIsNo (tVar 3) (tC .non))) (tTest (tOp rLtI (tVar 5) (tOp (rIxT K) (tVar 3) (tC (.int 0)))))) (tAsg (tTup (tCons (tVar 5) (tCons (tVar 4) tNil))) (gName 3))
      tNext))
      tNext))
    (tSeq (tIfS (tTest (tOp rIsNo (tVar 3) (tC .non))) (tRet (tC .non))
      tNext)
    (tRet (tOp (rIxT K) (tVar 3) (tC (.int 1)))))))
theorem dv_soonest (T : Txt K mg aNOUGHT aONE) (c_must_by : Cal P w K mg base 1 "must_by" ["table", "at", "who", "count"] (sp_must_by K)) {f : Addr} {cdv : Value} {A : Around} {outer : List Env} {s : Shared} {H : Hp} {E : XK} (hr : Room 1 (A.deeper (envOfC "soonest" (defScope st_soonest) s.heap.objs.size f cdv))) :
    PSs (cxOf CX0 P w K mg base N_soonest "soonest" (defScope st_soonest) f cdv A outer s H E).nox (defBody st_soonest) (t_soonest K) :=
  (pss_cons (ps_set (i := 3) sc_soonest.nd rfl (by first | exact Or.inl rfl | exact Or.inr rfl) pe_non)
    (pss_cons (ps_for PassesOwn.never rfl (pi_range1 (by rfl) T.b_range (pa_cons (pe_callB call_len_seq (by rfl) T.b_len boot_len (pa_cons (pv 2) pa_nil)) pa_nil)) (pg_name (i := 4) sc_soonest.nd rfl (by first | exact Or.inl rfl | exact Or.inr rfl))
      (pss_one (ps_if (pt_cmpR op_le (pe_op op_add (pe_ix ix_list (pv 2) (pv 4) (fun _ _ => rfl)) pe_int) (pe_ix ix_tup (pe_ix ix_list (pe_ix ix_list (pv 0) (pv 1) (fun _ _ => rfl)) (pv 4) (fun _ _ => rfl)) pe_int (fun _ _ => rfl)) (nomark _)) (pss_cons (ps_set (i := 5) sc_soonest.nd rfl (by first | exact Or.inl rfl | exact Or.inr rfl) (pe_cal c_must_by (hr.mono (by decide)) rfl (pa_cons (pv 0) (pa_cons (pv 1) (pa_cons (pv 4) (pa_cons (pe_ix ix_list (pv 2) (pv 4) (fun _ _ => rfl)) pa_nil))))))
    (pss_one (ps_if (PW.pt (pw_or (pt_cmpR op_isN (pv 3) pe_non (nomark _)) (pw_or1 (pt_cmpR op_lt (pv 5) (pe_ix ix_tup (pv 3) pe_int (fun _ _ => rfl)) (nomark _))))) (pss_one (ps_set (i := 3) sc_soonest.nd rfl (by first | exact Or.inl rfl | exact Or.inr rfl) (pe_tup (pa_cons (pv 5) (pa_cons (pv 4) pa_nil)))))
      pss_nil)))
      pss_nil)))
    (pss_cons (ps_if (pt_cmpR op_isN (pv 3) pe_non (nomark _)) (pss_one (ps_ret pe_non))
      pss_nil)
    (pss_one (ps_ret (pe_ix ix_tup (pv 3) pe_int (fun _ _ => rfl)))))))
/-! ### too_far -/
abbrev st_too_far : Stmt := (top 48)
abbrev N_too_far : List Str := ["table", "at", "counts", "who"]
theorem sc_too_far : FnScope N_too_far ["table", "at", "counts"] (defScope st_too_far) := ⟨rfl, rfl, rfl, by decide +kernel, rfl, by decide +kernel, by decide +kernel⟩
def t_too_far (K : PySem.W.Frag) : TS :=
  (tSeq (tFor (iRng1 (tCons (tCB (rLenS K) (tCons (tVar 2) tNil)) tNil)) (gName 3)
      (tIfS (tTest (tOp rGtI (tOp (rIxL K) (tVar 2) (tVar 3)) (tOp (rIxT K) (tOp (rIxL K) (tOp (rIxL K) (tVar 0) (tVar 1)) (tVar 3)) (tC (.int 1))))) (tRet (tC (.bl true)))
      tNext))
    (tRet (tC (.bl false))))
theorem dv_too_far (T : Txt K mg aNOUGHT aONE)  {f : Addr} {cdv : Value} {A : Around} {outer : List Env} {s : Shared} {H : Hp} {E : XK} (hr : Room 0 (A.deeper (envOfC "too_far" (defScope st_too_far) s.heap.objs.size f cdv))) :
    PSs (cxOf CX0 P w K mg base N_too_far "too_far" (defScope st_too_far) f cdv A outer s H E).nox (defBody st_too_far) (t_too_far K) :=
  (pss_cons (ps_for PassesOwn.never rfl (pi_range1 (by rfl) T.b_range (pa_cons (pe_callB call_len_seq (by rfl) T.b_len boot_len (pa_cons (pv 2) pa_nil)) pa_nil)) (pg_name (i := 3) sc_too_far.nd rfl (by first | exact Or.inl rfl | exact Or.inr rfl))
      (pss_one (ps_if (pt_cmpR op_gt (pe_ix ix_list (pv 2) (pv 3) (fun _ _ => rfl)) (pe_ix ix_tup (pe_ix ix_list (pe_ix ix_list (pv 0) (pv 1) (fun _ _ => rfl)) (pv 3) (fun _ _ => rfl)) pe_int (fun _ _ => rfl)) (nomark _)) (pss_one (ps_ret pe_bl))
      pss_nil)))
    (pss_one (ps_ret pe_bl)))
/-! ### too_few -/
abbrev st_too_few : Stmt := (top 49)
abbrev N_too_few : List Str := ["table", "at", "counts", "who"]
theorem sc_too_few : FnScope N_too_few ["table", "at", "counts"] (defScope st_too_few) := ⟨rfl, rfl, rfl, by decide +kernel, rfl, by decide +kernel, by decide +kernel⟩
def t_too_few (K : PySem.W.Frag) : TS :=
  (tSeq (tFor (iRng1 (tCons (tCB (rLenS K) (tCons (tVar 2) tNil)) tNil)) (gName 3)
      (tIfS (tTest (tOp rLtI (tOp (rIxL K) (tVar 2) (tVar 3)) (tOp (rIxT K) (tOp (rIxL K) (tOp (rIxL K) (tVar 0) (tVar 1)) (tVar 3)) (tC (.int 0))))) (tRet (tC (.bl true)))
      tNext))
    (tRet (tC (.bl false))))
theorem dv_too_few (T : Txt K mg aNOUGHT aONE)  {f : Addr} {cdv : Value} {A : Around} {outer : List Env} {s : Shared} {H : Hp} {E : XK} (hr : Room 0 (A.deeper (envOfC "too_few" (defScope st_too_few) s.heap.objs.size f cdv))) :
    PSs (cxOf CX0 P w K mg base N_too_few "too_few" (defScope st_too_few) f cdv A outer s H E).nox (defBody st_too_few) (t_too_few K) :=
  (pss_cons (ps_for PassesOwn.never rfl (pi_range1 (by rfl) T.b_range (pa_cons (pe_callB call_len_seq (by rfl) T.b_len boot_len (pa_cons (pv 2) pa_nil)) pa_nil)) (pg_name (i := 3) sc_too_few.nd rfl (by first | exact Or.inl rfl | exact Or.inr rfl))
      (pss_one (ps_if (pt_cmpR op_lt (pe_ix ix_list (pv 2) (pv 3) (fun _ _ => rfl)) (pe_ix ix_tup (pe_ix ix_list (pe_ix ix_list (pv 0) (pv 1) (fun _ _ => rfl)) (pv 3) (fun _ _ => rfl)) pe_int (fun _ _ => rfl)) (nomark _)) (pss_one (ps_ret pe_bl))
      pss_nil)))
    (pss_one (ps_ret pe_bl)))
/-! ### dealt -/
abbrev st_dealt : Stmt := (top 51)
abbrev N_dealt : List Str := ["table", "first", "start", "counts", "made", "at", "who", "number"]
theorem sc_dealt : FnScope N_dealt ["table", "first", "start"] (defScope st_dealt) := ⟨rfl, rfl, rfl, by decide +kernel, rfl, by decide +kernel, by decide +kernel⟩
def t_dealt (K : PySem.W.Frag) : TS :=
  (tSeq (tAsg (tCB (rListS K) (tCons (tVar 2) tNil)) (gName 3))
    (tSeq (tAsg (tLst tNil) (gName 4))
    (tSeq (tIfS (tOr (tB (tCall (sp_too_few K) [] E0 (tCons (tVar 0) (tCons (tC (.int 0)) (tCons (tVar 3) tNil))))) (tB (tCall (sp_too_far K) [] E0 (tCons (tVar 0) (tCons (tC (.int 0)) (tCons (tVar 3) tNil)))))) tNever
      tNext)
    (tSeq (tFor (iRng2 (tCons (tC (.int 1)) (tCons (tCB (rLenS K) (tCons (tVar 0) tNil)) tNil))) (gName 5)
      (tSeq (tIfS (tB (tCall (sp_too_far K) [] E0 (tCons (tVar 0) (tCons (tVar 5) (tCons (tVar 3) tNil))))) tNever
      tNext)
    (tSeq (tAsg (tCall (sp_soonest K) [] E0 (tCons (tVar 0) (tCons (tVar 5) (tCons (tVar 3) tNil)))) (gName 6))
    (tSeq (tIfS (tTest (tOp rIsNo (tVar 6) (tC .non))) tNever
      tNext)
    (tSeq (tAsg (tOp rAddI (tOp (rIxL K) (tVar 3) (tVar 6)) (tC (.int 1))) (gSub (tVar 3) (tVar 6) rSetL))
    (tSeq (tDrop (tBM K "list" rAppend (tVar 4) (tCons (tTup (tCons (tVar 6) (tCons (tOp (rIxL K) (tVar 3) (tVar 6)) tNil))) tNil)))
    (tIfS (tB (tCall (sp_too_few K) [] E0 (tCons (tVar 0) (tCons (tVar 5) (tCons (tVar 3) tNil))))) tNever
      tNext)))))))
    (tRet (tTup (tCons (tC (.str "row")) (tCons (tLc (iList K (tVar 4)) (gTup K 2 (gCons (gName 6) (gCons (gName 7) gNil))) tYes (tVar 6) [6, 7]) tNil))))))))
theorem dv_dealt (T : Txt K mg aNOUGHT aONE) (c_too_few : Cal P w K mg base 1 "too_few" ["table", "at", "counts"] (sp_too_few K)) (c_soonest : Cal P w K mg base 2 "soonest" ["table", "at", "counts"] (sp_soonest K)) (c_too_far : Cal P w K mg base 1 "too_far" ["table", "at", "counts"] (sp_too_far K)) {f : Addr} {cdv : Value} {A : Around} {outer : List Env} {s : Shared} {H : Hp} {E : XK} (hr : Room 2 (A.deeper (envOfC "dealt" (defScope st_dealt) s.heap.objs.size f cdv))) :
    PSs (cxOf CX0 P w K mg base N_dealt "dealt" (defScope st_dealt) f cdv A outer s H E).nox (defBody st_dealt) (t_dealt K) :=
  (pss_cons (ps_set (i := 3) sc_dealt.nd rfl (by first | exact Or.inl rfl | exact Or.inr rfl) (pe_callTy call_list_of (by rfl) T.b_list (by decide +kernel) (pa_cons (pv 2) pa_nil)))
    (pss_cons (ps_set (i := 4) sc_dealt.nd rfl (by first | exact Or.inl rfl | exact Or.inr rfl) (pe_lst pa_nil))
    (pss_cons (ps_if (PW.pt (pw_or (pt_val (pe_cal c_too_few (hr.mono (by decide)) rfl (pa_cons (pv 0) (pa_cons pe_int (pa_cons (pv 3) pa_nil))))) (pw_or1 (pt_val (pe_cal c_too_far (hr.mono (by decide)) rfl (pa_cons (pv 0) (pa_cons pe_int (pa_cons (pv 3) pa_nil)))))))) pss_never
      pss_nil)
    (pss_cons (ps_for PassesOwn.never rfl (pi_range2 (by rfl) T.b_range (pa_cons pe_int (pa_cons (pe_callB call_len_seq (by rfl) T.b_len boot_len (pa_cons (pv 0) pa_nil)) pa_nil))) (pg_name (i := 5) sc_dealt.nd rfl (by first | exact Or.inl rfl | exact Or.inr rfl))
      (pss_cons (ps_if (pt_val (pe_cal c_too_far (hr.mono (by decide)) rfl (pa_cons (pv 0) (pa_cons (pv 5) (pa_cons (pv 3) pa_nil))))) pss_never
      pss_nil)
    (pss_cons (ps_set (i := 6) sc_dealt.nd rfl (by first | exact Or.inl rfl | exact Or.inr rfl) (pe_cal c_soonest (hr.mono (by decide)) rfl (pa_cons (pv 0) (pa_cons (pv 5) (pa_cons (pv 3) pa_nil)))))
    (pss_cons (ps_if (pt_cmpR op_isN (pv 6) pe_non (nomark _)) pss_never
      pss_nil)
    (pss_cons (ps_asg (pe_op op_add (pe_ix ix_list (pv 3) (pv 6) (fun _ _ => rfl)) pe_int) (pg_sub (pv 3) (pv 6) set_list))
    (pss_cons (ps_expr (pe_bm PySem.F.plainAttrs_list PySem.F.slot_list_append PySem.F.type_list_append mt_append (pv 4) (pa_cons (pe_tup (pa_cons (pv 6) (pa_cons (pe_ix ix_list (pv 3) (pv 6) (fun _ _ => rfl)) pa_nil))) pa_nil)))
    (pss_one (ps_if (pt_val (pe_cal c_too_few (hr.mono (by decide)) rfl (pa_cons (pv 0) (pa_cons (pv 5) (pa_cons (pv 3) pa_nil))))) pss_never
      pss_nil))))))))
    (pss_one (ps_ret (pe_tup (pa_cons pe_str (pa_cons (pe_lc (own := [("who", 6), ("number", 7)]) rfl sc_dealt.nd (pi_list (pv 4)) (blkOk_by (own := [("who", 6), ("number", 7)]) (N := N_dealt) (sc := defScope st_dealt) (by decide +kernel)) (fun _ _ _ _ _ => (pg_tup rfl (pgs_cons (pg_name (i := 6) sc_dealt.nd rfl (by first | exact Or.inl rfl | exact Or.inr rfl)) (pgs_cons (pg_name (i := 7) sc_dealt.nd rfl (by first | exact Or.inl rfl | exact Or.inr rfl)) pgs_nil)))) (fun _ _ _ _ _ => pts_nil) (fun _ _ _ _ _ => (pv 6))) pa_nil)))))))))
/-! ### kept_by -/
abbrev st_kept_by : Stmt := (top 52)
abbrev N_kept_by : List Str := ["plan", "bound"]
theorem sc_kept_by : FnScope N_kept_by ["plan", "bound"] (defScope st_kept_by) := ⟨rfl, rfl, rfl, by decide +kernel, rfl, by decide +kernel, by decide +kernel⟩
def t_kept_by (K : PySem.W.Frag) (cPlan : Addr) : TS :=
  (tSeq (tDrop (tCall (sp_check_bound K) [] E0 (tCons (tVar 1) tNil)))
    (tRet (tCall (sp_dealt K) [] E0 (tCons (tCall (sp_ranges_by_turns K cPlan) [] E0 (tCons (tVar 0) (tCons (tVar 1) tNil))) (tCons (tC (.int 0)) (tCons (tOp rRep (tLst (tCons (tC (.int 0)) tNil)) (tMeth cPlan "many" (sp_Plan_many K cPlan) [] E0 (tVar 0) tNil)) tNil))))))
theorem dv_kept_by (T : Txt K mg aNOUGHT aONE) (c_Plan_many : MCal P w K mg base cPlan 1 "many" ["self"] (sp_Plan_many K cPlan)) (c_ranges_by_turns : Cal P w K mg base 5 "ranges_by_turns" ["plan", "bound"] (sp_ranges_by_turns K cPlan)) (c_dealt : Cal P w K mg base 3 "dealt" ["table", "first", "start"] (sp_dealt K)) (c_check_bound : Cal P w K mg base 3 "check_bound" ["bound"] (sp_check_bound K)) {f : Addr} {cdv : Value} {A : Around} {outer : List Env} {s : Shared} {H : Hp} {E : XK} (hr : Room 5 (A.deeper (envOfC "kept_by" (defScope st_kept_by) s.heap.objs.size f cdv))) :
    PSs (cxOf CX0 P w K mg base N_kept_by "kept_by" (defScope st_kept_by) f cdv A outer s H E).nox (defBody st_kept_by) (t_kept_by K cPlan) :=
  (pss_cons (ps_expr (pe_cal c_check_bound (hr.mono (by decide)) rfl (pa_cons (pv 1) pa_nil)))
    (pss_one (ps_ret (pe_cal c_dealt (hr.mono (by decide)) rfl (pa_cons (pe_cal c_ranges_by_turns (hr.mono (by decide)) rfl (pa_cons (pv 0) (pa_cons (pv 1) pa_nil))) (pa_cons pe_int (pa_cons (pe_op op_rep (pe_lst (pa_cons pe_int pa_nil)) (pe_mcal0 c_Plan_many (hr.mono (by decide)) (pv 0))) pa_nil)))))))
end
end Dt
set_option Elab.async false
set_option linter.all false
set_option maxRecDepth 100000
set_option maxHeartbeats 4000000
/-! Printed by gen.py: each def's place, names, reading and derivation. -/
namespace Dt
open PySem PySem.Spec PyProof.Rows L2 Evl DtM
section
variable {P : Program} {w : World} {K : PySem.W.Frag} {mg : Str → Option Value} {base : Heap} {aNOUGHT aONE cPlan cCredits : Addr}
/-! ### ranges_by_turns -/
abbrev st_ranges_by_turns : Stmt := (top 44)
abbrev N_ranges_by_turns : List Str := ["plan", "bound", "dues", "due"]
theorem sc_ranges_by_turns : FnScope N_ranges_by_turns ["plan", "bound"] (defScope st_ranges_by_turns) := ⟨rfl, rfl, rfl, by decide +kernel, rfl, by decide +kernel, by decide +kernel⟩
def t_ranges_by_turns (K : PySem.W.Frag) : TS :=
  (tRet (tLc (iList K (tFld K (tVar 0) "table")) (gName 2) tYes (tLc (iList K (tVar 2)) (gName 3) tYes (tTup (tCons (tCall (sp_low_of K) [] E0 (tCons (tVar 1) (tCons (tVar 3) tNil))) (tCons (tCall (sp_high_of K) [] E0 (tCons (tVar 1) (tCons (tVar 3) tNil))) tNil))) [3]) [2]))
theorem dv_ranges_by_turns (T : Txt K mg aNOUGHT aONE) (c_high_of : Cal P w K mg base 4 "high_of" ["bound", "due"] (sp_high_of K)) (c_low_of : Cal P w K mg base 4 "low_of" ["bound", "due"] (sp_low_of K)) {f : Addr} {cdv : Value} {A : Around} {outer : List Env} {s : Shared} {H : Hp} {E : XK} (hr : Room 4 (A.deeper (envOfC "ranges_by_turns" (defScope st_ranges_by_turns) s.heap.objs.size f cdv))) :
    PSs (cxOf CX0 P w K mg base N_ranges_by_turns "ranges_by_turns" (defScope st_ranges_by_turns) f cdv A outer s H E).nox (defBody st_ranges_by_turns) (t_ranges_by_turns K) :=
  (pss_one (ps_ret (pe_lc (own := [("dues", 2)]) rfl sc_ranges_by_turns.nd (pi_list (pe_fld (pv 0) rfl)) (blkOk_by (own := [("dues", 2)]) (N := N_ranges_by_turns) (sc := defScope st_ranges_by_turns) (by decide +kernel)) (fun _ _ _ _ _ => (pg_name (i := 2) sc_ranges_by_turns.nd rfl (by first | exact Or.inl rfl | exact Or.inr rfl))) (fun _ _ _ _ _ => pts_nil) (fun _ _ _ _ _ => (pe_lc (own := [("due", 3)]) rfl sc_ranges_by_turns.nd (pi_list (pv 2)) (blkOk_by (own := [("due", 3)]) (N := N_ranges_by_turns) (sc := relS { kind := ScopeKind.function, names := [(Str.ofString ".0", NameKind.local), (Str.ofString "dues", NameKind.local), (Str.ofString "bound", NameKind.free)], isGenerator := false, isCoroutine := false } (defScope st_ranges_by_turns)) (by decide +kernel)) (fun _ _ _ _ _ => (pg_name (i := 3) sc_ranges_by_turns.nd rfl (by first | exact Or.inl rfl | exact Or.inr rfl))) (fun _ _ _ _ _ => pts_nil) (fun _ _ _ _ _ => (pe_tup (pa_cons (pe_cal c_low_of (hr.mono (by decide)) rfl (pa_cons (pv 1) (pa_cons (pv 3) pa_nil))) (pa_cons (pe_cal c_high_of (hr.mono (by decide)) rfl (pa_cons (pv 1) (pa_cons (pv 3) pa_nil))) pa_nil)))))))))
end
end Dt
set_option Elab.async false
set_option linter.all false
set_option maxRecDepth 100000
set_option maxHeartbeats 4000000
/-! Printed by gen.py: each def's place, names, reading and derivation. -/
namespace Dt
open PySem PySem.Spec PyProof.Rows L2 Evl DtM
section
variable {P : Program} {w : World} {K : PySem.W.Frag} {mg : Str → Option Value} {base : Heap} {aNOUGHT aONE cPlan cCredits : Addr}
/-! ### is_within -/
abbrev st_is_within : Stmt := (top 55)
abbrev N_is_within : List Str := ["thing", "low", "high"]
theorem sc_is_within : FnScope N_is_within ["thing", "low", "high"] (defScope st_is_within) := ⟨rfl, rfl, rfl, by decide +kernel, rfl, by decide +kernel, by decide +kernel⟩
def t_is_within : TS :=
  (tRet (tAndV (tCall (sp_is_whole) [] E0 (tCons (tVar 0) tNil)) (tChain rLeI rLeI (tVar 1) (tVar 0) (tVar 2))))
theorem dv_is_within (T : Txt K mg aNOUGHT aONE) (c_is_whole : Cal P w K mg base 1 "is_whole" ["thing"] (sp_is_whole)) {f : Addr} {cdv : Value} {A : Around} {outer : List Env} {s : Shared} {H : Hp} {E : XK} (hr : Room 1 (A.deeper (envOfC "is_within" (defScope st_is_within) s.heap.objs.size f cdv))) :
    PSs (cxOf CX0 P w K mg base N_is_within "is_within" (defScope st_is_within) f cdv A outer s H E).nox (defBody st_is_within) (t_is_within) :=
  (pss_one (ps_ret (pe_and (pe_cal c_is_whole (hr.mono (by decide)) rfl (pa_cons (pv 0) pa_nil)) (pe_one (pe_chain op_le op_le (pv 1) (pv 0) (pv 2))))))
/-! ### are_claimants -/
abbrev st_are_claimants : Stmt := (top 56)
abbrev N_are_claimants : List Str := ["thing", "many", "one"]
theorem sc_are_claimants : FnScope N_are_claimants ["thing", "many"] (defScope st_are_claimants) := ⟨rfl, rfl, rfl, by decide +kernel, rfl, by decide +kernel, by decide +kernel⟩
def t_are_claimants (K : PySem.W.Frag) : TS :=
  (tRet (tAndV (tCB (rIsi K) (tCons (tVar 0) (tCons (tC (.ty "list")) tNil))) (tCB (rAll K) (tCons (tLc (iList K (tVar 0)) (gName 2) tYes (tCall (sp_is_within) [] E0 (tCons (tVar 2) (tCons (tC (.int 0)) (tCons (tOp rSubI (tVar 1) (tC (.int 1))) tNil)))) [2]) tNil))))
theorem dv_are_claimants (T : Txt K mg aNOUGHT aONE) (c_is_within : Cal P w K mg base 2 "is_within" ["thing", "low", "high"] (sp_is_within)) {f : Addr} {cdv : Value} {A : Around} {outer : List Env} {s : Shared} {H : Hp} {E : XK} (hr : Room 2 (A.deeper (envOfC "are_claimants" (defScope st_are_claimants) s.heap.objs.size f cdv))) :
    PSs (cxOf CX0 P w K mg base N_are_claimants "are_claimants" (defScope st_are_claimants) f cdv A outer s H E).nox (defBody st_are_claimants) (t_are_claimants K) :=
  (pss_one (ps_ret (pe_and (pe_callB call_isi (by rfl) T.b_isinstance (by decide +kernel) (pa_cons (pv 0) (pa_cons (pe_bltn (by rfl) T.b_list (by decide +kernel) rfl) pa_nil))) (pe_one (pe_callB (cr_all rfl) (by rfl) T.b_all (by decide +kernel) (pa_cons (pe_lc (own := [("one", 2)]) rfl sc_are_claimants.nd (pi_list (pv 0)) (blkOk_by (own := [("one", 2)]) (N := N_are_claimants) (sc := defScope st_are_claimants) (by decide +kernel)) (fun _ _ _ _ _ => (pg_name (i := 2) sc_are_claimants.nd rfl (by first | exact Or.inl rfl | exact Or.inr rfl))) (fun _ _ _ _ _ => pts_nil) (fun _ _ _ _ _ => (pe_cal c_is_within (hr.mono (by decide)) rfl (pa_cons (pv 2) (pa_cons pe_int (pa_cons (pe_op op_sub (pv 1) pe_int) pa_nil)))))) pa_nil))))))
/-! ### is_running -/
abbrev st_is_running : Stmt := (top 57)
abbrev N_is_running : List Str := ["thing"]
theorem sc_is_running : FnScope N_is_running ["thing"] (defScope st_is_running) := ⟨rfl, rfl, rfl, by decide +kernel, rfl, by decide +kernel, by decide +kernel⟩
def t_is_running (K : PySem.W.Frag) : TS :=
  (tSeq (tIfS (tOr (tNot (tB (tCB (rIsi K) (tCons (tVar 0) (tCons (tC (.ty "tuple")) tNil))))) (tOr (tTest (tOp rNe (tCB (rLenS K) (tCons (tVar 0) tNil)) (tC (.int 2)))) (tNot (tB (tCall (sp_are_claimants) [] E0 (tCons (tOp (rIxT K) (tVar 0) (tC (.int 0))) (tCons (tC (.int 6)) tNil))))))) (tRet (tC (.bl false)))
      tNext)
    (tRet (tAndV (tCall (sp_are_claimants) [] E0 (tCons (tOp (rIxT K) (tVar 0) (tC (.int 1))) (tCons (tC (.int 6)) tNil))) (tOp rGtI (tCB (rLenS K) (tCons (tOp (rIxT K) (tVar 0) (tC (.int 1))) tNil)) (tC (.int 0))))))
theorem dv_is_running (T : Txt K mg aNOUGHT aONE) (c_are_claimants : Cal P w K mg base 3 "are_claimants" ["thing", "many"] (sp_are_claimants)) {f : Addr} {cdv : Value} {A : Around} {outer : List Env} {s : Shared} {H : Hp} {E : XK} (hr : Room 3 (A.deeper (envOfC "is_running" (defScope st_is_running) s.heap.objs.size f cdv))) :
    PSs (cxOf CX0 P w K mg base N_is_running "is_running" (defScope st_is_running) f cdv A outer s H E).nox (defBody st_is_running) (t_is_running K) :=
  (pss_cons (ps_if (PW.pt (pw_or (pt_not (pt_val (pe_callB call_isi (by rfl) T.b_isinstance (by decide +kernel) (pa_cons (pv 0) (pa_cons (pe_bltn (by rfl) T.b_tuple (by decide +kernel) rfl) pa_nil))))) (pw_or (pt_cmpR op_ne (pe_callB call_len_seq (by rfl) T.b_len boot_len (pa_cons (pv 0) pa_nil)) pe_int (nomark _)) (pw_or1 (pt_not (pt_val (pe_cal c_are_claimants (hr.mono (by decide)) rfl (pa_cons (pe_ix ix_tup (pv 0) pe_int (fun _ _ => rfl)) (pa_cons (pe_glob rfl T.MOST_CLAIMANTS.choose_spec ⟨_, rfl⟩) pa_nil))))))))) (pss_one (ps_ret pe_bl))
      pss_nil)
    (pss_one (ps_ret (pe_and (pe_cal c_are_claimants (hr.mono (by decide)) rfl (pa_cons (pe_ix ix_tup (pv 0) pe_int (fun _ _ => rfl)) (pa_cons (pe_glob rfl T.MOST_CLAIMANTS.choose_spec ⟨_, rfl⟩) pa_nil))) (pe_one (pe_cmpR op_gt (pe_callB call_len_seq (by rfl) T.b_len boot_len (pa_cons (pe_ix ix_tup (pv 0) pe_int (fun _ _ => rfl)) pa_nil)) pe_int (nomark _)))))))
/-! ### check_running -/
abbrev st_check_running : Stmt := (top 58)
abbrev N_check_running : List Str := ["thing"]
theorem sc_check_running : FnScope N_check_running ["thing"] (defScope st_check_running) := ⟨rfl, rfl, rfl, by decide +kernel, rfl, by decide +kernel, by decide +kernel⟩
def t_check_running (K : PySem.W.Frag) : TS :=
  (tIfS (tNot (tB (tCall (sp_is_running K) [] E0 (tCons (tVar 0) tNil)))) tNever
      tNext)
theorem dv_check_running (T : Txt K mg aNOUGHT aONE) (c_is_running : Cal P w K mg base 4 "is_running" ["thing"] (sp_is_running K)) {f : Addr} {cdv : Value} {A : Around} {outer : List Env} {s : Shared} {H : Hp} {E : XK} (hr : Room 4 (A.deeper (envOfC "check_running" (defScope st_check_running) s.heap.objs.size f cdv))) :
    PSs (cxOf CX0 P w K mg base N_check_running "check_running" (defScope st_check_running) f cdv A outer s H E).nox (defBody st_check_running) (t_check_running K) :=
  (pss_one (ps_if (pt_not (pt_val (pe_cal c_is_running (hr.mono (by decide)) rfl (pa_cons (pv 0) pa_nil)))) pss_never
      pss_nil))
/-! ### check_claimant -/
abbrev st_check_claimant : Stmt := (top 59)
abbrev N_check_claimant : List Str := ["thing", "many"]
theorem sc_check_claimant : FnScope N_check_claimant ["thing", "many"] (defScope st_check_claimant) := ⟨rfl, rfl, rfl, by decide +kernel, rfl, by decide +kernel, by decide +kernel⟩
def t_check_claimant : TS :=
  (tIfS (tNot (tB (tCall (sp_is_within) [] E0 (tCons (tVar 0) (tCons (tC (.int 0)) (tCons (tOp rSubI (tVar 1) (tC (.int 1))) tNil)))))) tNever
      tNext)
theorem dv_check_claimant (T : Txt K mg aNOUGHT aONE) (c_is_within : Cal P w K mg base 2 "is_within" ["thing", "low", "high"] (sp_is_within)) {f : Addr} {cdv : Value} {A : Around} {outer : List Env} {s : Shared} {H : Hp} {E : XK} (hr : Room 2 (A.deeper (envOfC "check_claimant" (defScope st_check_claimant) s.heap.objs.size f cdv))) :
    PSs (cxOf CX0 P w K mg base N_check_claimant "check_claimant" (defScope st_check_claimant) f cdv A outer s H E).nox (defBody st_check_claimant) (t_check_claimant) :=
  (pss_one (ps_if (pt_not (pt_val (pe_cal c_is_within (hr.mono (by decide)) rfl (pa_cons (pv 0) (pa_cons pe_int (pa_cons (pe_op op_sub (pv 1) pe_int) pa_nil)))))) pss_never
      pss_nil))
/-! ### check_number -/
abbrev st_check_number : Stmt := (top 60)
abbrev N_check_number : List Str := ["thing", "low"]
theorem sc_check_number : FnScope N_check_number ["thing", "low"] (defScope st_check_number) := ⟨rfl, rfl, rfl, by decide +kernel, rfl, by decide +kernel, by decide +kernel⟩
def t_check_number : TS :=
  (tIfS (tNot (tB (tCall (sp_is_within) [] E0 (tCons (tVar 0) (tCons (tVar 1) (tCons (tC (.int FARI)) tNil)))))) tNever
      tNext)
theorem dv_check_number (T : Txt K mg aNOUGHT aONE) (c_is_within : Cal P w K mg base 2 "is_within" ["thing", "low", "high"] (sp_is_within)) {f : Addr} {cdv : Value} {A : Around} {outer : List Env} {s : Shared} {H : Hp} {E : XK} (hr : Room 2 (A.deeper (envOfC "check_number" (defScope st_check_number) s.heap.objs.size f cdv))) :
    PSs (cxOf CX0 P w K mg base N_check_number "check_number" (defScope st_check_number) f cdv A outer s H E).nox (defBody st_check_number) (t_check_number) :=
  (pss_one (ps_if (pt_not (pt_val (pe_cal c_is_within (hr.mono (by decide)) rfl (pa_cons (pv 0) (pa_cons (pv 1) (pa_cons (pe_glob rfl T.FAR.choose_spec ⟨_, rfl⟩) pa_nil)))))) pss_never
      pss_nil))
/-! ### count_in -/
abbrev st_count_in : Stmt := (top 61)
abbrev N_count_in : List Str := ["running", "one", "turns", "left", "head", "lap"]
theorem sc_count_in : FnScope N_count_in ["running", "one", "turns"] (defScope st_count_in) := ⟨rfl, rfl, rfl, by decide +kernel, rfl, by decide +kernel, by decide +kernel⟩
def t_count_in (K : PySem.W.Frag) : TS :=
  (tSeq (tAsg (tVar 0) (gTup K 2 (gCons (gName 4) (gCons (gName 5) gNil))))
    (tSeq (tIfS (tTest (tOp rLeI (tVar 2) (tCB (rLenS K) (tCons (tVar 4) tNil)))) (tRet (tBM K "list" (rCntI K) (tSl (rSlL K) (tVar 4) tNoPart (tPart (tVar 2))) (tCons (tVar 1) tNil)))
      tNext)
    (tSeq (tAsg (tOp rSubI (tVar 2) (tCB (rLenS K) (tCons (tVar 4) tNil))) (gName 3))
    (tRet (tOp rAddI (tOp rAddI (tBM K "list" (rCntI K) (tVar 4) (tCons (tVar 1) tNil)) (tOp rMulI (tOp rDivI (tVar 3) (tCB (rLenS K) (tCons (tVar 5) tNil))) (tBM K "list" (rCntI K) (tVar 5) (tCons (tVar 1) tNil)))) (tBM K "list" (rCntI K) (tSl (rSlL K) (tVar 5) tNoPart (tPart (tOp rModI (tVar 3) (tCB (rLenS K) (tCons (tVar 5) tNil))))) (tCons (tVar 1) tNil)))))))
theorem dv_count_in (T : Txt K mg aNOUGHT aONE)  {f : Addr} {cdv : Value} {A : Around} {outer : List Env} {s : Shared} {H : Hp} {E : XK} (hr : Room 0 (A.deeper (envOfC "count_in" (defScope st_count_in) s.heap.objs.size f cdv))) :
    PSs (cxOf CX0 P w K mg base N_count_in "count_in" (defScope st_count_in) f cdv A outer s H E).nox (defBody st_count_in) (t_count_in K) :=
  (pss_cons (ps_asg (pv 0) (pg_tup rfl (pgs_cons (pg_name (i := 4) sc_count_in.nd rfl (by first | exact Or.inl rfl | exact Or.inr rfl)) (pgs_cons (pg_name (i := 5) sc_count_in.nd rfl (by first | exact Or.inl rfl | exact Or.inr rfl)) pgs_nil))))
    (pss_cons (ps_if (pt_cmpR op_le (pv 2) (pe_callB call_len_seq (by rfl) T.b_len boot_len (pa_cons (pv 4) pa_nil)) (nomark _)) (pss_one (ps_ret (pe_bm PySem.F.plainAttrs_list PySem.F.slot_list_count PySem.F.type_list_count mt_lcount (pe_slice sl_list (pv 4) po_none (po_some (pv 2))) (pa_cons (pv 1) pa_nil))))
      pss_nil)
    (pss_cons (ps_set (i := 3) sc_count_in.nd rfl (by first | exact Or.inl rfl | exact Or.inr rfl) (pe_op op_sub (pv 2) (pe_callB call_len_seq (by rfl) T.b_len boot_len (pa_cons (pv 4) pa_nil))))
    (pss_one (ps_ret (pe_op op_add (pe_op op_add (pe_bm PySem.F.plainAttrs_list PySem.F.slot_list_count PySem.F.type_list_count mt_lcount (pv 4) (pa_cons (pv 1) pa_nil)) (pe_op op_mul (pe_op op_fdiv (pv 3) (pe_callB call_len_seq (by rfl) T.b_len boot_len (pa_cons (pv 5) pa_nil))) (pe_bm PySem.F.plainAttrs_list PySem.F.slot_list_count PySem.F.type_list_count mt_lcount (pv 5) (pa_cons (pv 1) pa_nil)))) (pe_bm PySem.F.plainAttrs_list PySem.F.slot_list_count PySem.F.type_list_count mt_lcount (pe_slice sl_list (pv 5) po_none (po_some (pe_op op_mod (pv 3) (pe_callB call_len_seq (by rfl) T.b_len boot_len (pa_cons (pv 5) pa_nil))))) (pa_cons (pv 1) pa_nil))))))))
/-! ### count_at -/
abbrev st_count_at : Stmt := (top 62)
abbrev N_count_at : List Str := ["running", "one", "turns"]
theorem sc_count_at : FnScope N_count_at ["running", "one", "turns"] (defScope st_count_at) := ⟨rfl, rfl, rfl, by decide +kernel, rfl, by decide +kernel, by decide +kernel⟩
def t_count_at (K : PySem.W.Frag) : TS :=
  (tSeq (tDrop (tCall (sp_check_running K) [] E0 (tCons (tVar 0) tNil)))
    (tSeq (tDrop (tCall (sp_check_claimant) [] E0 (tCons (tVar 1) (tCons (tC (.int 6)) tNil))))
    (tSeq (tDrop (tCall (sp_check_number) [] E0 (tCons (tVar 2) (tCons (tC (.int 0)) tNil))))
    (tRet (tCall (sp_count_in K) [] E0 (tCons (tVar 0) (tCons (tVar 1) (tCons (tVar 2) tNil))))))))
theorem dv_count_at (T : Txt K mg aNOUGHT aONE) (c_count_in : Cal P w K mg base 1 "count_in" ["running", "one", "turns"] (sp_count_in K)) (c_check_number : Cal P w K mg base 3 "check_number" ["thing", "low"] (sp_check_number)) (c_check_claimant : Cal P w K mg base 3 "check_claimant" ["thing", "many"] (sp_check_claimant)) (c_check_running : Cal P w K mg base 5 "check_running" ["thing"] (sp_check_running K)) {f : Addr} {cdv : Value} {A : Around} {outer : List Env} {s : Shared} {H : Hp} {E : XK} (hr : Room 5 (A.deeper (envOfC "count_at" (defScope st_count_at) s.heap.objs.size f cdv))) :
    PSs (cxOf CX0 P w K mg base N_count_at "count_at" (defScope st_count_at) f cdv A outer s H E).nox (defBody st_count_at) (t_count_at K) :=
  (pss_cons (ps_expr (pe_cal c_check_running (hr.mono (by decide)) rfl (pa_cons (pv 0) pa_nil)))
    (pss_cons (ps_expr (pe_cal c_check_claimant (hr.mono (by decide)) rfl (pa_cons (pv 1) (pa_cons (pe_glob rfl T.MOST_CLAIMANTS.choose_spec ⟨_, rfl⟩) pa_nil))))
    (pss_cons (ps_expr (pe_cal c_check_number (hr.mono (by decide)) rfl (pa_cons (pv 2) (pa_cons pe_int pa_nil))))
    (pss_one (ps_ret (pe_cal c_count_in (hr.mono (by decide)) rfl (pa_cons (pv 0) (pa_cons (pv 1) (pa_cons (pv 2) pa_nil)))))))))
/-! ### root_of -/
abbrev st_root_of : Stmt := (top 63)
abbrev N_root_of : List Str := ["lap", "size"]
theorem sc_root_of : FnScope N_root_of ["lap"] (defScope st_root_of) := ⟨rfl, rfl, rfl, by decide +kernel, rfl, by decide +kernel, by decide +kernel⟩
def t_root_of (K : PySem.W.Frag) : TS :=
  (tSeq (tAsg (tC (.int 1)) (gName 1))
    (tSeq (tWhile (tTest (tOp (rNeD K) (tOp rRep (tSl (rSlL K) (tVar 0) tNoPart (tPart (tVar 1))) (tOp rDivI (tCB (rLenS K) (tCons (tVar 0) tNil)) (tVar 1))) (tVar 0)))
      (tAug 1 (tC (.int 1)) (ipI fun i j => i + j)))
    (tRet (tSl (rSlL K) (tVar 0) tNoPart (tPart (tVar 1))))))
theorem dv_root_of (T : Txt K mg aNOUGHT aONE)  {f : Addr} {cdv : Value} {A : Around} {outer : List Env} {s : Shared} {H : Hp} {E : XK} (hr : Room 0 (A.deeper (envOfC "root_of" (defScope st_root_of) s.heap.objs.size f cdv))) :
    PSs (cxOf CX0 P w K mg base N_root_of "root_of" (defScope st_root_of) f cdv A outer s H E).nox (defBody st_root_of) (t_root_of K) :=
  (pss_cons (ps_set (i := 1) sc_root_of.nd rfl (by first | exact Or.inl rfl | exact Or.inr rfl) pe_int)
    (pss_cons (ps_while PassesOwn.never (pt_cmpR (op_neD hr.units) (pe_op op_rep (pe_slice sl_list (pv 0) po_none (po_some (pv 1))) (pe_op op_fdiv (pe_callB call_len_seq (by rfl) T.b_len boot_len (pa_cons (pv 0) pa_nil)) (pv 1))) (pv 0) (nomark _))
      (pss_one (ps_aug (i := 1) sc_root_of.nd rfl (by first | exact Or.inl rfl | exact Or.inr rfl) pe_int ip_add)))
    (pss_one (ps_ret (pe_slice sl_list (pv 0) po_none (po_some (pv 1)))))))
/-! ### least_of -/
abbrev st_least_of : Stmt := (top 64)
abbrev N_least_of : List Str := ["running", "head", "lap"]
theorem sc_least_of : FnScope N_least_of ["running"] (defScope st_least_of) := ⟨rfl, rfl, rfl, by decide +kernel, rfl, by decide +kernel, by decide +kernel⟩
def t_least_of (K : PySem.W.Frag) : TS :=
  (tSeq (tDrop (tCall (sp_check_running K) [] E0 (tCons (tVar 0) tNil)))
    (tSeq (tAsg (tCB (rListS K) (tCons (tOp (rIxT K) (tVar 0) (tC (.int 0))) tNil)) (gName 1))
    (tSeq (tAsg (tCall (sp_root_of) [] E0 (tCons (tCB (rListS K) (tCons (tOp (rIxT K) (tVar 0) (tC (.int 1))) tNil)) tNil)) (gName 2))
    (tSeq (tWhile (tAnd (tTest (tOp (rNeD K) (tVar 1) (tLst tNil))) (tTest (tOp (rEqD K) (tOp (rIxL K) (tVar 1) (tUn rNegI (tC (.int 1)))) (tOp (rIxL K) (tVar 2) (tUn rNegI (tC (.int 1)))))))
      tNever)
    (tRet (tTup (tCons (tVar 1) (tCons (tVar 2) tNil))))))))
theorem dv_least_of (T : Txt K mg aNOUGHT aONE) (c_root_of : Cal P w K mg base 1 "root_of" ["lap"] (sp_root_of)) (c_check_running : Cal P w K mg base 5 "check_running" ["thing"] (sp_check_running K)) {f : Addr} {cdv : Value} {A : Around} {outer : List Env} {s : Shared} {H : Hp} {E : XK} (hr : Room 5 (A.deeper (envOfC "least_of" (defScope st_least_of) s.heap.objs.size f cdv))) :
    PSs (cxOf CX0 P w K mg base N_least_of "least_of" (defScope st_least_of) f cdv A outer s H E).nox (defBody st_least_of) (t_least_of K) :=
  (pss_cons (ps_expr (pe_cal c_check_running (hr.mono (by decide)) rfl (pa_cons (pv 0) pa_nil)))
    (pss_cons (ps_set (i := 1) sc_least_of.nd rfl (by first | exact Or.inl rfl | exact Or.inr rfl) (pe_callTy call_list_of (by rfl) T.b_list (by decide +kernel) (pa_cons (pe_ix ix_tup (pv 0) pe_int (fun _ _ => rfl)) pa_nil)))
    (pss_cons (ps_set (i := 2) sc_least_of.nd rfl (by first | exact Or.inl rfl | exact Or.inr rfl) (pe_cal c_root_of (hr.mono (by decide)) rfl (pa_cons (pe_callTy call_list_of (by rfl) T.b_list (by decide +kernel) (pa_cons (pe_ix ix_tup (pv 0) pe_int (fun _ _ => rfl)) pa_nil)) pa_nil)))
    (pss_cons (ps_while PassesOwn.never (PW.pt (pw_and (pt_cmpR (op_neD hr.units) (pv 1) (pe_lst pa_nil) (nomark _)) (pw_and1 (pt_cmpR (op_eqD hr.units) (pe_ix ix_list (pv 1) (pe_un un_neg pe_int) (fun _ _ => rfl)) (pe_ix ix_list (pv 2) (pe_un un_neg pe_int) (fun _ _ => rfl)) (nomark _)))))
      pss_never)
    (pss_one (ps_ret (pe_tup (pa_cons (pv 1) (pa_cons (pv 2) pa_nil)))))))))
end
end Dt
set_option Elab.async false
set_option linter.all false
set_option maxRecDepth 100000
set_option maxHeartbeats 4000000
/-! Printed by gen.py: each def's place, names, reading and derivation. -/
namespace Dt
open PySem PySem.Spec PyProof.Rows L2 Evl DtM
section
variable {P : Program} {w : World} {K : PySem.W.Frag} {mg : Str → Option Value} {base : Heap} {aNOUGHT aONE cPlan cCredits : Addr}
/-! ### check_weights -/
abbrev st_check_weights : Stmt := (top 66)
abbrev N_check_weights : List Str := ["thing"]
theorem sc_check_weights : FnScope N_check_weights ["thing"] (defScope st_check_weights) := ⟨rfl, rfl, rfl, by decide +kernel, rfl, by decide +kernel, by decide +kernel⟩
def t_check_weights : TS :=
  (tIfS (tNot (tB (tCall (sp_are_weights) [] E0 (tCons (tVar 0) tNil)))) tNever
      tNext)
theorem dv_check_weights (T : Txt K mg aNOUGHT aONE) (c_are_weights : Cal P w K mg base 2 "are_weights" ["thing"] (sp_are_weights)) {f : Addr} {cdv : Value} {A : Around} {outer : List Env} {s : Shared} {H : Hp} {E : XK} (hr : Room 2 (A.deeper (envOfC "check_weights" (defScope st_check_weights) s.heap.objs.size f cdv))) :
    PSs (cxOf CX0 P w K mg base N_check_weights "check_weights" (defScope st_check_weights) f cdv A outer s H E).nox (defBody st_check_weights) (t_check_weights) :=
  (pss_one (ps_if (pt_not (pt_val (pe_cal c_are_weights (hr.mono (by decide)) rfl (pa_cons (pv 0) pa_nil)))) pss_never
      pss_nil))
/-! ### check_among -/
abbrev st_check_among : Stmt := (top 67)
abbrev N_check_among : List Str := ["weights", "running"]
theorem sc_check_among : FnScope N_check_among ["weights", "running"] (defScope st_check_among) := ⟨rfl, rfl, rfl, by decide +kernel, rfl, by decide +kernel, by decide +kernel⟩
def t_check_among (K : PySem.W.Frag) : TS :=
  (tSeq (tDrop (tCall (sp_check_weights) [] E0 (tCons (tVar 0) tNil)))
    (tSeq (tDrop (tCall (sp_check_running K) [] E0 (tCons (tVar 1) tNil)))
    (tIfS (tTest (tOp rGeI (tCB (rMax K) (tCons (tOp rCat (tOp (rIxT K) (tVar 1) (tC (.int 0))) (tOp (rIxT K) (tVar 1) (tC (.int 1)))) tNil)) (tCB (rLenS K) (tCons (tVar 0) tNil)))) tNever
      tNext)))
theorem dv_check_among (T : Txt K mg aNOUGHT aONE) (c_check_running : Cal P w K mg base 5 "check_running" ["thing"] (sp_check_running K)) (c_check_weights : Cal P w K mg base 3 "check_weights" ["thing"] (sp_check_weights)) {f : Addr} {cdv : Value} {A : Around} {outer : List Env} {s : Shared} {H : Hp} {E : XK} (hr : Room 5 (A.deeper (envOfC "check_among" (defScope st_check_among) s.heap.objs.size f cdv))) :
    PSs (cxOf CX0 P w K mg base N_check_among "check_among" (defScope st_check_among) f cdv A outer s H E).nox (defBody st_check_among) (t_check_among K) :=
  (pss_cons (ps_expr (pe_cal c_check_weights (hr.mono (by decide)) rfl (pa_cons (pv 0) pa_nil)))
    (pss_cons (ps_expr (pe_cal c_check_running (hr.mono (by decide)) rfl (pa_cons (pv 1) pa_nil)))
    (pss_one (ps_if (pt_cmpR op_ge (pe_callB (cr_max rfl) (by rfl) T.b_max (by decide +kernel) (pa_cons (pe_op op_cat (pe_ix ix_tup (pv 1) pe_int (fun _ _ => rfl)) (pe_ix ix_tup (pv 1) pe_int (fun _ _ => rfl))) pa_nil)) (pe_callB call_len_seq (by rfl) T.b_len boot_len (pa_cons (pv 0) pa_nil)) (nomark _)) pss_never
      pss_nil))))
/-! ### lag_of -/
abbrev st_lag_of : Stmt := (top 68)
abbrev N_lag_of : List Str := ["weights", "running", "who", "turns"]
theorem sc_lag_of : FnScope N_lag_of ["weights", "running", "who", "turns"] (defScope st_lag_of) := ⟨rfl, rfl, rfl, by decide +kernel, rfl, by decide +kernel, by decide +kernel⟩
def t_lag_of (K : PySem.W.Frag) : TS :=
  (tRet (tCall (sp_minus K) [] E0 (tCons (tCall (sp_made K) [] E0 (tCons (tOp rMulI (tVar 3) (tOp (rIxL K) (tVar 0) (tVar 2))) (tCons (tCB (rSum K) (tCons (tVar 0) tNil)) tNil))) (tCons (tTup (tCons (tCall (sp_count_in K) [] E0 (tCons (tVar 1) (tCons (tVar 2) (tCons (tVar 3) tNil)))) (tCons (tC (.int 1)) tNil))) tNil))))
theorem dv_lag_of (T : Txt K mg aNOUGHT aONE) (c_count_in : Cal P w K mg base 1 "count_in" ["running", "one", "turns"] (sp_count_in K)) (c_made : Cal P w K mg base 2 "made" ["top", "bottom"] (sp_made K)) (c_minus : Cal P w K mg base 3 "minus" ["one", "other"] (sp_minus K)) {f : Addr} {cdv : Value} {A : Around} {outer : List Env} {s : Shared} {H : Hp} {E : XK} (hr : Room 3 (A.deeper (envOfC "lag_of" (defScope st_lag_of) s.heap.objs.size f cdv))) :
    PSs (cxOf CX0 P w K mg base N_lag_of "lag_of" (defScope st_lag_of) f cdv A outer s H E).nox (defBody st_lag_of) (t_lag_of K) :=
  (pss_one (ps_ret (pe_cal c_minus (hr.mono (by decide)) rfl (pa_cons (pe_cal c_made (hr.mono (by decide)) rfl (pa_cons (pe_op op_mul (pv 3) (pe_ix ix_list (pv 0) (pv 2) (fun _ _ => rfl))) (pa_cons (pe_callB (cr_sum rfl) (by rfl) T.b_sum (by decide +kernel) (pa_cons (pv 0) pa_nil)) pa_nil))) (pa_cons (pe_tup (pa_cons (pe_cal c_count_in (hr.mono (by decide)) rfl (pa_cons (pv 1) (pa_cons (pv 2) (pa_cons (pv 3) pa_nil)))) (pa_cons pe_int pa_nil))) pa_nil)))))
/-! ### drift_of -/
abbrev st_drift_of : Stmt := (top 69)
abbrev N_drift_of : List Str := ["weights", "running", "who", "lap"]
theorem sc_drift_of : FnScope N_drift_of ["weights", "running", "who"] (defScope st_drift_of) := ⟨rfl, rfl, rfl, by decide +kernel, rfl, by decide +kernel, by decide +kernel⟩
def t_drift_of (K : PySem.W.Frag) : TS :=
  (tSeq (tAsg (tOp (rIxT K) (tVar 1) (tC (.int 1))) (gName 3))
    (tRet (tCall (sp_minus K) [] E0 (tCons (tCall (sp_made K) [] E0 (tCons (tOp rMulI (tCB (rLenS K) (tCons (tVar 3) tNil)) (tOp (rIxL K) (tVar 0) (tVar 2))) (tCons (tCB (rSum K) (tCons (tVar 0) tNil)) tNil))) (tCons (tTup (tCons (tBM K "list" (rCntI K) (tVar 3) (tCons (tVar 2) tNil)) (tCons (tC (.int 1)) tNil))) tNil)))))
theorem dv_drift_of (T : Txt K mg aNOUGHT aONE) (c_made : Cal P w K mg base 2 "made" ["top", "bottom"] (sp_made K)) (c_minus : Cal P w K mg base 3 "minus" ["one", "other"] (sp_minus K)) {f : Addr} {cdv : Value} {A : Around} {outer : List Env} {s : Shared} {H : Hp} {E : XK} (hr : Room 3 (A.deeper (envOfC "drift_of" (defScope st_drift_of) s.heap.objs.size f cdv))) :
    PSs (cxOf CX0 P w K mg base N_drift_of "drift_of" (defScope st_drift_of) f cdv A outer s H E).nox (defBody st_drift_of) (t_drift_of K) :=
  (pss_cons (ps_set (i := 3) sc_drift_of.nd rfl (by first | exact Or.inl rfl | exact Or.inr rfl) (pe_ix ix_tup (pv 1) pe_int (fun _ _ => rfl)))
    (pss_one (ps_ret (pe_cal c_minus (hr.mono (by decide)) rfl (pa_cons (pe_cal c_made (hr.mono (by decide)) rfl (pa_cons (pe_op op_mul (pe_callB call_len_seq (by rfl) T.b_len boot_len (pa_cons (pv 3) pa_nil)) (pe_ix ix_list (pv 0) (pv 2) (fun _ _ => rfl))) (pa_cons (pe_callB (cr_sum rfl) (by rfl) T.b_sum (by decide +kernel) (pa_cons (pv 0) pa_nil)) pa_nil))) (pa_cons (pe_tup (pa_cons (pe_bm PySem.F.plainAttrs_list PySem.F.slot_list_count PySem.F.type_list_count mt_lcount (pv 3) (pa_cons (pv 2) pa_nil)) (pa_cons pe_int pa_nil))) pa_nil))))))
/-! ### ends_of -/
abbrev st_ends_of : Stmt := (top 70)
abbrev N_ends_of : List Str := ["weights", "running", "who", "low", "high", "low_at", "high_at", "turns", "far"]
theorem sc_ends_of : FnScope N_ends_of ["weights", "running", "who"] (defScope st_ends_of) := ⟨rfl, rfl, rfl, by decide +kernel, rfl, by decide +kernel, by decide +kernel⟩
def t_ends_of (K : PySem.W.Frag) (aNOUGHT : Addr) : TS :=
  (tSeq (tAsg (tC (.ref aNOUGHT)) (gName 3))
    (tSeq (tAsg (tC (.ref aNOUGHT)) (gName 4))
    (tSeq (tAsg (tC (.int 0)) (gName 5))
    (tSeq (tAsg (tC (.int 0)) (gName 6))
    (tSeq (tFor (iRng1 (tCons (tOp rAddI (tCB (rLenS K) (tCons (tOp (rIxT K) (tVar 1) (tC (.int 0))) tNil)) (tCB (rLenS K) (tCons (tOp (rIxT K) (tVar 1) (tC (.int 1))) tNil))) tNil)) (gName 7)
      (tSeq (tAsg (tCall (sp_lag_of K) [] E0 (tCons (tVar 0) (tCons (tVar 1) (tCons (tVar 2) (tCons (tVar 7) tNil))))) (gName 8))
    (tSeq (tIfS (tB (tCall (sp_less K) [] E0 (tCons (tVar 8) (tCons (tVar 3) tNil)))) (tSeq (tAsg (tVar 8) (gName 3))
    (tAsg (tVar 7) (gName 5)))
      tNext)
    (tIfS (tB (tCall (sp_less K) [] E0 (tCons (tVar 4) (tCons (tVar 8) tNil)))) (tSeq (tAsg (tVar 8) (gName 4))
    (tAsg (tVar 7) (gName 6)))
      tNext))))
    (tRet (tTup (tCons (tVar 3) (tCons (tVar 5) (tCons (tVar 4) (tCons (tVar 6) tNil)))))))))))
theorem dv_ends_of (T : Txt K mg aNOUGHT aONE) (c_less : Cal P w K mg base 1 "less" ["one", "other"] (sp_less K)) (c_lag_of : Cal P w K mg base 4 "lag_of" ["weights", "running", "who", "turns"] (sp_lag_of K)) {f : Addr} {cdv : Value} {A : Around} {outer : List Env} {s : Shared} {H : Hp} {E : XK} (hr : Room 4 (A.deeper (envOfC "ends_of" (defScope st_ends_of) s.heap.objs.size f cdv))) :
    PSs (cxOf CX0 P w K mg base N_ends_of "ends_of" (defScope st_ends_of) f cdv A outer s H E).nox (defBody st_ends_of) (t_ends_of K aNOUGHT) :=
  (pss_cons (ps_set (i := 3) sc_ends_of.nd rfl (by first | exact Or.inl rfl | exact Or.inr rfl) (pe_glob rfl T.NOUGHT rfl))
    (pss_cons (ps_set (i := 4) sc_ends_of.nd rfl (by first | exact Or.inl rfl | exact Or.inr rfl) (pe_glob rfl T.NOUGHT rfl))
    (pss_cons (ps_set (i := 5) sc_ends_of.nd rfl (by first | exact Or.inl rfl | exact Or.inr rfl) pe_int)
    (pss_cons (ps_set (i := 6) sc_ends_of.nd rfl (by first | exact Or.inl rfl | exact Or.inr rfl) pe_int)
    (pss_cons (ps_for PassesOwn.never rfl (pi_range1 (by rfl) T.b_range (pa_cons (pe_op op_add (pe_callB call_len_seq (by rfl) T.b_len boot_len (pa_cons (pe_ix ix_tup (pv 1) pe_int (fun _ _ => rfl)) pa_nil)) (pe_callB call_len_seq (by rfl) T.b_len boot_len (pa_cons (pe_ix ix_tup (pv 1) pe_int (fun _ _ => rfl)) pa_nil))) pa_nil)) (pg_name (i := 7) sc_ends_of.nd rfl (by first | exact Or.inl rfl | exact Or.inr rfl))
      (pss_cons (ps_set (i := 8) sc_ends_of.nd rfl (by first | exact Or.inl rfl | exact Or.inr rfl) (pe_cal c_lag_of (hr.mono (by decide)) rfl (pa_cons (pv 0) (pa_cons (pv 1) (pa_cons (pv 2) (pa_cons (pv 7) pa_nil))))))
    (pss_cons (ps_if (pt_val (pe_cal c_less (hr.mono (by decide)) rfl (pa_cons (pv 8) (pa_cons (pv 3) pa_nil)))) (pss_cons (ps_set (i := 3) sc_ends_of.nd rfl (by first | exact Or.inl rfl | exact Or.inr rfl) (pv 8))
    (pss_one (ps_set (i := 5) sc_ends_of.nd rfl (by first | exact Or.inl rfl | exact Or.inr rfl) (pv 7))))
      pss_nil)
    (pss_one (ps_if (pt_val (pe_cal c_less (hr.mono (by decide)) rfl (pa_cons (pv 4) (pa_cons (pv 8) pa_nil)))) (pss_cons (ps_set (i := 4) sc_ends_of.nd rfl (by first | exact Or.inl rfl | exact Or.inr rfl) (pv 8))
    (pss_one (ps_set (i := 6) sc_ends_of.nd rfl (by first | exact Or.inl rfl | exact Or.inr rfl) (pv 7))))
      pss_nil)))))
    (pss_one (ps_ret (pe_tup (pa_cons (pv 3) (pa_cons (pv 5) (pa_cons (pv 4) (pa_cons (pv 6) pa_nil))))))))))))
/-! ### lags_of -/
abbrev st_lags_of : Stmt := (top 71)
abbrev N_lags_of : List Str := ["weights", "running", "found", "who", "drift"]
theorem sc_lags_of : FnScope N_lags_of ["weights", "running"] (defScope st_lags_of) := ⟨rfl, rfl, rfl, by decide +kernel, rfl, by decide +kernel, by decide +kernel⟩
def t_lags_of (K : PySem.W.Frag) (aNOUGHT : Addr) : TS :=
  (tSeq (tDrop (tCall (sp_check_among K) [] E0 (tCons (tVar 0) (tCons (tVar 1) tNil))))
    (tSeq (tAsg (tLst tNil) (gName 2))
    (tSeq (tFor (iRng1 (tCons (tCB (rLenS K) (tCons (tVar 0) tNil)) tNil)) (gName 3)
      (tSeq (tAsg (tCall (sp_drift_of K) [] E0 (tCons (tVar 0) (tCons (tVar 1) (tCons (tVar 3) tNil)))) (gName 4))
    (tIfS (tTest (tOp (rEqD K) (tVar 4) (tC (.ref aNOUGHT)))) (tDrop (tBM K "list" rAppend (tVar 2) (tCons (tOp (rCatT K) (tTup (tCons (tC (.str "within")) tNil)) (tCall (sp_ends_of K) [] E0 (tCons (tVar 0) (tCons (tVar 1) (tCons (tVar 3) tNil))))) tNil)))
      tNever)))
    (tRet (tVar 2)))))
theorem dv_lags_of (T : Txt K mg aNOUGHT aONE) (c_ends_of : Cal P w K mg base 5 "ends_of" ["weights", "running", "who"] (sp_ends_of K)) (c_drift_of : Cal P w K mg base 4 "drift_of" ["weights", "running", "who"] (sp_drift_of K)) (c_check_among : Cal P w K mg base 6 "check_among" ["weights", "running"] (sp_check_among K)) {f : Addr} {cdv : Value} {A : Around} {outer : List Env} {s : Shared} {H : Hp} {E : XK} (hr : Room 6 (A.deeper (envOfC "lags_of" (defScope st_lags_of) s.heap.objs.size f cdv))) :
    PSs (cxOf CX0 P w K mg base N_lags_of "lags_of" (defScope st_lags_of) f cdv A outer s H E).nox (defBody st_lags_of) (t_lags_of K aNOUGHT) :=
  (pss_cons (ps_expr (pe_cal c_check_among (hr.mono (by decide)) rfl (pa_cons (pv 0) (pa_cons (pv 1) pa_nil))))
    (pss_cons (ps_set (i := 2) sc_lags_of.nd rfl (by first | exact Or.inl rfl | exact Or.inr rfl) (pe_lst pa_nil))
    (pss_cons (ps_for PassesOwn.never rfl (pi_range1 (by rfl) T.b_range (pa_cons (pe_callB call_len_seq (by rfl) T.b_len boot_len (pa_cons (pv 0) pa_nil)) pa_nil)) (pg_name (i := 3) sc_lags_of.nd rfl (by first | exact Or.inl rfl | exact Or.inr rfl))
      (pss_cons (ps_set (i := 4) sc_lags_of.nd rfl (by first | exact Or.inl rfl | exact Or.inr rfl) (pe_cal c_drift_of (hr.mono (by decide)) rfl (pa_cons (pv 0) (pa_cons (pv 1) (pa_cons (pv 3) pa_nil)))))
    (pss_one (ps_if (pt_cmpR (op_eqD hr.units) (pv 4) (pe_glob rfl T.NOUGHT rfl) (nomark _)) (pss_one (ps_expr (pe_bm PySem.F.plainAttrs_list PySem.F.slot_list_append PySem.F.type_list_append mt_append (pv 2) (pa_cons (pe_op op_catT (pe_tup (pa_cons pe_str pa_nil)) (pe_cal c_ends_of (hr.mono (by decide)) rfl (pa_cons (pv 0) (pa_cons (pv 1) (pa_cons (pv 3) pa_nil))))) pa_nil))))
      pss_never))))
    (pss_one (ps_ret (pv 2))))))
/-! ### first_out -/
abbrev st_first_out : Stmt := (top 73)
abbrev N_first_out : List Str := ["weights", "running", "who", "bound", "head", "lap", "drift", "found", "turns", "far"]
theorem sc_first_out : FnScope N_first_out ["weights", "running", "who", "bound"] (defScope st_first_out) := ⟨rfl, rfl, rfl, by decide +kernel, rfl, by decide +kernel, by decide +kernel⟩
def t_first_out (K : PySem.W.Frag) (aNOUGHT : Addr) : TS :=
  (tSeq (tAsg (tOp (rIxT K) (tVar 1) (tC (.int 0))) (gName 4))
    (tSeq (tAsg (tOp (rIxT K) (tVar 1) (tC (.int 1))) (gName 5))
    (tSeq (tAsg (tCall (sp_drift_of K) [] E0 (tCons (tVar 0) (tCons (tVar 1) (tCons (tVar 2) tNil)))) (gName 6))
    (tSeq (tAsg (tLst tNil) (gName 7))
    (tSeq (tFor (iRng1 (tCons (tOp rAddI (tCB (rLenS K) (tCons (tVar 4) tNil)) (tCB (rLenS K) (tCons (tVar 5) tNil))) tNil)) (gName 8)
      (tSeq (tAsg (tCall (sp_lag_of K) [] E0 (tCons (tVar 0) (tCons (tVar 1) (tCons (tVar 2) (tCons (tVar 8) tNil))))) (gName 9))
    (tSeq (tIfS (tAnd (tTest (tOp rLtI (tVar 8) (tCB (rLenS K) (tCons (tVar 4) tNil)))) (tNot (tB (tCall (sp_lag_keeps K) [] E0 (tCons (tVar 3) (tCons (tVar 9) tNil)))))) tNever
      tNext)
    (tIfS (tAnd (tTest (tOp rGeI (tVar 8) (tCB (rLenS K) (tCons (tVar 4) tNil)))) (tOr (tTest (tOp (rNeD K) (tVar 6) (tC (.ref aNOUGHT)))) (tNot (tB (tCall (sp_lag_keeps K) [] E0 (tCons (tVar 3) (tCons (tVar 9) tNil))))))) tNever
      tNext))))
    (tSeq (tIfS (tTest (tOp (rEqD K) (tVar 7) (tLst tNil))) (tRet (tC .non))
      tNext)
    tNever))))))
theorem dv_first_out (T : Txt K mg aNOUGHT aONE) (c_lag_keeps : Cal P w K mg base 2 "lag_keeps" ["bound", "far"] (sp_lag_keeps K)) (c_lag_of : Cal P w K mg base 4 "lag_of" ["weights", "running", "who", "turns"] (sp_lag_of K)) (c_drift_of : Cal P w K mg base 4 "drift_of" ["weights", "running", "who"] (sp_drift_of K)) {f : Addr} {cdv : Value} {A : Around} {outer : List Env} {s : Shared} {H : Hp} {E : XK} (hr : Room 4 (A.deeper (envOfC "first_out" (defScope st_first_out) s.heap.objs.size f cdv))) :
    PSs (cxOf CX0 P w K mg base N_first_out "first_out" (defScope st_first_out) f cdv A outer s H E).nox (defBody st_first_out) (t_first_out K aNOUGHT) :=
  (pss_cons (ps_set (i := 4) sc_first_out.nd rfl (by first | exact Or.inl rfl | exact Or.inr rfl) (pe_ix ix_tup (pv 1) pe_int (fun _ _ => rfl)))
    (pss_cons (ps_set (i := 5) sc_first_out.nd rfl (by first | exact Or.inl rfl | exact Or.inr rfl) (pe_ix ix_tup (pv 1) pe_int (fun _ _ => rfl)))
    (pss_cons (ps_set (i := 6) sc_first_out.nd rfl (by first | exact Or.inl rfl | exact Or.inr rfl) (pe_cal c_drift_of (hr.mono (by decide)) rfl (pa_cons (pv 0) (pa_cons (pv 1) (pa_cons (pv 2) pa_nil)))))
    (pss_cons (ps_set (i := 7) sc_first_out.nd rfl (by first | exact Or.inl rfl | exact Or.inr rfl) (pe_lst pa_nil))
    (pss_cons (ps_for PassesOwn.never rfl (pi_range1 (by rfl) T.b_range (pa_cons (pe_op op_add (pe_callB call_len_seq (by rfl) T.b_len boot_len (pa_cons (pv 4) pa_nil)) (pe_callB call_len_seq (by rfl) T.b_len boot_len (pa_cons (pv 5) pa_nil))) pa_nil)) (pg_name (i := 8) sc_first_out.nd rfl (by first | exact Or.inl rfl | exact Or.inr rfl))
      (pss_cons (ps_set (i := 9) sc_first_out.nd rfl (by first | exact Or.inl rfl | exact Or.inr rfl) (pe_cal c_lag_of (hr.mono (by decide)) rfl (pa_cons (pv 0) (pa_cons (pv 1) (pa_cons (pv 2) (pa_cons (pv 8) pa_nil))))))
    (pss_cons (ps_if (PW.pt (pw_and (pt_cmpR op_lt (pv 8) (pe_callB call_len_seq (by rfl) T.b_len boot_len (pa_cons (pv 4) pa_nil)) (nomark _)) (pw_and1 (pt_not (pt_val (pe_cal c_lag_keeps (hr.mono (by decide)) rfl (pa_cons (pv 3) (pa_cons (pv 9) pa_nil)))))))) pss_never
      pss_nil)
    (pss_one (ps_if (PW.pt (pw_and (pt_cmpR op_ge (pv 8) (pe_callB call_len_seq (by rfl) T.b_len boot_len (pa_cons (pv 4) pa_nil)) (nomark _)) (pw_and1 (PW.pt (pw_or (pt_cmpR (op_neD hr.units) (pv 6) (pe_glob rfl T.NOUGHT rfl) (nomark _)) (pw_or1 (pt_not (pt_val (pe_cal c_lag_keeps (hr.mono (by decide)) rfl (pa_cons (pv 3) (pa_cons (pv 9) pa_nil))))))))))) pss_never
      pss_nil)))))
    (pss_cons (ps_if (pt_cmpR (op_eqD hr.units) (pv 7) (pe_lst pa_nil) (nomark _)) (pss_one (ps_ret pe_non))
      pss_nil)
    (pss_one ps_never)))))))
/-! ### broken_at -/
abbrev st_broken_at : Stmt := (top 74)
abbrev N_broken_at : List Str := ["weights", "running", "bound", "found", "who", "turns"]
theorem sc_broken_at : FnScope N_broken_at ["weights", "running", "bound"] (defScope st_broken_at) := ⟨rfl, rfl, rfl, by decide +kernel, rfl, by decide +kernel, by decide +kernel⟩
def t_broken_at (K : PySem.W.Frag) : TS :=
  (tSeq (tDrop (tCall (sp_check_among K) [] E0 (tCons (tVar 0) (tCons (tVar 1) tNil))))
    (tSeq (tDrop (tCall (sp_check_bound K) [] E0 (tCons (tVar 2) tNil)))
    (tSeq (tAsg (tLst tNil) (gName 3))
    (tSeq (tFor (iRng1 (tCons (tCB (rLenS K) (tCons (tVar 0) tNil)) tNil)) (gName 4)
      (tSeq (tAsg (tCall (sp_first_out K) [] E0 (tCons (tVar 0) (tCons (tVar 1) (tCons (tVar 4) (tCons (tVar 2) tNil))))) (gName 5))
    (tIfS (tTest (tOp rNotNo (tVar 5) (tC .non))) tNever
      tNext)))
    (tSeq (tIfS (tTest (tOp (rEqD K) (tVar 3) (tLst tNil))) (tRet (tC .non))
      tNext)
    tNever)))))
theorem dv_broken_at (T : Txt K mg aNOUGHT aONE) (c_first_out : Cal P w K mg base 5 "first_out" ["weights", "running", "who", "bound"] (sp_first_out K)) (c_check_bound : Cal P w K mg base 3 "check_bound" ["bound"] (sp_check_bound K)) (c_check_among : Cal P w K mg base 6 "check_among" ["weights", "running"] (sp_check_among K)) {f : Addr} {cdv : Value} {A : Around} {outer : List Env} {s : Shared} {H : Hp} {E : XK} (hr : Room 6 (A.deeper (envOfC "broken_at" (defScope st_broken_at) s.heap.objs.size f cdv))) :
    PSs (cxOf CX0 P w K mg base N_broken_at "broken_at" (defScope st_broken_at) f cdv A outer s H E).nox (defBody st_broken_at) (t_broken_at K) :=
  (pss_cons (ps_expr (pe_cal c_check_among (hr.mono (by decide)) rfl (pa_cons (pv 0) (pa_cons (pv 1) pa_nil))))
    (pss_cons (ps_expr (pe_cal c_check_bound (hr.mono (by decide)) rfl (pa_cons (pv 2) pa_nil)))
    (pss_cons (ps_set (i := 3) sc_broken_at.nd rfl (by first | exact Or.inl rfl | exact Or.inr rfl) (pe_lst pa_nil))
    (pss_cons (ps_for PassesOwn.never rfl (pi_range1 (by rfl) T.b_range (pa_cons (pe_callB call_len_seq (by rfl) T.b_len boot_len (pa_cons (pv 0) pa_nil)) pa_nil)) (pg_name (i := 4) sc_broken_at.nd rfl (by first | exact Or.inl rfl | exact Or.inr rfl))
      (pss_cons (ps_set (i := 5) sc_broken_at.nd rfl (by first | exact Or.inl rfl | exact Or.inr rfl) (pe_cal c_first_out (hr.mono (by decide)) rfl (pa_cons (pv 0) (pa_cons (pv 1) (pa_cons (pv 4) (pa_cons (pv 2) pa_nil))))))
    (pss_one (ps_if (pt_cmpR op_notN (pv 5) pe_non (nomark _)) pss_never
      pss_nil))))
    (pss_cons (ps_if (pt_cmpR (op_eqD hr.units) (pv 3) (pe_lst pa_nil) (nomark _)) (pss_one (ps_ret pe_non))
      pss_nil)
    (pss_one ps_never))))))
/-! ### round_of -/
abbrev st_round_of : Stmt := (top 75)
abbrev N_round_of : List Str := ["weights", "share", "weight"]
theorem sc_round_of : FnScope N_round_of ["weights"] (defScope st_round_of) := ⟨rfl, rfl, rfl, by decide +kernel, rfl, by decide +kernel, by decide +kernel⟩
def t_round_of (K : PySem.W.Frag) : TS :=
  (tSeq (tAsg (tC (.int 0)) (gName 1))
    (tSeq (tFor (iList K (tVar 0)) (gName 2)
      (tAsg (tCall (sp_common) [] E0 (tCons (tVar 1) (tCons (tVar 2) tNil))) (gName 1)))
    (tRet (tOp rDivI (tCB (rSum K) (tCons (tVar 0) tNil)) (tVar 1)))))
theorem dv_round_of (T : Txt K mg aNOUGHT aONE) (c_common : Cal P w K mg base 1 "common" ["one", "other"] (sp_common)) {f : Addr} {cdv : Value} {A : Around} {outer : List Env} {s : Shared} {H : Hp} {E : XK} (hr : Room 1 (A.deeper (envOfC "round_of" (defScope st_round_of) s.heap.objs.size f cdv))) :
    PSs (cxOf CX0 P w K mg base N_round_of "round_of" (defScope st_round_of) f cdv A outer s H E).nox (defBody st_round_of) (t_round_of K) :=
  (pss_cons (ps_set (i := 1) sc_round_of.nd rfl (by first | exact Or.inl rfl | exact Or.inr rfl) pe_int)
    (pss_cons (ps_for PassesOwn.never rfl (pi_list (pv 0)) (pg_name (i := 2) sc_round_of.nd rfl (by first | exact Or.inl rfl | exact Or.inr rfl))
      (pss_one (ps_set (i := 1) sc_round_of.nd rfl (by first | exact Or.inl rfl | exact Or.inr rfl) (pe_cal c_common (hr.mono (by decide)) rfl (pa_cons (pv 1) (pa_cons (pv 2) pa_nil))))))
    (pss_one (ps_ret (pe_op op_fdiv (pe_callB (cr_sum rfl) (by rfl) T.b_sum (by decide +kernel) (pa_cons (pv 0) pa_nil)) (pv 1))))))
/-! ### dealt_for_ever -/
abbrev st_dealt_for_ever : Stmt := (top 76)
abbrev N_dealt_for_ever : List Str := ["weights", "bound", "turns", "spells", "word", "told", "spell"]
theorem sc_dealt_for_ever : FnScope N_dealt_for_ever ["weights", "bound"] (defScope st_dealt_for_ever) := ⟨rfl, rfl, rfl, by decide +kernel, rfl, by decide +kernel, by decide +kernel⟩
def t_dealt_for_ever (K : PySem.W.Frag) (aONE : Addr) (cPlan : Addr) : TS :=
  (tSeq (tDrop (tCall (sp_check_weights) [] E0 (tCons (tVar 0) tNil)))
    (tSeq (tDrop (tCall (sp_check_bound K) [] E0 (tCons (tVar 1) tNil)))
    (tSeq (tAsg (tCall (sp_round_of) [] E0 (tCons (tVar 0) tNil)) (gName 2))
    (tSeq (tIfS (tTest (tOp rGtI (tVar 2) (tC (.int 240)))) tNever
      tNext)
    (tSeq (tAsg (tLc (iRng1 (tCons (tOp rDivI (tVar 2) (tC (.int 60))) tNil)) (gName 6) tYes (tTup (tCons (tC (.int 60)) (tCons (tCB (rListS K) (tCons (tVar 0) tNil)) tNil))) [6]) (gName 3))
    (tSeq (tIfS (tTest (tOp rGtI (tOp rModI (tVar 2) (tC (.int 60))) (tC (.int 0)))) (tDrop (tBM K "list" rAppend (tVar 3) (tCons (tTup (tCons (tOp rModI (tVar 2) (tC (.int 60))) (tCons (tCB (rListS K) (tCons (tVar 0) tNil)) tNil))) tNil)))
      tNext)
    (tSeq (tIfS (tNot (tB (tCall (sp_less K) [] E0 (tCons (tOp (rIxT K) (tVar 1) (tC (.int 0))) (tCons (tC (.ref aONE)) tNil))))) (tAsg (tTup (tCons (tC (.ref aONE)) (tCons (tC (.bl true)) tNil))) (gName 1))
      tNext)
    (tSeq (tAsg (tCall (sp_kept_by K cPlan) [] E0 (tCons (tMake cPlan (sp_Plan_init K cPlan) [] E0 (tCons (tVar 3) tNil)) (tCons (tVar 1) tNil))) (gTup K 2 (gCons (gName 4) (gCons (gName 5) gNil))))
    (tSeq (tIfS (tTest (tOp rEq (tVar 4) (tC (.str "row")))) (tRet (tTup (tCons (tC (.str "running")) (tCons (tTup (tCons (tLst tNil) (tCons (tVar 5) tNil))) tNil))))
      tNext)
    tNever)))))))))
theorem dv_dealt_for_ever (T : Txt K mg aNOUGHT aONE) (c_Plan_init : KCal P w K mg base cPlan 5 "Plan" ["self", "spells"] (sp_Plan_init K cPlan)) (c_kept_by : Cal P w K mg base 6 "kept_by" ["plan", "bound"] (sp_kept_by K cPlan)) (c_less : Cal P w K mg base 1 "less" ["one", "other"] (sp_less K)) (c_round_of : Cal P w K mg base 2 "round_of" ["weights"] (sp_round_of)) (c_check_bound : Cal P w K mg base 3 "check_bound" ["bound"] (sp_check_bound K)) (c_check_weights : Cal P w K mg base 3 "check_weights" ["thing"] (sp_check_weights)) {f : Addr} {cdv : Value} {A : Around} {outer : List Env} {s : Shared} {H : Hp} {E : XK} (hr : Room 6 (A.deeper (envOfC "dealt_for_ever" (defScope st_dealt_for_ever) s.heap.objs.size f cdv))) :
    PSs (cxOf CX0 P w K mg base N_dealt_for_ever "dealt_for_ever" (defScope st_dealt_for_ever) f cdv A outer s H E).nox (defBody st_dealt_for_ever) (t_dealt_for_ever K aONE cPlan) :=
  (pss_cons (ps_expr (pe_cal c_check_weights (hr.mono (by decide)) rfl (pa_cons (pv 0) pa_nil)))
    (pss_cons (ps_expr (pe_cal c_check_bound (hr.mono (by decide)) rfl (pa_cons (pv 1) pa_nil)))
    (pss_cons (ps_set (i := 2) sc_dealt_for_ever.nd rfl (by first | exact Or.inl rfl | exact Or.inr rfl) (pe_cal c_round_of (hr.mono (by decide)) rfl (pa_cons (pv 0) pa_nil)))
    (pss_cons (ps_if (pt_cmpR op_gt (pv 2) (pe_glob rfl T.MOST_TURNS.choose_spec ⟨_, rfl⟩) (nomark _)) pss_never
      pss_nil)
    (pss_cons (ps_setLc (i := 3) (own := [("spell", 6)]) rfl sc_dealt_for_ever.nd rfl rfl (sw_true rfl rfl rfl (by decide +kernel)) (pi_range1 (by rfl) T.b_range (pa_cons (pe_op op_fdiv (pv 2) (pe_glob rfl T.MOST_IN_SPELL.choose_spec ⟨_, rfl⟩)) pa_nil)) (blkOk_by (own := [("spell", 6)]) (N := N_dealt_for_ever) (sc := defScope st_dealt_for_ever) (by decide +kernel)) (fun _ _ _ _ _ => (pg_name (i := 6) sc_dealt_for_ever.nd rfl (by first | exact Or.inl rfl | exact Or.inr rfl))) (fun _ _ _ _ _ => pts_nil) (fun _ _ _ _ _ => (pe_tup (pa_cons (pe_glob rfl T.MOST_IN_SPELL.choose_spec ⟨_, rfl⟩) (pa_cons (pe_callTy call_list_of (by rfl) T.b_list (by decide +kernel) (pa_cons (pv 0) pa_nil)) pa_nil)))))
    (pss_cons (ps_if (pt_cmpR op_gt (pe_op op_mod (pv 2) (pe_glob rfl T.MOST_IN_SPELL.choose_spec ⟨_, rfl⟩)) pe_int (nomark _)) (pss_one (ps_expr (pe_bm PySem.F.plainAttrs_list PySem.F.slot_list_append PySem.F.type_list_append mt_append (pv 3) (pa_cons (pe_tup (pa_cons (pe_op op_mod (pv 2) (pe_glob rfl T.MOST_IN_SPELL.choose_spec ⟨_, rfl⟩)) (pa_cons (pe_callTy call_list_of (by rfl) T.b_list (by decide +kernel) (pa_cons (pv 0) pa_nil)) pa_nil))) pa_nil))))
      pss_nil)
    (pss_cons (ps_if (pt_not (pt_val (pe_cal c_less (hr.mono (by decide)) rfl (pa_cons (pe_ix ix_tup (pv 1) pe_int (fun _ _ => rfl)) (pa_cons (pe_glob rfl T.ONE rfl) pa_nil))))) (pss_one (ps_set (i := 1) sc_dealt_for_ever.nd rfl (by first | exact Or.inl rfl | exact Or.inr rfl) (pe_tup (pa_cons (pe_glob rfl T.ONE rfl) (pa_cons pe_bl pa_nil)))))
      pss_nil)
    (pss_cons (ps_asg (pe_cal c_kept_by (hr.mono (by decide)) rfl (pa_cons (pe_kcal c_Plan_init (hr.mono (by decide)) rfl (pa_cons (pv 3) pa_nil)) (pa_cons (pv 1) pa_nil))) (pg_tup rfl (pgs_cons (pg_name (i := 4) sc_dealt_for_ever.nd rfl (by first | exact Or.inl rfl | exact Or.inr rfl)) (pgs_cons (pg_name (i := 5) sc_dealt_for_ever.nd rfl (by first | exact Or.inl rfl | exact Or.inr rfl)) pgs_nil))))
    (pss_cons (ps_if (pt_cmpR op_eq (pv 4) pe_str (nomark _)) (pss_one (ps_ret (pe_tup (pa_cons pe_str (pa_cons (pe_tup (pa_cons (pe_lst pa_nil) (pa_cons (pv 5) pa_nil))) pa_nil)))))
      pss_nil)
    (pss_one ps_never))))))))))
end
end Dt
set_option Elab.async false
set_option linter.all false
set_option maxRecDepth 100000
set_option maxHeartbeats 4000000
/-! Printed by gen.py: each def's place, names, reading and derivation. -/
namespace Dt
open PySem PySem.Spec PyProof.Rows L2 Evl DtM
section
variable {P : Program} {w : World} {K : PySem.W.Frag} {mg : Str → Option Value} {base : Heap} {aNOUGHT aONE cPlan cCredits : Addr}
/-! ### _law_cell_at -/
abbrev st__law_cell_at : Stmt := (top 78)
abbrev N__law_cell_at : List Str := ["_law_script", "_law_k"]
theorem sc__law_cell_at : FnScope N__law_cell_at ["_law_script", "_law_k"] (defScope st__law_cell_at) := ⟨rfl, rfl, rfl, by decide +kernel, rfl, by decide +kernel, by decide +kernel⟩
def t__law_cell_at (K : PySem.W.Frag) : TS :=
  (tSeq (tIfS (tTest (tOp rLtI (tVar 1) (tCB (rLenS K) (tCons (tVar 0) tNil)))) (tRet (tOp (rIxL K) (tVar 0) (tVar 1)))
      tNext)
    (tRet (tC (.int 0))))
theorem dv__law_cell_at (T : Txt K mg aNOUGHT aONE)  {f : Addr} {cdv : Value} {A : Around} {outer : List Env} {s : Shared} {H : Hp} {E : XK} (hr : Room 0 (A.deeper (envOfC "_law_cell_at" (defScope st__law_cell_at) s.heap.objs.size f cdv))) :
    PSs (cxOf CX0 P w K mg base N__law_cell_at "_law_cell_at" (defScope st__law_cell_at) f cdv A outer s H E).nox (defBody st__law_cell_at) (t__law_cell_at K) :=
  (pss_cons (ps_if (pt_cmpR op_lt (pv 1) (pe_callB call_len_seq (by rfl) T.b_len boot_len (pa_cons (pv 0) pa_nil)) (nomark _)) (pss_one (ps_ret (pe_ix ix_list (pv 0) (pv 1) (fun _ _ => rfl))))
      pss_nil)
    (pss_one (ps_ret pe_int)))
/-! ### _law_draw -/
abbrev st__law_draw : Stmt := (top 79)
abbrev N__law_draw : List Str := ["_law_cell", "_law_k", "_law_bound", "_law_stir", "_law_left", "_law_j"]
theorem sc__law_draw : FnScope N__law_draw ["_law_cell", "_law_k", "_law_bound"] (defScope st__law_draw) := ⟨rfl, rfl, rfl, by decide +kernel, rfl, by decide +kernel, by decide +kernel⟩
def t__law_draw : TS :=
  (tSeq (tIfS (tTest (tOp rGeI (tVar 0) (tOp rPowI (tC (.int 10)) (tC (.int 18))))) (tSeq (tAsg (tVar 0) (gName 4))
    (tSeq (tFor (iRng1 (tCons (tVar 1) tNil)) (gName 5)
      (tAsg (tOp rDivI (tVar 4) (tVar 2)) (gName 4)))
    (tRet (tOp rModI (tVar 4) (tVar 2)))))
      tNext)
    (tSeq (tAsg (tOp rModI (tOp rMulI (tOp rAddI (tOp rAddI (tOp rModI (tVar 0) (tC (.int 1000000007))) (tOp rMulI (tC (.int 1009)) (tVar 1))) (tC (.int 17))) (tC (.int 69621))) (tC (.int 2147483647))) (gName 3))
    (tSeq (tAsg (tOp rModI (tOp rAddI (tOp rAddI (tOp rMulI (tVar 3) (tVar 3)) (tOp rMulI (tC (.int 40503)) (tVar 1))) (tC (.int 5))) (tC (.int 2147483629))) (gName 3))
    (tRet (tOp rModI (tOp rDivI (tOp rModI (tOp rMulI (tVar 3) (tC (.int 48271))) (tC (.int 2147483647))) (tC (.int 32))) (tVar 2))))))
theorem dv__law_draw (T : Txt K mg aNOUGHT aONE)  {f : Addr} {cdv : Value} {A : Around} {outer : List Env} {s : Shared} {H : Hp} {E : XK} (hr : Room 0 (A.deeper (envOfC "_law_draw" (defScope st__law_draw) s.heap.objs.size f cdv))) :
    PSs (cxOf CX0 P w K mg base N__law_draw "_law_draw" (defScope st__law_draw) f cdv A outer s H E).nox (defBody st__law_draw) (t__law_draw) :=
  (pss_cons (ps_if (pt_cmpR op_ge (pv 0) (pe_op op_pow pe_int pe_int) (nomark _)) (pss_cons (ps_set (i := 4) sc__law_draw.nd rfl (by first | exact Or.inl rfl | exact Or.inr rfl) (pv 0))
    (pss_cons (ps_for PassesOwn.never rfl (pi_range1 (by rfl) T.b_range (pa_cons (pv 1) pa_nil)) (pg_name (i := 5) sc__law_draw.nd rfl (by first | exact Or.inl rfl | exact Or.inr rfl))
      (pss_one (ps_set (i := 4) sc__law_draw.nd rfl (by first | exact Or.inl rfl | exact Or.inr rfl) (pe_op op_fdiv (pv 4) (pv 2)))))
    (pss_one (ps_ret (pe_op op_mod (pv 4) (pv 2))))))
      pss_nil)
    (pss_cons (ps_set (i := 3) sc__law_draw.nd rfl (by first | exact Or.inl rfl | exact Or.inr rfl) (pe_op op_mod (pe_op op_mul (pe_op op_add (pe_op op_add (pe_op op_mod (pv 0) pe_int) (pe_op op_mul pe_int (pv 1))) pe_int) pe_int) pe_int))
    (pss_cons (ps_set (i := 3) sc__law_draw.nd rfl (by first | exact Or.inl rfl | exact Or.inr rfl) (pe_op op_mod (pe_op op_add (pe_op op_add (pe_op op_mul (pv 3) (pv 3)) (pe_op op_mul pe_int (pv 1))) pe_int) pe_int))
    (pss_one (ps_ret (pe_op op_mod (pe_op op_fdiv (pe_op op_mod (pe_op op_mul (pv 3) pe_int) pe_int) pe_int) (pv 2)))))))
/-! ### _law_by -/
abbrev st__law_by : Stmt := (top 80)
abbrev N__law_by : List Str := ["_law_weights", "_law_by_here", "_law_one", "_law_weight"]
theorem sc__law_by : FnScope N__law_by ["_law_weights"] (defScope st__law_by) := ⟨rfl, rfl, rfl, by decide +kernel, rfl, by decide +kernel, by decide +kernel⟩
def t__law_by (K : PySem.W.Frag) : TS :=
  (tSeq (tAsg (tC (.int 1)) (gName 1))
    (tSeq (tFor (iRng2 (tCons (tC (.int 1)) (tCons (tOp rAddI (tCB (rMax K) (tCons (tVar 0) tNil)) (tC (.int 1))) tNil))) (gName 2)
      (tIfS (tB (tCB (rAll K) (tCons (tLc (iList K (tVar 0)) (gName 3) tYes (tOp rEq (tOp rModI (tVar 3) (tVar 2)) (tC (.int 0))) [3]) tNil))) (tAsg (tVar 2) (gName 1))
      tNext))
    (tRet (tVar 1))))
theorem dv__law_by (T : Txt K mg aNOUGHT aONE)  {f : Addr} {cdv : Value} {A : Around} {outer : List Env} {s : Shared} {H : Hp} {E : XK} (hr : Room 0 (A.deeper (envOfC "_law_by" (defScope st__law_by) s.heap.objs.size f cdv))) :
    PSs (cxOf CX0 P w K mg base N__law_by "_law_by" (defScope st__law_by) f cdv A outer s H E).nox (defBody st__law_by) (t__law_by K) :=
  (pss_cons (ps_set (i := 1) sc__law_by.nd rfl (by first | exact Or.inl rfl | exact Or.inr rfl) pe_int)
    (pss_cons (ps_for PassesOwn.never rfl (pi_range2 (by rfl) T.b_range (pa_cons pe_int (pa_cons (pe_op op_add (pe_callB (cr_max rfl) (by rfl) T.b_max (by decide +kernel) (pa_cons (pv 0) pa_nil)) pe_int) pa_nil))) (pg_name (i := 2) sc__law_by.nd rfl (by first | exact Or.inl rfl | exact Or.inr rfl))
      (pss_one (ps_if (pt_val (pe_callB (cr_all rfl) (by rfl) T.b_all (by decide +kernel) (pa_cons (pe_lc (own := [("_law_weight", 3)]) rfl sc__law_by.nd (pi_list (pv 0)) (blkOk_by (own := [("_law_weight", 3)]) (N := N__law_by) (sc := defScope st__law_by) (by decide +kernel)) (fun _ _ _ _ _ => (pg_name (i := 3) sc__law_by.nd rfl (by first | exact Or.inl rfl | exact Or.inr rfl))) (fun _ _ _ _ _ => pts_nil) (fun _ _ _ _ _ => (pe_cmpR op_eq (pe_op op_mod (pv 3) (pv 2)) pe_int (nomark _)))) pa_nil))) (pss_one (ps_set (i := 1) sc__law_by.nd rfl (by first | exact Or.inl rfl | exact Or.inr rfl) (pv 2)))
      pss_nil)))
    (pss_one (ps_ret (pv 1)))))
/-! ### _law_near -/
abbrev st__law_near : Stmt := (top 81)
abbrev N__law_near : List Str := ["_law_weights", "_law_running", "_law_cell", "_law_k", "_law_turns", "_law_found", "_law_who"]
theorem sc__law_near : FnScope N__law_near ["_law_weights", "_law_running", "_law_cell"] (defScope st__law_near) := ⟨rfl, rfl, rfl, by decide +kernel, rfl, by decide +kernel, by decide +kernel⟩
def t__law_near (K : PySem.W.Frag) : TS :=
  (tSeq (tFor (iRng1 (tCons (tC (.int 4)) tNil)) (gName 3)
      (tSeq (tAsg (tOp (rIxL K) (tLst (tCons (tOp rSubI (tOp rPowI (tC (.int 10)) (tC (.int 40))) (tCall (sp__law_draw) [] E0 (tCons (tVar 2) (tCons (tOp rAddI (tC (.int 4)) (tVar 3)) (tCons (tC (.int 1000)) tNil))))) (tCons (tCall (sp__law_draw) [] E0 (tCons (tVar 2) (tCons (tOp rAddI (tC (.int 4)) (tVar 3)) (tCons (tOp rPowI (tC (.int 10)) (tC (.int 9))) tNil)))) tNil))) (tOp rModI (tVar 3) (tC (.int 2)))) (gName 4))
    (tSeq (tAsg (tLc (iRng1 (tCons (tCB (rLenS K) (tCons (tVar 0) tNil)) tNil)) (gName 6) tYes (tCall (sp_count_at K) [] E0 (tCons (tVar 1) (tCons (tVar 6) (tCons (tVar 4) tNil)))) [6]) (gName 5))
    (tSeq (tIfS (tTest (tOp rNe (tCB (rSum K) (tCons (tVar 5) tNil)) (tVar 4))) (tRet (tC (.bl false)))
      tNext)
    (tFor (iRng1 (tCons (tCB (rLenS K) (tCons (tVar 0) tNil)) tNil)) (gName 6)
      (tIfS (tTest (tOp rGeI (tCB rAbs (tCons (tOp rSubI (tOp rMulI (tVar 4) (tOp (rIxL K) (tVar 0) (tVar 6))) (tOp rMulI (tOp (rIxL K) (tVar 5) (tVar 6)) (tCB (rSum K) (tCons (tVar 0) tNil)))) tNil)) (tCB (rSum K) (tCons (tVar 0) tNil)))) (tRet (tC (.bl false)))
      tNext))))))
    (tRet (tC (.bl true))))
theorem dv__law_near (T : Txt K mg aNOUGHT aONE) (c_count_at : Cal P w K mg base 6 "count_at" ["running", "one", "turns"] (sp_count_at K)) (c__law_draw : Cal P w K mg base 1 "_law_draw" ["_law_cell", "_law_k", "_law_bound"] (sp__law_draw)) {f : Addr} {cdv : Value} {A : Around} {outer : List Env} {s : Shared} {H : Hp} {E : XK} (hr : Room 6 (A.deeper (envOfC "_law_near" (defScope st__law_near) s.heap.objs.size f cdv))) :
    PSs (cxOf CX0 P w K mg base N__law_near "_law_near" (defScope st__law_near) f cdv A outer s H E).nox (defBody st__law_near) (t__law_near K) :=
  (pss_cons (ps_for PassesOwn.never rfl (pi_range1 (by rfl) T.b_range (pa_cons pe_int pa_nil)) (pg_name (i := 3) sc__law_near.nd rfl (by first | exact Or.inl rfl | exact Or.inr rfl))
      (pss_cons (ps_set (i := 4) sc__law_near.nd rfl (by first | exact Or.inl rfl | exact Or.inr rfl) (pe_ix ix_list (pe_lst (pa_cons (pe_op op_sub (pe_op op_pow pe_int pe_int) (pe_cal c__law_draw (hr.mono (by decide)) rfl (pa_cons (pv 2) (pa_cons (pe_op op_add pe_int (pv 3)) (pa_cons pe_int pa_nil))))) (pa_cons (pe_cal c__law_draw (hr.mono (by decide)) rfl (pa_cons (pv 2) (pa_cons (pe_op op_add pe_int (pv 3)) (pa_cons (pe_op op_pow pe_int pe_int) pa_nil)))) pa_nil))) (pe_op op_mod (pv 3) pe_int) (fun _ _ => rfl)))
    (pss_cons (ps_setLc (i := 5) (own := [("_law_who", 6)]) rfl sc__law_near.nd rfl rfl (sw_true rfl rfl rfl (by decide +kernel)) (pi_range1 (by rfl) T.b_range (pa_cons (pe_callB call_len_seq (by rfl) T.b_len boot_len (pa_cons (pv 0) pa_nil)) pa_nil)) (blkOk_by (own := [("_law_who", 6)]) (N := N__law_near) (sc := defScope st__law_near) (by decide +kernel)) (fun _ _ _ _ _ => (pg_name (i := 6) sc__law_near.nd rfl (by first | exact Or.inl rfl | exact Or.inr rfl))) (fun _ _ _ _ _ => pts_nil) (fun _ _ _ _ _ => (pe_cal c_count_at (hr.mono (by decide)) rfl (pa_cons (pv 1) (pa_cons (pv 6) (pa_cons (pv 4) pa_nil))))))
    (pss_cons (ps_if (pt_cmpR op_ne (pe_callB (cr_sum rfl) (by rfl) T.b_sum (by decide +kernel) (pa_cons (pv 5) pa_nil)) (pv 4) (nomark _)) (pss_one (ps_ret pe_bl))
      pss_nil)
    (pss_one (ps_for PassesOwn.never rfl (pi_range1 (by rfl) T.b_range (pa_cons (pe_callB call_len_seq (by rfl) T.b_len boot_len (pa_cons (pv 0) pa_nil)) pa_nil)) (pg_name (i := 6) sc__law_near.nd rfl (by first | exact Or.inl rfl | exact Or.inr rfl))
      (pss_one (ps_if (pt_cmpR op_ge (pe_callB call_abs (by rfl) T.b_abs (by decide +kernel) (pa_cons (pe_op op_sub (pe_op op_mul (pv 4) (pe_ix ix_list (pv 0) (pv 6) (fun _ _ => rfl))) (pe_op op_mul (pe_ix ix_list (pv 5) (pv 6) (fun _ _ => rfl)) (pe_callB (cr_sum rfl) (by rfl) T.b_sum (by decide +kernel) (pa_cons (pv 0) pa_nil)))) pa_nil)) (pe_callB (cr_sum rfl) (by rfl) T.b_sum (by decide +kernel) (pa_cons (pv 0) pa_nil)) (nomark _)) (pss_one (ps_ret pe_bl))
      pss_nil))))))))
    (pss_one (ps_ret pe_bl)))
/-! ### _law_keeper_right -/
abbrev st__law_keeper_right : Stmt := (top 82)
abbrev N__law_keeper_right : List Str := ["_law_weights", "_law_turns", "_law_keeper", "_law_row", "_law_most", "_law_ends", "_law_turn"]
theorem sc__law_keeper_right : FnScope N__law_keeper_right ["_law_weights", "_law_turns"] (defScope st__law_keeper_right) := ⟨rfl, rfl, rfl, by decide +kernel, rfl, by decide +kernel, by decide +kernel⟩
def t__law_keeper_right (K : PySem.W.Frag) (cCredits : Addr) : TS :=
  (tSeq (tAsg (tMake cCredits (sp_Credits_init K cCredits) [] E0 (tCons (tCB (rListS K) (tCons (tVar 0) tNil)) tNil)) (gName 2))
    (tSeq (tAsg (tLc (iRng1 (tCons (tOp rMulI (tC (.int 2)) (tVar 1)) tNil)) (gName 6) tYes (tMeth cCredits "step" (sp_Credits_step K cCredits) [] E0 (tVar 2) tNil) [6]) (gName 3))
    (tSeq (tAsg (tOp rSubI (tCB (rLenS K) (tCons (tVar 0) tNil)) (tC (.int 1))) (gName 4))
    (tSeq (tIfS (tOr (tTest (tOp (rNeD K) (tSl (rSlL K) (tVar 3) tNoPart (tPart (tVar 1))) (tSl (rSlL K) (tVar 3) (tPart (tVar 1)) tNoPart))) (tTest (tOp rNotNo (tCall (sp_broken_at K) [] E0 (tCons (tVar 0) (tCons (tTup (tCons (tLst tNil) (tCons (tVar 3) tNil))) (tCons (tTup (tCons (tTup (tCons (tVar 4) (tCons (tC (.int 1)) tNil))) (tCons (tC (.bl true)) tNil))) tNil)))) (tC .non)))) (tRet (tC (.bl false)))
      tNext)
    (tSeq (tFor (iList K (tCall (sp_lags_of K) [] E0 (tCons (tVar 0) (tCons (tTup (tCons (tLst tNil) (tCons (tSl (rSlL K) (tVar 3) tNoPart (tPart (tVar 1))) tNil))) tNil)))) (gName 5)
      (tIfS (tOr (tTest (tOp rNe (tOp (rIxT K) (tVar 5) (tC (.int 0))) (tC (.str "within")))) (tOr (tTest (tOp rLeI (tOp rAddI (tOp (rIxT K) (tOp (rIxT K) (tVar 5) (tC (.int 1))) (tC (.int 0))) (tOp (rIxT K) (tOp (rIxT K) (tVar 5) (tC (.int 1))) (tC (.int 1)))) (tC (.int 0)))) (tTest (tOp rGeI (tOp (rIxT K) (tOp (rIxT K) (tVar 5) (tC (.int 3))) (tC (.int 0))) (tOp rMulI (tVar 4) (tOp (rIxT K) (tOp (rIxT K) (tVar 5) (tC (.int 3))) (tC (.int 1)))))))) (tRet (tC (.bl false)))
      tNext))
    (tRet (tC (.bl true))))))))
theorem dv__law_keeper_right (T : Txt K mg aNOUGHT aONE) (c_lags_of : Cal P w K mg base 7 "lags_of" ["weights", "running"] (sp_lags_of K)) (c_broken_at : Cal P w K mg base 7 "broken_at" ["weights", "running", "bound"] (sp_broken_at K)) (c_Credits_step : MCal P w K mg base cCredits 4 "step" ["self"] (sp_Credits_step K cCredits)) (c_Credits_init : KCal P w K mg base cCredits 3 "Credits" ["self", "weights"] (sp_Credits_init K cCredits)) {f : Addr} {cdv : Value} {A : Around} {outer : List Env} {s : Shared} {H : Hp} {E : XK} (hr : Room 7 (A.deeper (envOfC "_law_keeper_right" (defScope st__law_keeper_right) s.heap.objs.size f cdv))) :
    PSs (cxOf CX0 P w K mg base N__law_keeper_right "_law_keeper_right" (defScope st__law_keeper_right) f cdv A outer s H E).nox (defBody st__law_keeper_right) (t__law_keeper_right K cCredits) :=
  (pss_cons (ps_set (i := 2) sc__law_keeper_right.nd rfl (by first | exact Or.inl rfl | exact Or.inr rfl) (pe_kcal c_Credits_init (hr.mono (by decide)) rfl (pa_cons (pe_callTy call_list_of (by rfl) T.b_list (by decide +kernel) (pa_cons (pv 0) pa_nil)) pa_nil)))
    (pss_cons (ps_setLc (i := 3) (own := [("_law_turn", 6)]) rfl sc__law_keeper_right.nd rfl rfl (sw_true rfl rfl rfl (by decide +kernel)) (pi_range1 (by rfl) T.b_range (pa_cons (pe_op op_mul pe_int (pv 1)) pa_nil)) (blkOk_by (own := [("_law_turn", 6)]) (N := N__law_keeper_right) (sc := defScope st__law_keeper_right) (by decide +kernel)) (fun _ _ _ _ _ => (pg_name (i := 6) sc__law_keeper_right.nd rfl (by first | exact Or.inl rfl | exact Or.inr rfl))) (fun _ _ _ _ _ => pts_nil) (fun _ _ _ _ _ => (pe_mcal0 c_Credits_step (hr.mono (by decide)) (pv 2))))
    (pss_cons (ps_set (i := 4) sc__law_keeper_right.nd rfl (by first | exact Or.inl rfl | exact Or.inr rfl) (pe_op op_sub (pe_callB call_len_seq (by rfl) T.b_len boot_len (pa_cons (pv 0) pa_nil)) pe_int))
    (pss_cons (ps_if (PW.pt (pw_or (pt_cmpR (op_neD hr.units) (pe_slice sl_list (pv 3) po_none (po_some (pv 1))) (pe_slice sl_list (pv 3) (po_some (pv 1)) po_none) (nomark _)) (pw_or1 (pt_cmpR op_notN (pe_cal c_broken_at (hr.mono (by decide)) rfl (pa_cons (pv 0) (pa_cons (pe_tup (pa_cons (pe_lst pa_nil) (pa_cons (pv 3) pa_nil))) (pa_cons (pe_tup (pa_cons (pe_tup (pa_cons (pv 4) (pa_cons pe_int pa_nil))) (pa_cons pe_bl pa_nil))) pa_nil)))) pe_non (nomark _))))) (pss_one (ps_ret pe_bl))
      pss_nil)
    (pss_cons (ps_for PassesOwn.never rfl (pi_list (pe_cal c_lags_of (hr.mono (by decide)) rfl (pa_cons (pv 0) (pa_cons (pe_tup (pa_cons (pe_lst pa_nil) (pa_cons (pe_slice sl_list (pv 3) po_none (po_some (pv 1))) pa_nil))) pa_nil)))) (pg_name (i := 5) sc__law_keeper_right.nd rfl (by first | exact Or.inl rfl | exact Or.inr rfl))
      (pss_one (ps_if (PW.pt (pw_or (pt_cmpR op_ne (pe_ix ix_tup (pv 5) pe_int (fun _ _ => rfl)) pe_str (nomark _)) (pw_or (pt_cmpR op_le (pe_op op_add (pe_ix ix_tup (pe_ix ix_tup (pv 5) pe_int (fun _ _ => rfl)) pe_int (fun _ _ => rfl)) (pe_ix ix_tup (pe_ix ix_tup (pv 5) pe_int (fun _ _ => rfl)) pe_int (fun _ _ => rfl))) pe_int (nomark _)) (pw_or1 (pt_cmpR op_ge (pe_ix ix_tup (pe_ix ix_tup (pv 5) pe_int (fun _ _ => rfl)) pe_int (fun _ _ => rfl)) (pe_op op_mul (pv 4) (pe_ix ix_tup (pe_ix ix_tup (pv 5) pe_int (fun _ _ => rfl)) pe_int (fun _ _ => rfl))) (nomark _)))))) (pss_one (ps_ret pe_bl))
      pss_nil)))
    (pss_one (ps_ret pe_bl)))))))
/-! ### law -/
abbrev st_law : Stmt := (top 83)
abbrev N_law : List Str := ["_law_script", "_law_asked", "_law_k", "_law_cell", "_law_many", "_law_most", "_law_weights", "_law_turns", "_law_word", "_law_running", "_law_j"]
theorem sc_law : FnScope N_law ["_law_script"] (defScope st_law) := ⟨rfl, rfl, rfl, by decide +kernel, rfl, by decide +kernel, by decide +kernel⟩
def t_law (K : PySem.W.Frag) : TS :=
  (tSeq (tAsg (tLst tNil) (gName 1))
    (tSeq (tFor (iRng1 (tCons (tC (.int 2)) tNil)) (gName 2)
      (tSeq (tAsg (tCall (sp__law_cell_at K) [] E0 (tCons (tVar 0) (tCons (tOp rMulI (tC (.int 2)) (tVar 2)) tNil))) (gName 3))
    (tSeq (tAsg (tOp rAddI (tC (.int 2)) (tCall (sp__law_draw) [] E0 (tCons (tVar 3) (tCons (tC (.int 1)) (tCons (tC (.int 5)) tNil))))) (gName 4))
    (tSeq (tAsg (tOp (rIxL K) (tLst (tCons (tC (.int 4)) (tCons (tC (.int 10)) (tCons (tC (.int 30)) tNil)))) (tCall (sp__law_draw) [] E0 (tCons (tVar 3) (tCons (tC (.int 2)) (tCons (tC (.int 3)) tNil))))) (gName 5))
    (tSeq (tAsg (tLc (iRng1 (tCons (tVar 4) tNil)) (gName 10) tYes (tCall (sp__law_draw) [] E0 (tCons (tVar 3) (tCons (tOp rAddI (tC (.int 5)) (tVar 10)) (tCons (tVar 5) tNil)))) [10]) (gName 6))
    (tSeq (tAsg (tOp rAddI (tC (.int 1)) (tCall (sp__law_draw) [] E0 (tCons (tVar 3) (tCons (tC (.int 4)) (tCons (tC (.int 9)) tNil))))) (gSub (tVar 6) (tOp rModI (tCall (sp__law_draw) [] E0 (tCons (tVar 3) (tCons (tC (.int 3)) (tCons (tC (.int 720)) tNil)))) (tVar 4)) rSetL))
    (tDrop (tBM K "list" rAppend (tVar 1) (tCons (tTup (tCons (tVar 6) (tCons (tCall (sp__law_cell_at K) [] E0 (tCons (tVar 0) (tCons (tOp rAddI (tOp rMulI (tC (.int 2)) (tVar 2)) (tC (.int 1))) tNil))) tNil))) tNil)))))))))
    (tSeq (tFor (iList K (tOp rCat (tVar 1) (tSl (rSlL K) (tVar 1) tNoPart (tPart (tC (.int 1)))))) (gTup K 2 (gCons (gName 6) (gCons (gName 3) gNil)))
      (tSeq (tAsg (tOp rDivI (tCB (rSum K) (tCons (tVar 6) tNil)) (tCall (sp__law_by) [] E0 (tCons (tVar 6) tNil))) (gName 7))
    (tSeq (tAsg (tCall (sp_dealt_for_ever K) [] E0 (tCons (tVar 6) (tCons (tTup (tCons (tTup (tCons (tC (.int 1)) (tCons (tC (.int 1)) tNil))) (tCons (tC (.bl true)) tNil))) tNil))) (gTup K 2 (gCons (gName 8) (gCons (gName 9) gNil))))
    (tSeq (tIfS (tOr (tTest (tOp rNe (tVar 8) (tC (.str "running")))) (tOr (tTest (tOp rNe (tCB (rLenS K) (tCons (tOp (rIxT K) (tVar 9) (tC (.int 1))) tNil)) (tVar 7))) (tNot (tB (tCall (sp__law_near K) [] E0 (tCons (tVar 6) (tCons (tVar 9) (tCons (tVar 3) tNil)))))))) (tRet (tC (.bl false)))
      tNext)
    (tSeq (tIfS (tOr (tTest (tOp rNotNo (tCall (sp_broken_at K) [] E0 (tCons (tVar 6) (tCons (tVar 9) (tCons (tTup (tCons (tTup (tCons (tC (.int 1)) (tCons (tC (.int 1)) tNil))) (tCons (tC (.bl true)) tNil))) tNil)))) (tC .non))) (tTest (tOp (rNeD K) (tOp (rIxT K) (tCall (sp_least_of K) [] E0 (tCons (tVar 9) tNil)) (tC (.int 0))) (tLst tNil)))) (tRet (tC (.bl false)))
      tNext)
    (tIfS (tOr (tTest (tOp rNe (tOp rModI (tVar 7) (tCB (rLenS K) (tCons (tOp (rIxT K) (tCall (sp_least_of K) [] E0 (tCons (tVar 9) tNil)) (tC (.int 1))) tNil))) (tC (.int 0)))) (tNot (tB (tCall (sp__law_keeper_right) [] E0 (tCons (tVar 6) (tCons (tVar 7) tNil)))))) (tRet (tC (.bl false)))
      tNext))))))
    (tRet (tC (.bl true))))))
theorem dv_law (T : Txt K mg aNOUGHT aONE) (c_least_of : Cal P w K mg base 6 "least_of" ["running"] (sp_least_of K)) (c__law_keeper_right : Cal P w K mg base 8 "_law_keeper_right" ["_law_weights", "_law_turns"] (sp__law_keeper_right)) (c_broken_at : Cal P w K mg base 7 "broken_at" ["weights", "running", "bound"] (sp_broken_at K)) (c__law_near : Cal P w K mg base 7 "_law_near" ["_law_weights", "_law_running", "_law_cell"] (sp__law_near K)) (c_dealt_for_ever : Cal P w K mg base 7 "dealt_for_ever" ["weights", "bound"] (sp_dealt_for_ever K)) (c__law_by : Cal P w K mg base 1 "_law_by" ["_law_weights"] (sp__law_by)) (c__law_cell_at : Cal P w K mg base 1 "_law_cell_at" ["_law_script", "_law_k"] (sp__law_cell_at K)) (c__law_draw : Cal P w K mg base 1 "_law_draw" ["_law_cell", "_law_k", "_law_bound"] (sp__law_draw)) {f : Addr} {cdv : Value} {A : Around} {outer : List Env} {s : Shared} {H : Hp} {E : XK} (hr : Room 8 (A.deeper (envOfC "law" (defScope st_law) s.heap.objs.size f cdv))) :
    PSs (cxOf CX0 P w K mg base N_law "law" (defScope st_law) f cdv A outer s H E).nox (defBody st_law) (t_law K) :=
  (pss_cons (ps_set (i := 1) sc_law.nd rfl (by first | exact Or.inl rfl | exact Or.inr rfl) (pe_lst pa_nil))
    (pss_cons (ps_for PassesOwn.never rfl (pi_range1 (by rfl) T.b_range (pa_cons pe_int pa_nil)) (pg_name (i := 2) sc_law.nd rfl (by first | exact Or.inl rfl | exact Or.inr rfl))
      (pss_cons (ps_set (i := 3) sc_law.nd rfl (by first | exact Or.inl rfl | exact Or.inr rfl) (pe_cal c__law_cell_at (hr.mono (by decide)) rfl (pa_cons (pv 0) (pa_cons (pe_op op_mul pe_int (pv 2)) pa_nil))))
    (pss_cons (ps_set (i := 4) sc_law.nd rfl (by first | exact Or.inl rfl | exact Or.inr rfl) (pe_op op_add pe_int (pe_cal c__law_draw (hr.mono (by decide)) rfl (pa_cons (pv 3) (pa_cons pe_int (pa_cons pe_int pa_nil))))))
    (pss_cons (ps_set (i := 5) sc_law.nd rfl (by first | exact Or.inl rfl | exact Or.inr rfl) (pe_ix ix_list (pe_lst (pa_cons pe_int (pa_cons pe_int (pa_cons pe_int pa_nil)))) (pe_cal c__law_draw (hr.mono (by decide)) rfl (pa_cons (pv 3) (pa_cons pe_int (pa_cons pe_int pa_nil)))) (fun _ _ => rfl)))
    (pss_cons (ps_setLc (i := 6) (own := [("_law_j", 10)]) rfl sc_law.nd rfl rfl (sw_true rfl rfl rfl (by decide +kernel)) (pi_range1 (by rfl) T.b_range (pa_cons (pv 4) pa_nil)) (blkOk_by (own := [("_law_j", 10)]) (N := N_law) (sc := defScope st_law) (by decide +kernel)) (fun _ _ _ _ _ => (pg_name (i := 10) sc_law.nd rfl (by first | exact Or.inl rfl | exact Or.inr rfl))) (fun _ _ _ _ _ => pts_nil) (fun _ _ _ _ _ => (pe_cal c__law_draw (hr.mono (by decide)) rfl (pa_cons (pv 3) (pa_cons (pe_op op_add pe_int (pv 10)) (pa_cons (pv 5) pa_nil))))))
    (pss_cons (ps_asg (pe_op op_add pe_int (pe_cal c__law_draw (hr.mono (by decide)) rfl (pa_cons (pv 3) (pa_cons pe_int (pa_cons pe_int pa_nil))))) (pg_sub (pv 6) (pe_op op_mod (pe_cal c__law_draw (hr.mono (by decide)) rfl (pa_cons (pv 3) (pa_cons pe_int (pa_cons pe_int pa_nil)))) (pv 4)) set_list))
    (pss_one (ps_expr (pe_bm PySem.F.plainAttrs_list PySem.F.slot_list_append PySem.F.type_list_append mt_append (pv 1) (pa_cons (pe_tup (pa_cons (pv 6) (pa_cons (pe_cal c__law_cell_at (hr.mono (by decide)) rfl (pa_cons (pv 0) (pa_cons (pe_op op_add (pe_op op_mul pe_int (pv 2)) pe_int) pa_nil))) pa_nil))) pa_nil))))))))))
    (pss_cons (ps_for PassesOwn.never rfl (pi_list (pe_op op_cat (pv 1) (pe_slice sl_list (pv 1) po_none (po_some pe_int)))) (pg_tup rfl (pgs_cons (pg_name (i := 6) sc_law.nd rfl (by first | exact Or.inl rfl | exact Or.inr rfl)) (pgs_cons (pg_name (i := 3) sc_law.nd rfl (by first | exact Or.inl rfl | exact Or.inr rfl)) pgs_nil)))
      (pss_cons (ps_set (i := 7) sc_law.nd rfl (by first | exact Or.inl rfl | exact Or.inr rfl) (pe_op op_fdiv (pe_callB (cr_sum rfl) (by rfl) T.b_sum (by decide +kernel) (pa_cons (pv 6) pa_nil)) (pe_cal c__law_by (hr.mono (by decide)) rfl (pa_cons (pv 6) pa_nil))))
    (pss_cons (ps_asg (pe_cal c_dealt_for_ever (hr.mono (by decide)) rfl (pa_cons (pv 6) (pa_cons (pe_tup (pa_cons (pe_tup (pa_cons pe_int (pa_cons pe_int pa_nil))) (pa_cons pe_bl pa_nil))) pa_nil))) (pg_tup rfl (pgs_cons (pg_name (i := 8) sc_law.nd rfl (by first | exact Or.inl rfl | exact Or.inr rfl)) (pgs_cons (pg_name (i := 9) sc_law.nd rfl (by first | exact Or.inl rfl | exact Or.inr rfl)) pgs_nil))))
    (pss_cons (ps_if (PW.pt (pw_or (pt_cmpR op_ne (pv 8) pe_str (nomark _)) (pw_or (pt_cmpR op_ne (pe_callB call_len_seq (by rfl) T.b_len boot_len (pa_cons (pe_ix ix_tup (pv 9) pe_int (fun _ _ => rfl)) pa_nil)) (pv 7) (nomark _)) (pw_or1 (pt_not (pt_val (pe_cal c__law_near (hr.mono (by decide)) rfl (pa_cons (pv 6) (pa_cons (pv 9) (pa_cons (pv 3) pa_nil)))))))))) (pss_one (ps_ret pe_bl))
      pss_nil)
    (pss_cons (ps_if (PW.pt (pw_or (pt_cmpR op_notN (pe_cal c_broken_at (hr.mono (by decide)) rfl (pa_cons (pv 6) (pa_cons (pv 9) (pa_cons (pe_tup (pa_cons (pe_tup (pa_cons pe_int (pa_cons pe_int pa_nil))) (pa_cons pe_bl pa_nil))) pa_nil)))) pe_non (nomark _)) (pw_or1 (pt_cmpR (op_neD hr.units) (pe_ix ix_tup (pe_cal c_least_of (hr.mono (by decide)) rfl (pa_cons (pv 9) pa_nil)) pe_int (fun _ _ => rfl)) (pe_lst pa_nil) (nomark _))))) (pss_one (ps_ret pe_bl))
      pss_nil)
    (pss_one (ps_if (PW.pt (pw_or (pt_cmpR op_ne (pe_op op_mod (pv 7) (pe_callB call_len_seq (by rfl) T.b_len boot_len (pa_cons (pe_ix ix_tup (pe_cal c_least_of (hr.mono (by decide)) rfl (pa_cons (pv 9) pa_nil)) pe_int (fun _ _ => rfl)) pa_nil))) pe_int (nomark _)) (pw_or1 (pt_not (pt_val (pe_cal c__law_keeper_right (hr.mono (by decide)) rfl (pa_cons (pv 6) (pa_cons (pv 7) pa_nil)))))))) (pss_one (ps_ret pe_bl))
      pss_nil)))))))
    (pss_one (ps_ret pe_bl)))))
end
end Dt
set_option Elab.async false
set_option linter.all false
set_option maxRecDepth 100000
set_option maxHeartbeats 4000000
/-! Readings: fractions. -/
namespace Dt
open PySem PySem.Spec PyProof.Rows L2 Evl DtM
abbrev En (Q : VK) : Ends := { nx := fun _ H' => Q .non H', rt := Q }
section
variable {K : PySem.W.Frag} {x y z u : V} {G H H' : Hp} {Q : VK} {σ : L2.St} {te : TE}
theorem _root_.Evl.RetV.ret {v : V} (k : RetV v H Q) : Ret (Is v) G H Q := fun v' G2 H2 r e => by
  cases e
  exact k H2 r.k
theorem _root_.Evl.RetV.up {v : V} (k : RetV v H Q) (e : Ex H H') : RetV v H' Q := fun H2 e2 => k H2 (e.trans e2)
theorem Ret.toV {v : V} (k : Ret (Is v) G H Q) (e : Ex G H) : RetV v H Q := fun H2 e2 => k v G H2 (Gr.of e e2) rfl
theorem cmul_r {i j : Int} (h1 : -1000000000 ≤ j) (h2 : j ≤ 1000000000) : CMul i j := Or.inr ⟨by omega, by omega⟩
theorem cmul_l {i j : Int} (h1 : -1000000000 ≤ i) (h2 : i ≤ 1000000000) : CMul i j := Or.inl ⟨by omega, by omega⟩
/-- a call that hands back a value that is known -/
theorem ev_call1 {d1 : Dsc} {sp : Sp} {E : XK} {ta : TE} {v : V} (h1 : EvP ta σ G d1) (hs : ∀ x G1 H1, Ex G G1 → Ex G1 H1 → d1 x G1 → ∀ (Q : VK) (E : XK), RetV v H1 Q → sp [x] H1 Q E) : Ev (tCall sp [] E (tCons ta tNil)) σ G v :=
  (ep_call1 h1 fun x G1 H1 e1 e2 dx Q E q => hs x G1 H1 e1 e2 dx Q E (q.toV e2)).val
theorem ev_call2 {d1 d2 : Dsc} [Up d1] [Up d2] {sp : Sp} {E : XK} {ta tb : TE} {v : V} (h1 : EvP ta σ G d1) (h2 : EvP tb σ G d2) (hs : ∀ x y G1 H1, Ex G G1 → Ex G1 H1 → d1 x G1 → d2 y G1 → ∀ (Q : VK) (E : XK), RetV v H1 Q → sp [x, y] H1 Q E) : Ev (tCall sp [] E (tCons ta (tCons tb tNil))) σ G v :=
  (ep_call2 h1 h2 fun x y G1 H1 e1 e2 dx dy Q E q => hs x y G1 H1 e1 e2 dx dy Q E (q.toV e2)).val
theorem ev_call3 {d1 d2 d3 : Dsc} [Up d1] [Up d2] [Up d3] {sp : Sp} {E : XK} {ta tb tc : TE} {v : V} (h1 : EvP ta σ G d1) (h2 : EvP tb σ G d2) (h3 : EvP tc σ G d3)
    (hs : ∀ x y z G1 H1, Ex G G1 → Ex G1 H1 → d1 x G1 → d2 y G1 → d3 z G1 → ∀ (Q : VK) (E : XK), RetV v H1 Q → sp [x, y, z] H1 Q E) : Ev (tCall sp [] E (tCons ta (tCons tb (tCons tc tNil)))) σ G v :=
  (ep_call3 h1 h2 h3 fun x y z G1 H1 e1 e2 dx dy dz Q E q => hs x y z G1 H1 e1 e2 dx dy dz Q E (q.toV e2)).val
theorem ev_call4 {d1 d2 d3 d4 : Dsc} [Up d1] [Up d2] [Up d3] [Up d4] {sp : Sp} {E : XK} {ta tb tc td : TE} {v : V} (h1 : EvP ta σ G d1) (h2 : EvP tb σ G d2) (h3 : EvP tc σ G d3) (h4 : EvP td σ G d4)
    (hs : ∀ x y z w G1 H1, Ex G G1 → Ex G1 H1 → d1 x G1 → d2 y G1 → d3 z G1 → d4 w G1 → ∀ (Q : VK) (E : XK), RetV v H1 Q → sp [x, y, z, w] H1 Q E) : Ev (tCall sp [] E (tCons ta (tCons tb (tCons tc (tCons td tNil))))) σ G v :=
  (ep_call4 h1 h2 h3 h4 fun x y z w G1 H1 e1 e2 dx dy dz dw Q E q => hs x y z w G1 H1 e1 e2 dx dy dz dw Q E (q.toV e2)).val
theorem up_ {d : Dsc} [Up d] {v : V} {G G' : Hp} (h : d v G) (e : Ex G G') : d v G' := Up.up v G G' e h

theorem pu_common (h : ∃ a b : Int, x = .int a ∧ y = .int b ∧ RetV (.int (Int.gcd a b)) H Q) : t_common (En Q) (start N_common [x, y]) H := by
  obtain ⟨a, b, rfl, rfl, k⟩ := h
  refine q_asgV (Ex.refl H) (ev_abs (ev_var rfl)) fun H1 r1 => ?_
  refine q_asgV r1.s (ev_abs (ev_var rfl)) fun H2 r2 => ?_
  have r := r1.trans r2
  refine q_while (fun m σ H' => ∃ p q : Int, 0 ≤ p ∧ 0 ≤ q ∧ σ = [some (.int p), some (.int q)] ∧ Ex H H' ∧ Int.gcd p q = Int.gcd a b ∧ m = q.toNat) _ ⟨_, _, ?_, ?_, rfl, r.k, ?_, rfl⟩ ?_
  · split <;> omega
  · split <;> omega
  · have e1 : ∀ c : Int, (if c < 0 then -c else c) = (c.natAbs : Int) := fun c => by split <;> omega
    rw [e1, e1]
    show Nat.gcd _ _ = Nat.gcd _ _
    simp
  · rintro m σ' H' ⟨p, q, hp, hq, rfl, e, g, rfl⟩
    refine ⟨_, et_test (ev_gt (ev_var rfl) ev_c), fun hb H1 e1 => ?_, fun hb H1 e1 => ?_⟩
    · have q0 : 0 < q := of_decide_eq_true hb
      refine ⟨fun σ2 H2 => σ2 = [some (.int q), some (.int (p % q))] ∧ Ex H H2, fun σ2 H2 ⟨eσ, e2⟩ => ?_, ?_⟩
      · have l1 := Int.emod_nonneg p (by omega : q ≠ 0)
        have l2 := Int.emod_lt_of_pos p q0
        exact ⟨(p % q).toNat, by omega, q, p % q, hq, l1, eσ, e2, (gcd_mod hp hq).trans g, rfl⟩
      · exact s_par (Ex.refl H1) (ea_cons (ev_var rfl) (ea_cons (ev_mod (ev_var rfl) (ev_var rfl) q0) ea_nil)) fun H2 r2 => ⟨rfl, (e.trans e1).trans r2.k⟩
    · have q0 : q = 0 := by have := of_decide_eq_false hb; omega
      subst q0
      rw [← g] at k
      refine s_retV (Ex.refl H1) (ev_var rfl) ?_
      have e0 : Int.gcd p 0 = p.natAbs := by simp
      rw [e0, show ((p.natAbs : Nat) : Int) = p by omega] at k
      exact (k.up (e.trans e1)).ret
theorem pu_is_whole (h : ∃ a : Int, x = .int a ∧ RetV (.bl true) H Q) : t_is_whole K (En Q) (start N_is_whole [x]) H := by
  obtain ⟨a, rfl, k⟩ := h
  exact s_retV (Ex.refl H) (ev_andV (a := true) (b := true) (ev_isi (n := "int") (ev_var rfl) (fun _ _ => ty_int) (by decide +kernel)) fun _ => ev_notV (a := false) (ev_isi (n := "int") (ev_var rfl) (fun _ _ => ty_int) (by decide +kernel))) k.ret
theorem ev_whole {te : TE} {a : Int} {E : XK} (h : Ev te σ G (.int a)) : Ev (tCall sp_is_whole [] E (tCons te tNil)) σ G (.bl true) :=
  ev_call1 h.p fun x G1 H1 e1 e2 dx Q E q => ⟨x, rfl, a, dx, q⟩
theorem ev_common {ta tb : TE} {a b : Int} {E : XK} (h1 : Ev ta σ G (.int a)) (h2 : Ev tb σ G (.int b)) : Ev (tCall sp_common [] E (tCons ta (tCons tb tNil))) σ G (.int (Int.gcd a b)) :=
  ev_call2 h1.p h2.p fun x y G1 H1 e1 e2 dx dy Q E q => ⟨x, y, rfl, a, b, dx, dy, q⟩
theorem pu_is_fraction (h : ∃ a S, 0 < S ∧ Fr K S a x H ∧ RetV (.bl true) H Q) : t_is_fraction K (En Q) (start N_is_fraction [x]) H := by
  obtain ⟨a, S, hS, ⟨p, rfl, hp⟩, k⟩ := h
  refine q_skip (Ex.refl H) (et_is (et_or (a := false) (b := false) (et_not (a := true) (et_B (ev_isi (n := "tuple") (ev_var rfl) (fun H1 e => ty_tup (ex_t e hp)) (by decide +kernel)))) fun _ => et_test (ev_bl (ev_neI (ev_lenT (ev_var rfl) hp) ev_c) rfl)) rfl) fun H1 r1 => ?_
  have hp1 := ex_t r1.k hp
  refine q_skip (Ex.refl H1) (et_is (et_or (a := false) (b := false) (et_not (a := true) (et_B (ev_whole (ev_ixT0 (ev_var rfl) hp1)))) fun _ => et_not (a := true) (et_B (ev_whole (ev_ixT1 (ev_var rfl) hp1)))) rfl) fun H2 r2 => ?_
  have hp2 := ex_t r2.k hp1
  refine s_retV (Ex.refl H2) (ev_andV (a := true) (b := true) (ev_bl (ev_gt (ev_ixT1 (ev_var rfl) hp2) ev_c) (decide_eq_true (fr_pos hS))) fun _ => ev_bl (ev_eqI (ev_common (ev_ixT0 (ev_var rfl) hp2) (ev_ixT1 (ev_var rfl) hp2)) ev_c) (decide_eq_true ?_)) (k.up (r1.k.trans r2.k)).ret
  rw [fr_gcd hS]; rfl
theorem pu_made (h : ∃ G a b, Ex G H ∧ x = .int a ∧ y = .int b ∧ 0 < b ∧ b < 1073741824 ∧ Ret (Fr K b a) G H Q) : t_made (En Q) (start N_made [x, y]) H := by
  obtain ⟨G, a, b, e, rfl, rfl, h0, h1, k⟩ := h
  refine q_skip e (et_test (ev_bl (ev_eqI (ev_var rfl) ev_c) (decide_eq_false (by omega)))) fun H1 r1 => ?_
  refine q_asgV r1.s (ev_common (ev_var rfl) (ev_var rfl)) fun H2 r2 => ?_
  refine q_skip r2.s (et_test (ev_bl (ev_lt (ev_var rfl) ev_c) (decide_eq_false (by omega)))) fun H3 r3 => ?_
  have g0 := gcd_pos (a := a) h0
  have g1 := gcd_le (a := a) h0
  refine s_retP r3.s (eu_tup (ea_cons (ev_div (ev_var rfl) (ev_var rfl) g0 (by omega)) (ea_cons (ev_div (ev_var rfl) (ev_var rfl) g0 (by omega)) ea_nil)) (by show 2 ≤ 100000; decide)).p ?_
  exact (k.mono ((r1.trans r2).trans r3)).imp fun v G1 ⟨p, ev, hp⟩ => ⟨p, ev, st_of hp⟩
end
end Dt
set_option Elab.async false
set_option linter.all false
set_option maxRecDepth 100000
set_option maxHeartbeats 4000000
/-! Readings: fractions, further. -/
namespace Dt
open PySem PySem.Spec PyProof.Rows L2 Evl DtM
section
variable {K : PySem.W.Frag} {x y z u : V} {G H H' : Hp} {Q : VK} {σ : L2.St} {te ta tb tc td : TE} {E : XK}
theorem ep_made {a b : Int} (h1 : Ev ta σ G (.int a)) (h2 : Ev tb σ G (.int b)) (hb : 0 < b) (hb2 : b < 1073741824) : EvP (tCall (sp_made K) [] E (tCons ta (tCons tb tNil))) σ G (Fr K b a) :=
  ep_call2 h1.p h2.p fun x y G1 H1 e1 e2 dx dy Q E q => ⟨x, y, rfl, G1, a, b, e2, dx, dy, hb, hb2, q⟩
theorem sm_2 {S a : Int} (h : Sm S) : 0 < (fr a S).2 ∧ (fr a S).2 ≤ 30000 := ⟨fr_pos h.1, Int.le_trans (fr_le h.1) h.2⟩
theorem sm_mul {x y : Int} (h1 : 0 < x ∧ x ≤ 30000) (h2 : 0 < y ∧ y ≤ 30000) : 0 < x * y ∧ x * y < 1073741824 := by
  have a := Int.mul_pos h1.1 h2.1
  have b := Int.mul_le_mul h1.2 h2.2 (by omega) (by omega)
  omega
theorem pu_plus (h : ∃ G S a b, Ex G H ∧ Sm S ∧ Fr K S a x G ∧ Fr K S b y G ∧ Ret (Fr K S (a + b)) G H Q) : t_plus K (En Q) (start N_plus [x, y]) H := by
  obtain ⟨G, S, a, b, e, hS, ⟨p, rfl, hp⟩, ⟨q, rfl, hq⟩, k⟩ := h
  have s1 := sm_2 (a := a) hS
  have s2 := sm_2 (a := b) hS
  have m := sm_mul s1 s2
  refine s_retP e (ep_made (K := K) (ev_add (ev_mul (ev_ixT0 (ev_var rfl) hp) (ev_ixT1 (ev_var rfl) hq) (cmul_r (by omega) (by omega))) (ev_mul (ev_ixT0 (ev_var rfl) hq) (ev_ixT1 (ev_var rfl) hp) (cmul_r (by omega) (by omega)))) (ev_mul (ev_ixT1 (ev_var rfl) hp) (ev_ixT1 (ev_var rfl) hq) (cmul_r (by omega) (by omega))) m.1 m.2) ?_
  refine k.imp fun v G1 ⟨p, ev, hp⟩ => ⟨p, ev, ?_⟩
  rw [fr_plus hS.1] at hp
  exact hp
theorem pu_minus (h : ∃ G S a b, Ex G H ∧ Sm S ∧ Fr K S a x G ∧ Fr K S b y G ∧ Ret (Fr K S (a - b)) G H Q) : t_minus K (En Q) (start N_minus [x, y]) H := by
  obtain ⟨G, S, a, b, e, hS, ⟨p, rfl, hp⟩, ⟨q, rfl, hq⟩, k⟩ := h
  have s1 := sm_2 (a := a) hS
  have s2 := sm_2 (a := b) hS
  have m := sm_mul s1 s2
  refine s_retP e (ep_made (K := K) (ev_sub (ev_mul (ev_ixT0 (ev_var rfl) hp) (ev_ixT1 (ev_var rfl) hq) (cmul_r (by omega) (by omega))) (ev_mul (ev_ixT0 (ev_var rfl) hq) (ev_ixT1 (ev_var rfl) hp) (cmul_r (by omega) (by omega)))) (ev_mul (ev_ixT1 (ev_var rfl) hp) (ev_ixT1 (ev_var rfl) hq) (cmul_r (by omega) (by omega))) m.1 m.2) ?_
  refine k.imp fun v G1 ⟨p, ev, hp⟩ => ⟨p, ev, ?_⟩
  rw [fr_minus hS.1] at hp
  exact hp
theorem pu_less (h : ∃ S a b, Sm S ∧ Fr K S a x H ∧ Fr K S b y H ∧ RetV (.bl (decide (a < b))) H Q) : t_less K (En Q) (start N_less [x, y]) H := by
  obtain ⟨S, a, b, hS, ⟨p, rfl, hp⟩, ⟨q, rfl, hq⟩, k⟩ := h
  have s1 := sm_2 (a := a) hS
  have s2 := sm_2 (a := b) hS
  refine s_retV (Ex.refl H) (ev_bl (ev_lt (ev_mul (ev_ixT0 (ev_var rfl) hp) (ev_ixT1 (ev_var rfl) hq) (cmul_r (by omega) (by omega))) (ev_mul (ev_ixT0 (ev_var rfl) hq) (ev_ixT1 (ev_var rfl) hp) (cmul_r (by omega) (by omega)))) ?_) k.ret
  exact decide_eq_decide.mpr (fr_less hS.1)
theorem pu_unsigned (h : ∃ G S a, Ex G H ∧ Sm S ∧ Fr K S a x G ∧ Ret (Fr K S (if a < 0 then -a else a)) G H Q) : t_unsigned K (En Q) (start N_unsigned [x]) H := by
  obtain ⟨G, S, a, e, hS, ⟨p, rfl, hp⟩, k⟩ := h
  refine s_retP e (eu_tup (ea_cons (ev_abs (ev_ixT0 (ev_var rfl) hp)) (ea_cons (ev_ixT1 (ev_var rfl) hp) ea_nil)) (by show 2 ≤ 100000; decide)).p (k.imp fun v G1 ⟨p, ev, hp⟩ => ⟨p, ev, st_of ?_⟩)
  rw [← fr_abs hS.1]
  exact hp
theorem pu_floor_of (h : ∃ S a, Sm S ∧ Fr K S a x H ∧ RetV (.int (a / S)) H Q) : t_floor_of K (En Q) (start N_floor_of [x]) H := by
  obtain ⟨S, a, hS, ⟨p, rfl, hp⟩, k⟩ := h
  have s1 := sm_2 (a := a) hS
  exact s_retV (Ex.refl H) (ev_int (ev_div (ev_ixT0 (ev_var rfl) hp) (ev_ixT1 (ev_var rfl) hp) s1.1 (by omega)) (fr_floor hS.1)) k.ret
theorem pu_ceiling_of (h : ∃ S a, Sm S ∧ Fr K S a x H ∧ RetV (.int (-((-a) / S))) H Q) : t_ceiling_of K (En Q) (start N_ceiling_of [x]) H := by
  obtain ⟨S, a, hS, ⟨p, rfl, hp⟩, k⟩ := h
  have s1 := sm_2 (a := a) hS
  refine s_retV (Ex.refl H) (ev_int (ev_neg (ev_div (ev_neg (ev_ixT0 (ev_var rfl) hp)) (ev_ixT1 (ev_var rfl) hp) s1.1 (by omega))) ?_) k.ret
  have n := fr_neg (a := a) hS.1
  have f := fr_floor (a := -a) hS.1
  rw [n] at f
  rw [← f]
/-! ### calls of these -/
theorem ep_plus {S a b : Int} (hS : Sm S) (h1 : EvP ta σ G (Fr K S a)) (h2 : EvP tb σ G (Fr K S b)) : EvP (tCall (sp_plus K) [] E (tCons ta (tCons tb tNil))) σ G (Fr K S (a + b)) :=
  ep_call2 h1 h2 fun x y G1 H1 e1 e2 dx dy Q E q => ⟨x, y, rfl, G1, S, a, b, e2, hS, dx, dy, q⟩
theorem ep_minus {S a b : Int} (hS : Sm S) (h1 : EvP ta σ G (Fr K S a)) (h2 : EvP tb σ G (Fr K S b)) : EvP (tCall (sp_minus K) [] E (tCons ta (tCons tb tNil))) σ G (Fr K S (a - b)) :=
  ep_call2 h1 h2 fun x y G1 H1 e1 e2 dx dy Q E q => ⟨x, y, rfl, G1, S, a, b, e2, hS, dx, dy, q⟩
theorem ev_less {S a b : Int} (hS : Sm S) (h1 : EvP ta σ G (Fr K S a)) (h2 : EvP tb σ G (Fr K S b)) : Ev (tCall (sp_less K) [] E (tCons ta (tCons tb tNil))) σ G (.bl (decide (a < b))) :=
  ev_call2 h1 h2 fun x y G1 H1 e1 e2 dx dy Q E q => ⟨x, y, rfl, S, a, b, hS, up_ dx e2, up_ dy e2, q⟩
theorem ep_unsigned {S a : Int} (hS : Sm S) (h1 : EvP ta σ G (Fr K S a)) : EvP (tCall (sp_unsigned K) [] E (tCons ta tNil)) σ G (Fr K S (if a < 0 then -a else a)) :=
  ep_call1 h1 fun x G1 H1 e1 e2 dx Q E q => ⟨x, rfl, G1, S, a, e2, hS, dx, q⟩
theorem ev_floor {S a : Int} (hS : Sm S) (h1 : EvP ta σ G (Fr K S a)) : Ev (tCall (sp_floor_of K) [] E (tCons ta tNil)) σ G (.int (a / S)) :=
  ev_call1 h1 fun x G1 H1 e1 e2 dx Q E q => ⟨x, rfl, S, a, hS, up_ dx e2, q⟩
theorem ev_ceil {S a : Int} (hS : Sm S) (h1 : EvP ta σ G (Fr K S a)) : Ev (tCall (sp_ceiling_of K) [] E (tCons ta tNil)) σ G (.int (-((-a) / S))) :=
  ev_call1 h1 fun x G1 H1 e1 e2 dx Q E q => ⟨x, rfl, S, a, hS, up_ dx e2, q⟩
/-- the written (k, 1) -/
theorem ep_k1 {S k : Int} (hS : Sm S) (h1 : Ev ta σ G (.int k)) : EvP (tTup (tCons ta (tCons (tC (.int 1)) tNil))) σ G (Fr K S (k * S)) :=
  (eu_tup (ea_cons h1 (ea_cons ev_c ea_nil)) (by show 2 ≤ 100000; decide)).p.imp fun v G1 _ ⟨p, ev, hp⟩ => ⟨p, ev, st_of (by rw [fr_whole hS.1]; exact hp)⟩
theorem ep_k1' {S k m : Int} (hS : Sm S) (hm : k * S = m) (h1 : Ev ta σ G (.int k)) : EvP (tTup (tCons ta (tCons (tC (.int 1)) tNil))) σ G (Fr K S m) := by
  rw [← hm]; exact ep_k1 hS h1
theorem fr_tN {mg : Str → Option Value} {aN aO : Addr} (T : Txt K mg aN aO) {S : Int} (hS : 0 < S) : Fr K S 0 (.ref aN) G := ⟨aN, rfl, by rw [fr_nought hS]; exact T.tN G⟩
theorem fr_tO {mg : Str → Option Value} {aN aO : Addr} (T : Txt K mg aN aO) {S : Int} (hS : 0 < S) : Fr K S S (.ref aO) G := ⟨aO, rfl, by rw [fr_one hS]; exact T.tO G⟩
theorem wts_sm {w : List Int} (h : Wts w) : Sm w.sum := ⟨h.ps, by have := h.ss; omega⟩
end
end Dt
set_option Elab.async false
set_option linter.all false
set_option maxRecDepth 100000
set_option maxHeartbeats 4000000
/-! Readings: weights, spells. -/
namespace Dt
open PySem PySem.Spec PyProof.Rows L2 Evl DtM
section
variable {K : PySem.W.Frag} {x y z u v : V} {G H H' : Hp} {Q : VK} {σ : L2.St} {te ta tb tc td : TE} {E : XK} {D : Ends} {tu tz : TS}
/-! ### data that == reads -/
mutual
theorem dp_up {H H' : Hp} (e : Ex H H') : ∀ (d : PyData) (v : V), Dp K H v d → Dp K H' v d
  | .none, _, h => by cases h; exact .non
  | .bool b, _, h => by cases h; exact .bl b
  | .int i, _, h => by cases h; exact .int i
  | .str x, _, h => by cases h; exact .str x
  | .list ds, _, h => by
    cases h with
    | lst hs ha => exact .lst (ex_l e hs) (dpa_up e ds _ ha)
  | .tuple ds, _, h => by
    cases h with
    | tup hs ha => exact .tup (ex_t e hs) (dpa_up e ds _ ha)
  | .dict _, _, h => by cases h
theorem dpa_up {H H' : Hp} (e : Ex H H') : ∀ (ds : List PyData) (vs : List V), DpAll K H vs ds → DpAll K H' vs ds
  | [], _, h => by cases h; exact .nil
  | d :: ds, _, h => by
    cases h with
    | cons h1 h2 => exact .cons (dp_up e d _ h1) (dpa_up e ds _ h2)
end
theorem rv_eqD {d e : PyData} (hx : Dp K H x d) (hy : Dp K H y e) (sd : SeqAt.shaped d = true) (se : SeqAt.shaped e = true) : RV (rEqD K) x y H (.bl (PyData.eqv d e)) := fun H1 e1 Q q => ⟨d, e, dp_up e1 d x hx, dp_up e1 e y hy, sd, se, q H1 (Ex.refl H1)⟩
theorem rv_neD {d e : PyData} (hx : Dp K H x d) (hy : Dp K H y e) (sd : SeqAt.shaped d = true) (se : SeqAt.shaped e = true) : RV (rNeD K) x y H (.bl (!PyData.eqv d e)) := fun H1 e1 Q q => ⟨d, e, dp_up e1 d x hx, dp_up e1 e y hy, sd, se, q H1 (Ex.refl H1)⟩
/-- a thing that == reads, at most n deep -/
def Dn (K : PySem.W.Frag) (n : Nat) (v : V) (H : Hp) : Prop := ∃ d, Dp K H v d ∧ d.canLay0 = true ∧ d.depth ≤ n
theorem dn_shaped {d : PyData} {n : Nat} (h1 : d.canLay0 = true) (h2 : d.depth ≤ n) (hn : n ≤ 64) : SeqAt.shaped d = true := by
  unfold SeqAt.shaped
  rw [h1, decide_eq_true (Nat.le_trans h2 hn)]; rfl
theorem dn_int {i : Int} {n : Nat} : Dn K n (.int i) H := ⟨.int i, .int i, by simp [PyData.canLay0], by simp [PyData.depth]⟩
theorem dn_all {n : Nat} : ∀ {vs : List V}, (∀ v ∈ vs, Dn K n v H) → ∃ ds, DpAll K H vs ds ∧ ds.length = vs.length ∧ PyData.canLayAll0 ds = true ∧ PyData.depthAll ds ≤ n
  | [], _ => ⟨[], .nil, rfl, by simp [PyData.canLayAll0], by simp [PyData.depthAll]⟩
  | v :: vs, h => by
    obtain ⟨d, h1, h2, h3⟩ := h v List.mem_cons_self
    obtain ⟨ds, k1, k2, k3, k4⟩ := dn_all (vs := vs) fun x hx => h x (List.mem_cons_of_mem _ hx)
    refine ⟨d :: ds, .cons h1 k1, by rw [List.length_cons, k2, List.length_cons], by simp [PyData.canLayAll0, h2, k3], ?_⟩
    simp only [PyData.depthAll]
    omega
theorem dn_lst {n : Nat} {p : Addr} {vs : List V} (hp : SqL K H p vs) (h : ∀ v ∈ vs, Dn K n v H) : ∃ ds, Dp K H (.ref p) (.list ds) ∧ ds.length = vs.length ∧ (PyData.list ds).canLay0 = true ∧ (PyData.list ds).depth ≤ n + 1 := by
  obtain ⟨ds, k1, k2, k3, k4⟩ := dn_all h
  refine ⟨ds, .lst hp k1, k2, by simp [PyData.canLay0, k3], ?_⟩
  simp only [PyData.depth]
  omega
theorem dn_tup {n : Nat} {p : Addr} {vs : List V} (hp : SqT K H p vs) (h : ∀ v ∈ vs, Dn K n v H) : Dn K (n + 1) (.ref p) H := by
  obtain ⟨ds, k1, k2, k3, k4⟩ := dn_all h
  refine ⟨.tuple ds, .tup hp k1, by simp [PyData.canLay0, k3], ?_⟩
  simp only [PyData.depth]
  omega
theorem eqv_len {ds es : List PyData} (h : ds.length ≠ es.length) : PyData.eqvAll ds es = false := by
  induction ds generalizing es with
  | nil => cases es with
    | nil => exact absurd rfl h
    | cons e es => simp [PyData.eqvAll]
  | cons d ds ih => cases es with
    | nil => simp [PyData.eqvAll]
    | cons e es =>
      simp only [PyData.eqvAll]
      rw [ih (by simpa using h), Bool.and_false]
theorem eqv_ints (ns ms : List Int) : PyData.eqvAll (ns.map PyData.int) (ms.map PyData.int) = decide (ns = ms) := by
  induction ns generalizing ms with
  | nil => cases ms <;> simp [PyData.eqvAll]
  | cons n ns ih => cases ms with
    | nil => simp [PyData.eqvAll]
    | cons m ms =>
      simp only [List.map_cons, PyData.eqvAll, PyData.eqv]
      rw [ih, Bool.eq_iff_iff]
      simp
theorem dp_ints {p : Addr} {ns : List Int} (hp : SqL K H p (ns.map V.int)) : Dp K H (.ref p) (.list (ns.map PyData.int)) := by
  refine .lst hp ?_
  clear hp
  induction ns with
  | nil => exact .nil
  | cons n ns ih => exact .cons (.int n) ih
theorem sh_ints (ns : List Int) : SeqAt.shaped (.list (ns.map PyData.int)) = true := by
  refine dn_shaped (n := 2) ?_ ?_ (by decide)
  · simp only [PyData.canLay0]
    induction ns with
    | nil => simp [PyData.canLayAll0]
    | cons n ns ih => simp [PyData.canLayAll0, PyData.canLay0, ih]
  · simp only [PyData.depth]
    have : PyData.depthAll (ns.map PyData.int) ≤ 1 := by
      induction ns with
      | nil => simp [PyData.depthAll]
      | cons n ns ih => simp only [List.map_cons, PyData.depthAll, PyData.depth]; omega
    omega
theorem rv_neL {p q : Addr} {ns ms : List Int} (hp : SqL K H p (ns.map V.int)) (hq : SqL K H q (ms.map V.int)) : RV (rNeD K) (.ref p) (.ref q) H (.bl (!decide (ns = ms))) := by
  have := rv_neD (K := K) (H := H) (dp_ints hp) (dp_ints hq) (sh_ints ns) (sh_ints ms)
  simp only [PyData.eqv] at this
  rw [eqv_ints] at this
  exact this
theorem rv_eqL {p q : Addr} {ns ms : List Int} (hp : SqL K H p (ns.map V.int)) (hq : SqL K H q (ms.map V.int)) : RV (rEqD K) (.ref p) (.ref q) H (.bl (decide (ns = ms))) := by
  have := rv_eqD (K := K) (H := H) (dp_ints hp) (dp_ints hq) (sh_ints ns) (sh_ints ms)
  simp only [PyData.eqv] at this
  rw [eqv_ints] at this
  exact this
/-! ### lists of ints -/
theorem ints_at {ns : List Int} {i : Nat} (h : (ns.map V.int)[i]? = some x) : ∃ z, ns[i]? = some z ∧ x = .int z := by
  rw [List.getElem?_map] at h
  cases e : ns[i]? with
  | none => rw [e] at h; cases h
  | some z => rw [e] at h; exact ⟨z, rfl, (Option.some.inj h).symm⟩
theorem ints_get {ns : List Int} {i : Nat} (h : i < ns.length) : (ns.map V.int)[i]? = some (.int (ns.getD i 0)) := by
  rw [List.getElem?_map, List.getElem?_eq_getElem h]
  simp [List.getD_eq_getElem?_getD, List.getElem?_eq_getElem h]
theorem len_i (ns : List Int) : ((ns.map V.int).length : Int) = ns.length := by rw [List.length_map]
theorem sq_i {p : Addr} {xs : List V} (h : H p = some (.lst xs)) : SqL K H p xs := sq_of h
theorem pu_are_weights (h : ∃ w, Wts w ∧ Ints w x H ∧ RetV (.bl true) H Q) : t_are_weights K (En Q) (start N_are_weights [x]) H := by
  obtain ⟨w, hw, ⟨p, rfl, hp⟩, k⟩ := h
  refine q_skip (Ex.refl H) (et_is (et_or (a := false) (b := false) (et_not (a := true) (et_B (ev_isi (n := "list") (ev_var rfl) (fun H1 e => ty_lst (e p _ hp)) (by decide +kernel)))) fun _ => et_not (a := true) (et_test (ev_bl (ev_chain ev_c (ev_lenE (ev_var rfl) (sq_of hp) (len_i w)) ev_c rv_le rv_le) ?_))) rfl) fun H1 r1 => ?_
  · have := hw.l2; have := hw.l6
    rw [decide_eq_true (by omega), decide_eq_true (by omega)]; rfl
  · refine q_forLn (K := K) (ev_var rfl) (sq_of (r1.k p _ hp)) (fun i σ' H' => ∃ v, σ' = [some (.ref p), v] ∧ Ex H H') (fun H2 e => ⟨none, rfl, r1.k.trans e⟩) (fun i σ' H' _ ⟨v, _, e⟩ => sq_of (e p _ hp)) ?_ ?_
    · rintro i y σ' H' hi ⟨v, rfl, e⟩
      obtain ⟨z, hz, rfl⟩ := ints_at hi
      have m := List.mem_of_getElem? hz
      refine s_skip (Ex.refl H') (et_is (et_or (a := false) (b := false) (et_not (a := true) (et_B (ev_whole (ev_var rfl)))) fun _ => et_not (a := true) (et_test (ev_bl (ev_chain ev_c (ev_var rfl) ev_c rv_le rv_le) ?_))) rfl) fun H2 r2 => ⟨_, rfl, e.trans r2.k⟩
      have := hw.nn z m; have := hw.le z m
      rw [decide_eq_true (by omega), decide_eq_true (by omega)]; rfl
    · rintro σ' H' ⟨v, rfl, e⟩
      exact s_retV (Ex.refl H') (ev_bl (ev_gt (ev_sum (K := K) (ev_var rfl) (sq_of (e p _ hp))) ev_c) (decide_eq_true hw.ps)) (k.up e).ret
theorem ev_areW {w : List Int} (hw : Wts w) (h : EvP te σ G (Ints w)) : Ev (tCall sp_are_weights [] E (tCons te tNil)) σ G (.bl true) :=
  ev_call1 h fun x G1 H1 e1 e2 dx Q E q => ⟨x, rfl, w, hw, up_ dx e2, q⟩
theorem pu_is_spell (h : ∃ (n : Int) (w : List Int), 1 ≤ n ∧ n ≤ 60 ∧ Wts w ∧ Pr K (Is (.int n)) (Ints w) x H ∧ RetV (.bl true) H Q) : t_is_spell K (En Q) (start N_is_spell [x]) H := by
  obtain ⟨n, w, h1, h2, hw, ⟨p, v0, v1, rfl, hp, e0, d1⟩, k⟩ := h
  cases e0
  refine q_skip (Ex.refl H) (et_is (et_or (a := false) (b := false) (et_not (a := true) (et_B (ev_isi (n := "tuple") (ev_var rfl) (fun H1 e => ty_tup (ex_t e hp)) (by decide +kernel)))) fun _ => et_test (ev_bl (ev_neI (ev_lenT (ev_var rfl) hp) ev_c) rfl)) rfl) fun H1 r1 => ?_
  have hp1 := ex_t r1.k hp
  refine q_skip (Ex.refl H1) (et_is (et_or (a := false) (b := false) (et_not (a := true) (et_B (ev_whole (ev_ixT0 (ev_var rfl) hp1)))) fun _ => et_not (a := true) (et_test (ev_bl (ev_chain ev_c (ev_ixT0 (ev_var rfl) hp1) ev_c rv_le rv_le) ?_))) rfl) fun H2 r2 => ?_
  · rw [decide_eq_true h1, decide_eq_true h2]; rfl
  · have hp2 := ex_t r2.k hp1
    exact s_retV (Ex.refl H2) (ev_areW hw ((ev_ixT1 (ev_var rfl) hp2).dsc (up_ d1 (r1.k.trans r2.k)))) (k.up (r1.k.trans r2.k)).ret
theorem ev_isSp {n : Int} {w : List Int} (h1 : 1 ≤ n) (h2 : n ≤ 60) (hw : Wts w) (h : EvP te σ G (Pr K (Is (.int n)) (Ints w))) : Ev (tCall (sp_is_spell K) [] E (tCons te tNil)) σ G (.bl true) :=
  ev_call1 h fun x G1 H1 e1 e2 dx Q E q => ⟨x, rfl, n, w, h1, h2, hw, up_ dx e2, q⟩
end
end Dt
set_option Elab.async false
set_option linter.all false
set_option maxRecDepth 100000
set_option maxHeartbeats 4000000
/-! Readings: spells, plans. -/
namespace Dt
open PySem PySem.Spec PyProof.Rows L2 Evl DtM
/-- the classes as the top leaves them -/
structure PlanC (K : PySem.W.Frag) (C : Addr) : Prop where
  cl : Cls K C
  nK : NoAttr K C "kept"
  nT : NoAttr K C "table"
structure CredC (K : PySem.W.Frag) (C : Addr) : Prop where
  cl : Cls K C
  nN : NoAttr K C "now"
  nO : NoAttr K C "owed"
  nR : NoAttr K C "row"
  nD : NoAttr K C "deeds"
section
variable {K : PySem.W.Frag} {x y z u v : V} {G G1 H H' : Hp} {Q : VK} {σ : L2.St} {te ta tb tc td : TE} {E : XK} {D : Ends} {tu tz : TS} {a C dx : Addr} {fs : List (Str × V)} {f : Str} {d : Dsc}
theorem ev_fld (ha : Ev ta σ G (.ref a)) (ho : G a = some (.ins C dx fs)) (hc : Cls K C) (hn : NoAttr K C f) (hl : fs.lookup f = some v) : Ev (tFld K ta f) σ G v := fun H1 e Q q =>
  ha H1 e _ fun H2 e2 => ⟨a, C, dx, fs, v, rfl, (e.trans e2) a _ ho, hc, hn, hl, q H2 e2⟩
theorem s_fldP (e : Ex G H) (h : EvP te σ G d) (ha : Ev ta σ H (.ref a)) (ho : H a = some (.ins C dx fs)) (hc : Cls K C) (hn : NoAttr K C f) (hl : fs.length < 1000)
    (k : ∀ v G1 H1, Gr G H G1 H1 → d v G1 → D.nx σ (upd H1 a (.ins C dx (putF f v fs)))) : sFld K ta te f D σ H :=
  h H e _ fun v G1 H1 r dv => ha H1 r.k _ fun H2 e2 => ⟨a, C, dx, fs, rfl, (r.k.trans e2) a _ ho, hc, hn, hl, k v G1 H2 (r.trans (Gr.of r.s e2)) dv⟩
theorem q_fldP (e : Ex G H) (h : EvP te σ G d) (ha : Ev ta σ H (.ref a)) (ho : H a = some (.ins C dx fs)) (hc : Cls K C) (hn : NoAttr K C f) (hl : fs.length < 1000)
    (k : ∀ v G1 H1, Gr G H G1 H1 → d v G1 → tz D σ (upd H1 a (.ins C dx (putF f v fs)))) : tSeq (sFld K ta te f) tz D σ H := s_fldP (D := { D with nx := tz D }) e h ha ho hc hn hl k
/-- a new list of n like things -/
theorem el_rep {n : Nat} (ha : EvL ta σ G [v]) (hb : Ev tb σ G (.int n)) (hn : n ≤ 100000) : EvL (tOp rRep ta tb) σ G (List.replicate n v) := fun H1 e Q q =>
  ha H1 e _ fun p H2 n1 e2 hp => hb H2 (e.trans e2) _ fun H3 e3 => ⟨p, n, [v], rfl, rfl, e3 p _ hp, by omega, by omega, by
    have : ([v] : List V).length * (n : Int).toNat = n := by simp
    rw [this]; exact sz_of hn, fun l hl => by
    have el : (List.replicate (n : Int).toNat [v]).flatten = List.replicate n v := by
      rw [Int.toNat_natCast]
      clear hb hn q
      induction n with
      | zero => rfl
      | succ k ih => rw [List.replicate_succ, List.replicate_succ, List.flatten_cons, ih]; rfl
    have q2 := q l (upd H3 l (.lst ((List.replicate (n : Int).toNat [v]).flatten))) (none_back (e2.trans e3) hl) ((e2.trans e3).trans (Ex.new hl)) (by rw [el]; exact upd_same)
    exact q2⟩
theorem eu_tupL {p : Addr} {xs : List V} (ha : Ev ta σ G (.ref p)) (h : SqL K G p xs) : EvU (tCB (rTupS K) (tCons ta tNil)) σ G xs := fun H1 e Q q =>
  ha H1 e _ fun H2 e2 => ⟨p, xs, rfl, Or.inl ⟨ex_l (e.trans e2) h, fun l hl => q l _ (none_back e2 hl) (e2.trans (Ex.new hl)) upd_same⟩⟩
theorem eu_tupN {xs : List V} (ha : EvL ta σ G xs) : EvU (tCB (rTupS K) (tCons ta tNil)) σ G xs := fun H1 e Q q =>
  ha H1 e _ fun p H2 n e2 hp => ⟨p, xs, rfl, Or.inl ⟨sq_of hp, fun l hl => q l _ (none_back e2 hl) (e2.trans (Ex.new hl)) upd_same⟩⟩
theorem sum_take_le {ns : List Int} (h : ∀ n ∈ ns, 0 ≤ n) (i : Nat) : (ns.take i).sum ≤ ns.sum := by
  induction ns generalizing i with
  | nil => simp
  | cons n ns ih =>
    cases i with
    | zero =>
      have h0 := ih (fun m hm => h m (List.mem_cons_of_mem _ hm)) 0
      have := h n List.mem_cons_self
      simp only [List.take_zero, List.sum_nil, List.sum_cons] at h0 ⊢
      omega
    | succ i =>
      have := ih (fun m hm => h m (List.mem_cons_of_mem _ hm)) i
      simp only [List.take_succ_cons, List.sum_cons]
      omega
theorem sum_take1 {ns : List Int} {i : Nat} (h : i < ns.length) : (ns.take (i + 1)).sum = (ns.take i).sum + ns.getD i 0 := by
  have e : ns[i]? = some (ns.getD i 0) := by simp [List.getD_eq_getElem?_getD, List.getElem?_eq_getElem h]
  exact sum_take e
theorem getD_mem {ns : List Int} {i : Nat} (h : i < ns.length) : ns.getD i 0 ∈ ns := by
  have e : ns[i]? = some (ns.getD i 0) := by simp [List.getD_eq_getElem?_getD, List.getElem?_eq_getElem h]
  exact List.mem_of_getElem? e
theorem pu_check_spells (h : ∃ ns w, Wts w ∧ SpellsOk ns ∧ SpellsD K ns w x H ∧ RetV .non H Q) : t_check_spells K (En Q) (start N_check_spells [x]) H := by
  obtain ⟨ns, w, hw, ⟨o1, o2, o3, o4⟩, ⟨p, xs, rfl, hp, hl, hd⟩, k⟩ := h
  have hn0 : 0 < ns.length := List.length_pos_iff.mpr o1
  have nn : ∀ n ∈ ns, 0 ≤ n := fun n hn => by have := o3 n hn; omega
  refine q_skip (Ex.refl H) (et_is (et_or (a := false) (b := false) (et_not (a := true) (et_B (ev_isi (n := "list") (ev_var rfl) (fun H1 e => ty_lst (e p _ hp)) (by decide +kernel)))) fun _ => et_test (ev_opL (ev_var rfl) el_nil fun q H1 hq e => ?_)) rfl) fun H1 r1 => ?_
  · have ha : ∀ v ∈ xs, Dn K 2 v H1 := fun v hv => by
      obtain ⟨i, hi⟩ := List.getElem?_of_mem hv
      obtain ⟨p2, v0, v1, rfl, hp2, e0, ⟨p3, rfl, hp3⟩⟩ := hd i v hi
      cases e0
      refine dn_tup (n := 1) (ex_t e hp2) fun z hz => ?_
      rcases List.mem_cons.mp hz with rfl | hz
      · exact dn_int
      · obtain rfl := List.mem_singleton.mp hz
        obtain ⟨ds, d1, _, d3, d4⟩ := dn_lst (K := K) (n := 0) (sq_of (e p3 _ hp3)) fun z hz => by
          obtain ⟨m, _, rfl⟩ := List.mem_map.mp hz
          exact dn_int
        exact ⟨_, d1, d3, d4⟩
    obtain ⟨ds, d1, d2, d3, d4⟩ := dn_lst (K := K) (sq_of (e p _ hp)) ha
    have := rv_eqD (K := K) (H := H1) d1 (dp_ints (ns := []) (sq_of hq)) (dn_shaped d3 d4 (by decide)) (sh_ints [])
    have ez : PyData.eqv (.list ds) (.list (([] : List Int).map PyData.int)) = false := by
      simp only [PyData.eqv]
      exact eqv_len (by rw [d2, hl]; simp; omega)
    rw [ez] at this
    exact this
  · refine q_asgV r1.s ev_c fun H2 r2 => ?_
    have e2 := r1.k.trans r2.k
    refine s_forR1 (n := ns.length) (ea_cons (ev_lenE (K := K) (ev_var rfl) (sq_of (e2 p _ hp)) (by rw [hl])) ea_nil) (by omega) (fun i σ' H' => ∃ a b, σ' = [some (.ref p), some (.int (ns.take i).sum), a, b] ∧ Ex H H') (fun H3 e3 => ⟨none, none, rfl, e2.trans e3⟩) ?_ ?_
    · rintro i σ' H' hi ⟨a, b, rfl, e⟩
      have hi' : i < ns.length := by omega
      obtain ⟨v, hv⟩ : ∃ v, xs[i]? = some v := ⟨xs[i]'(by omega), List.getElem?_eq_getElem (by omega)⟩
      obtain ⟨v0, hv0⟩ : ∃ v, xs[0]? = some v := ⟨xs[0]'(by omega), List.getElem?_eq_getElem (by omega)⟩
      have dv := hd i v hv
      have dv0 := hd 0 v0 hv0
      have hm := getD_mem hi'
      refine q_asgV (Ex.refl H') (ev_ixL (K := K) (ev_var rfl) (ev_var rfl) (sq_of (e p _ hp)) hv) fun H3 r3 => ?_
      have e3 := e.trans r3.k
      refine q_skip (Ex.refl H3) (et_is (et_or (a := false) (b := false) (et_test (ev_bl (ev_ge (ev_var rfl) ev_c) (decide_eq_false (by omega)))) fun _ => et_not (a := true) (et_B (ev_isSp (K := K) (o3 _ hm).1 (o3 _ hm).2 hw ((ev_var rfl).dsc (up_ dv e3))))) rfl) fun H4 r4 => ?_
      have e4 := e3.trans r4.k
      obtain ⟨p2, w0, w1, rfl, hp2, ew, ⟨p3, rfl, hp3⟩⟩ := dv
      cases ew
      obtain ⟨p4, u0, u1, rfl, hp4, eu, ⟨p5, rfl, hp5⟩⟩ := dv0
      cases eu
      refine q_asgV (Ex.refl H4) (ev_add (ev_var rfl) (ev_ixT0 (K := K) (ev_var rfl) (ex_t e4 hp2))) fun H5 r5 => ?_
      have e5 := e4.trans r5.k
      have st := sum_take1 hi'
      have sl := sum_take_le nn (i + 1)
      refine s_skip (Ex.refl H5) (et_is (et_or (a := false) (b := false) (et_test (ev_bl (ev_neI (ev_lenE (K := K) (ev_ixT1 (K := K) (ev_var rfl) (ex_t e5 hp2)) (sq_of (e5 p3 _ hp3)) (len_i w)) (ev_lenE (K := K) (ev_ixT1 (K := K) (ev_ixL (K := K) (j := 0) (ev_var rfl) ev_c (sq_of (e5 p _ hp)) hv0) (ex_t e5 hp4)) (sq_of (e5 p5 _ hp5)) (len_i w))) (by rw [decide_eq_true rfl]; rfl))) fun _ => et_test (ev_bl (ev_gt (ev_var rfl) ev_c) (decide_eq_false (by omega)))) rfl) fun H6 r6 => ?_
      exact ⟨some (.int i), some (.ref p2), by rw [st]; rfl, e5.trans r6.k⟩
    · rintro σ' H' ⟨a, b, rfl, e⟩
      exact k H' e
theorem pu_Plan_many (PC : PlanC K C) (h : ∃ ns w, ns ≠ [] ∧ KeptAt K C ns w x H ∧ RetV (.int w.length) H Q) : t_Plan_many K (En Q) (start N_Plan_many [x]) H := by
  obtain ⟨ns, w, h0, ⟨p, dx, fs, kv, rfl, hp, hk, hm, ⟨q, xs, rfl, hq, hl, hd⟩⟩, k⟩ := h
  have hn0 : 0 < ns.length := List.length_pos_iff.mpr h0
  obtain ⟨v0, hv0⟩ : ∃ v, xs[0]? = some v := ⟨xs[0]'(by omega), List.getElem?_eq_getElem (by omega)⟩
  obtain ⟨p4, u0, u1, rfl, hp4, eu, ⟨p5, rfl, hp5⟩⟩ := hd 0 v0 hv0
  exact s_retV (Ex.refl H) (ev_int (ev_lenT (K := K) (ev_ixT1 (K := K) (ev_ixL (K := K) (j := 0) (ev_fld (ev_var rfl) hp PC.cl PC.nK hk) ev_c (sq_of hq) hv0) hp4) hp5) (len_i w)) k.ret
end
end Dt
set_option Elab.async false
set_option linter.all false
set_option maxRecDepth 100000
set_option maxHeartbeats 4000000
/-! Readings: plans made. -/
namespace Dt
open PySem PySem.Spec PyProof.Rows L2 Evl DtM
/-! ### descriptions that don't hang on an instance -/
def del (G : Hp) (p : Addr) : Hp := fun a => if a = p then none else G a
class Ni (d : Dsc) : Prop where
  ni : ∀ v G p C dx fs, G p = some (.ins C dx fs) → d v G → d v (del G p)
section
variable {K : PySem.W.Frag} {x y z u v : V} {G G1 G2 H H' H1 H2 : Hp} {Q : VK} {σ : L2.St} {te ta tb tc td : TE} {E : XK} {D : Ends} {tu tz : TS} {p C dx : Addr} {fs : List (Str × V)} {f : Str} {d : Dsc} {o : HO}
theorem del_ne {a : Addr} (h : a ≠ p) : del G p a = G a := by unfold del; rw [if_neg h]
theorem del_same : del G p p = none := by unfold del; rw [if_pos rfl]
theorem ex_del : Ex (del G p) G := fun b u q => by
  by_cases c : b = p
  · subst c; rw [del_same] at q; cases q
  · rw [del_ne c] at q; exact q
theorem ex_delu : Ex (del G p) (upd G p o) := fun b u q => by
  by_cases c : b = p
  · subst c; rw [del_same] at q; cases q
  · rw [del_ne c] at q; rw [upd_ne c]; exact q
theorem sqT_del {a : Addr} {xs : List V} (h : G p = some (.ins C dx fs)) (s : SqT K G a xs) : SqT K (del G p) a xs := by
  rcases s with (s | ⟨o, s⟩) | s
  · exact .inl (.inl (by rw [del_ne (ne_of s h (by intro z; cases z))]; exact s))
  · exact .inl (.inr ⟨o, by rw [del_ne (ne_of s h (by intro z; cases z))]; exact s⟩)
  · exact .inr s
instance (v : V) : Ni (Is v) := ⟨fun _ _ _ _ _ _ _ h => h⟩
instance (S a : Int) : Ni (Fr K S a) := ⟨fun _ _ _ _ _ _ e ⟨q, h1, h2⟩ => ⟨q, h1, sqT_del e h2⟩⟩
instance {n : Nat} {f : Nat → Dsc} [∀ i, Ni (f i)] : Ni (Ls n f) := ⟨fun _ G p C dx fs e ⟨q, xs, h1, h2, h3, h4⟩ => ⟨q, xs, h1, by rw [del_ne (ne_of h2 e (by intro z; cases z))]; exact h2, h3, fun i x hi => Ni.ni x G p C dx fs e (h4 i x hi)⟩⟩
/-- table[-1] -/
theorem ev_ixLast {q : Addr} {xs : List V} (ha : Ev ta σ G (.ref q)) (h : SqL K G q xs) (hx : xs[xs.length - 1]? = some v) : Ev (tOp (rIxL K) ta (tUn rNegI (tC (.int 1)))) σ G v := by
  have hl : 0 < xs.length := by
    rcases Nat.eq_zero_or_pos xs.length with e | e
    · rw [List.getElem?_eq_none (by omega)] at hx; cases hx
    · exact e
  refine ev_op ha (ev_neg ev_c) (rv_ixL h ?_)
  unfold atI ixN
  rw [if_neg (by omega), if_pos (by omega)]
  show xs[((-1 : Int) + (xs.length : Int)).toNat]? = some v
  rw [show ((-1 : Int) + (xs.length : Int)).toNat = xs.length - 1 by omega]
  exact hx
abbrev RowF (K : PySem.W.Frag) (w : List Int) (t : Nat) : Dsc := Ls w.length fun i => Fr K w.sum ((t : Int) * wt w i)
theorem wt_get {w : List Int} {i : Nat} (h : i < w.length) : (w.map V.int)[i]? = some (.int (wt w i)) := ints_get h
theorem wt_bd {w : List Int} (hw : Wts w) {i : Nat} (h : i < w.length) : 0 ≤ wt w i ∧ wt w i ≤ 29 := ⟨hw.nn _ (getD_mem h), hw.le _ (getD_mem h)⟩
theorem sum_nn {ns : List Int} (h : ∀ n ∈ ns, 0 ≤ n) : 0 ≤ ns.sum := by
  have := sum_take_le h 0
  simpa using this
theorem pu_Plan_dues_by_turns {mg : Str → Option Value} {aN aO : Addr} (T0 : Txt K mg aN aO) (PC : PlanC K C)
    (h : ∃ G ns w T, Ex G H ∧ Wts w ∧ SpellsOk ns ∧ ns.sum = ((T : Nat) : Int) ∧ KeptAt K C ns w x G ∧ Ret (TableD K w T) G H Q) : t_Plan_dues_by_turns K aN C (En Q) (start N_Plan_dues_by_turns [x]) H := by
  obtain ⟨G, ns, w, T, e, hw, hns, hT, kp, k⟩ := h
  obtain ⟨o1, o2, o3, o4⟩ := id hns
  have hS := wts_sm hw
  have nn : ∀ n ∈ ns, 0 ≤ n := fun n hn => by have := o3 n hn; omega
  obtain ⟨p, dx, fs, kv, rfl, hp, hk, hm, ⟨q, ks, rfl, hq, hl, hd⟩⟩ := id kp
  have l6 := hw.l6
  -- table = [[NOUGHT] * self.many()]
  have hmany : Ev (tMeth C "many" (sp_Plan_many K C) [] E0 (tVar 0) tNil) (start N_Plan_dues_by_turns [.ref p]) G (.int w.length) := fun H1 e1 Q1 q1 =>
    ⟨.ref p, rfl, p, dx, fs, rfl, e1 p _ hp, hm, ⟨.ref p, rfl, ns, w, o1, up_ kp e1, q1⟩⟩
  have hrow : EvP (tOp rRep (tLst (tCons (tC (.ref aN)) tNil)) (tMeth C "many" (sp_Plan_many K C) [] E0 (tVar 0) tNil)) (start N_Plan_dues_by_turns [.ref p]) G (RowF K w 0) :=
    (el_rep (el_lst (ea_cons ev_c ea_nil) (by show 1 ≤ 100000; decide)) hmany (by omega)).p.imp fun v G1 _ ⟨l, ev, hl⟩ => ⟨l, _, ev, hl, List.length_replicate .., fun i x hi => by
      have hx := List.eq_of_mem_replicate (List.mem_of_getElem? hi)
      subst hx
      show Fr K w.sum (((0 : Nat) : Int) * wt w i) _ _
      rw [show ((0 : Nat) : Int) * wt w i = 0 by simp]
      exact fr_tN T0 hS.1⟩
  refine q_asgM (n := 1) (f := fun t => RowF K w t) e (em_lst (eap1 hrow) fun vs G1 ⟨r, ev, dr⟩ => ⟨by rw [ev]; rfl, by decide, fun i x hi => ?_⟩) fun tl rows G1 H1 n1 r1 m1 ht hln hrows => ?_
  · rw [ev] at hi
    cases i with
    | zero => cases hi; exact dr
    | succ i => cases hi
  -- for turns, weights in self.kept
  refine q_forL (K := K) (ev_fld (ev_var rfl) (r1.k p _ (e p _ hp)) PC.cl PC.nK hk) (sq_of (r1.k q _ (e q _ hq)))
    (fun i σ' H' => ∃ G' rows a b c d, Gr G H G' H' ∧ σ' = [some (.ref p), some (.ref tl), a, b, c, d, (σ'[6]?).getD none, none] ∧ G' tl = none ∧ H' tl = some (.lst rows) ∧ (rows.length : Int) = (ns.take i).sum + 1 ∧ ∀ t rv, rows[t]? = some rv → RowF K w t rv G')
    (fun H2 e2 => ⟨G1, rows, none, none, none, none, r1.trans (Gr.of r1.s e2), rfl, m1, e2 tl _ ht, by rw [hln]; rfl, hrows⟩) (fun i σ' H' _ ⟨G', rows, a, b, c, d, r, _⟩ => sq_of (r.e q _ hq)) ?_ ?_
  · rintro i kx σ' H' hi ⟨G', rows, a, b, c, d, r, eσ, mt, ht', hln', hr'⟩
    generalize (σ'[6]?).getD none = e6 at eσ
    subst eσ
    have hi' : i < ns.length := by have := (List.getElem?_eq_some_iff.mp hi).1; omega
    obtain ⟨p2, v0, v1, rfl, hp2, ev0, ⟨wp, rfl, hwp⟩⟩ := hd i kx hi
    cases ev0
    refine ⟨p2, [_, _], rfl, ex_t r.e hp2, rfl, _, [_], rfl, _, [], rfl, rfl, ?_⟩
    have hn := o3 _ (getD_mem hi')
    generalize hni : ns.getD i 0 = n at *
    -- whole = sum(weights)
    refine q_asgV r.s (ev_sumT (K := K) (ev_var rfl) (ex_t r.g hwp)) fun H2 r2 => ?_
    have r3 := r.trans r2
    -- first = table[-1]
    have hrl : rows.length - 1 < rows.length := by have := sum_take_le (ns := ns) nn i; have : 0 ≤ (ns.take i).sum := sum_nn (fun m hm => nn m (List.mem_of_mem_take hm)); omega
    obtain ⟨rv, hrv⟩ : ∃ rv, rows[rows.length - 1]? = some rv := ⟨_, List.getElem?_eq_getElem hrl⟩
    refine q_asgV (Ex.refl H2) (ev_ixLast (K := K) (ev_var rfl) (sq_of (r2.k tl _ ht')) hrv) fun H3 r4 => ?_
    have r5 := r3.trans (Gr.of r3.s r4.k)
    have drv := hr' _ rv hrv
    generalize hb : rows.length - 1 = b0 at *
    have hbI : (b0 : Int) = (ns.take i).sum := by omega
    have hst := sum_take1 hi'
    have hsl := sum_take_le nn (i + 1)
    -- for turn in range(1, turns + 1)
    refine s_forR2 (lo := 1) (n := n + 1) (ea_cons ev_c (ea_cons (ev_add (ev_var rfl) ev_c) ea_nil)) (by omega)
      (fun j σ'' H'' => ∃ G'' rows'' e6, Gr G H G'' H'' ∧ Ex G' G'' ∧ σ'' = [some (.ref p), some (.ref tl), some (.int n), some (.ref wp), some (.int w.sum), some rv, e6, none] ∧ G'' tl = none ∧ H'' tl = some (.lst rows'') ∧ (rows''.length : Int) = (b0 : Int) + 1 + j ∧ ∀ t rv, rows''[t]? = some rv → RowF K w t rv G'')
      (fun H4 e4 => ⟨G', rows, e6, r5.trans (Gr.of r5.s e4), Ex.refl G', rfl, mt, e4 tl _ (r4.k tl _ (r2.k tl _ ht')), by omega, hr'⟩) ?_ ?_
    · rintro j σ'' H'' hj ⟨G'', rows'', e6, rr, rg, rfl, mt'', ht'', hln'', hr''⟩
      obtain ⟨rp, fx, rfl, hrp, hfl, hfx⟩ := drv
      have hcomp : EvP (tLc (iRng1 (tCons (tCB (rLenS K) (tCons (tVar 3) tNil)) tNil)) (gName 7) tYes (tCall (sp_plus K) [] E0 (tCons (tOp (rIxL K) (tVar 5) (tVar 7)) (tCons (tCall (sp_made K) [] E0 (tCons (tOp rMulI (tVar 6) (tOp (rIxT K) (tVar 3) (tVar 7))) (tCons (tVar 4) tNil))) tNil))) [7])
          ([some (.ref p), some (.ref tl), some (.int n), some (.ref wp), some (.int w.sum), some (.ref rp), some (.int (1 + (j : Int))), none]) G'' (RowF K w (b0 + 1 + j)) := by
        have hc := em_lcR (ta := tCons (tCB (rLenS K) (tCons (tVar 3) tNil)) tNil) (j := 7) (n := (w.length : Int)) (σ := [some (.ref p), some (.ref tl), some (.int n), some (.ref wp), some (.int w.sum), some (.ref rp), some (.int (1 + (j : Int))), none]) (G := G'') (te := tCall (sp_plus K) [] E0 (tCons (tOp (rIxL K) (tVar 5) (tVar 7)) (tCons (tCall (sp_made K) [] E0 (tCons (tOp rMulI (tVar 6) (tOp (rIxT K) (tVar 3) (tVar 7))) (tCons (tVar 4) tNil))) tNil))) (fun i => Fr K w.sum (((b0 + 1 + j : Nat) : Int) * wt w i)) (ea_cons (ev_int (ev_lenT (K := K) (ev_var rfl) (ex_t rr.g hwp)) (len_i w)) ea_nil) (by omega) (fun x => rfl) fun i2 G3 e3 hi2 => ?_
        · rw [Int.toNat_natCast] at hc
          exact hc.ls
        · have hi3 : i2 < w.length := by omega
          obtain ⟨x2, hx2⟩ : ∃ x2, fx[i2]? = some x2 := ⟨fx[i2]'(by omega), List.getElem?_eq_getElem (by omega)⟩
          have dx2 := hfx i2 x2 hx2
          have wb := wt_bd hw hi3
          have := ep_plus (K := K) (E := E0) hS ((ev_ixL (K := K) (σ := [some (.ref p), some (.ref tl), some (.int n), some (.ref wp), some (.int w.sum), some (.ref rp), some (.int (1 + (j : Int))), some (.int (i2 : Int))]) (ta := tVar 5) (tb := tVar 7) (ev_var rfl) (ev_var rfl) (sq_of (e3 rp _ (rg rp _ hrp))) hx2).dsc (up_ dx2 (rg.trans e3)))
            (ep_made (K := K) (E := E0) (ta := tOp rMulI (tVar 6) (tOp (rIxT K) (tVar 3) (tVar 7))) (tb := tVar 4) (ev_mul (ev_var rfl) (ev_ixT (K := K) (ev_var rfl) (ev_var rfl) (ex_t (rr.g.trans e3) hwp) (wt_get hi3)) (cmul_r (by omega) (by omega))) (ev_var rfl) hS.1 (by have := hS.2; omega))
          have ee : (b0 : Int) * wt w i2 + (1 + (j : Int)) * wt w i2 = ((b0 + 1 + j : Nat) : Int) * wt w i2 := by rw [← Int.add_mul]; congr 1; omega
          rw [ee] at this
          exact this
      refine s_appP (K := K) rr.s ht'' (ev_var rfl) hcomp (by omega) fun v G4 H4 r6 dv => ?_
      have m4 := r6.hidd ht'' mt''
      refine ⟨G4, rows'' ++ [v], _, (rr.trans r6).mut n1 m4, rg.trans r6.g, rfl, m4, upd_same, by rw [List.length_append]; show ((rows''.length + 1 : Nat) : Int) = _; omega, fun t rv ht => ?_⟩
      by_cases c : t < rows''.length
      · rw [List.getElem?_append_left c] at ht
        exact up_ (hr'' t rv ht) r6.g
      · rw [List.getElem?_append_right (by omega)] at ht
        cases q0 : t - rows''.length with
        | zero =>
          rw [q0] at ht
          have et : t = b0 + 1 + j := by omega
          have ev : v = rv := Option.some.inj ht
          subst et ev
          exact dv
        | succ k => rw [q0] at ht; cases ht
    · rintro σ'' H'' ⟨G'', rows'', e6, rr, rg, rfl, mt'', ht'', hln'', hr''⟩
      exact ⟨G'', rows'', _, _, _, _, rr, rfl, mt'', ht'', by rw [hst]; omega, hr''⟩
  · rintro σ' H' ⟨G', rows, a, b, c, d, r, eσ, mt, ht', hln', hr'⟩
    generalize (σ'[6]?).getD none = e6 at eσ
    subst eσ
    have el : ks.length = ns.length := hl
    rw [el, List.take_length] at hln'
    refine s_retV (Ex.refl H') (ev_var rfl) fun v G2 H2 r2 ev => ?_
    cases ev
    exact k _ _ H2 ((r.trans (Gr.of r.s r2.k)).add n1 (r2.k tl _ ht')) ⟨tl, rows, rfl, upd_same, by omega, fun t rv h => up_ (hr' t rv h) (ex_new mt)⟩
end
end Dt
set_option Elab.async false
set_option linter.all false
set_option maxRecDepth 100000
set_option maxHeartbeats 4000000
/-! Readings: a plan's and a keeper's making. -/
namespace Dt
open PySem PySem.Spec PyProof.Rows L2 Evl DtM
section
variable {K : PySem.W.Frag} {x y z u v : V} {G G1 G2 H H' H1 H2 : Hp} {Q : VK} {σ : L2.St} {te ta tb tc td : TE} {E : XK} {D : Ends} {tu tz : TS} {a p C dx : Addr} {fs : List (Str × V)} {f : Str} {d : Dsc} {o : HO}
theorem b_kt : (("table" : Str) == ("kept" : Str)) = false := by decide +kernel
theorem b_mk : (("many" : Str) == ("kept" : Str)) = false := by decide +kernel
theorem b_mt : (("many" : Str) == ("table" : Str)) = false := by decide +kernel
theorem b_dk : (("dues_by_turns" : Str) == ("kept" : Str)) = false := by decide +kernel
theorem ne_b {x y : Str} (h : (x == y) = false) : ¬ x = y := by simpa using h
theorem bs_same {x : Str} : (x == x) = true := by simp
theorem putF_kt {kv tv : V} : putF ("table" : Str) tv [(("kept" : Str), kv)] = [(("kept" : Str), kv), (("table" : Str), tv)] := by
  simp only [putF]
  rw [if_neg (fun e => ne_b b_kt e.symm)]
/-- the plan's self.kept = [..] -/
theorem pu_Plan_init (PC : PlanC K C) (h : ∃ G p dx ns w T, Ex G H ∧ x = .ref p ∧ H p = some (.ins C dx []) ∧ G p = none ∧ Wts w ∧ SpellsOk ns ∧ ns.sum = ((T : Nat) : Int) ∧ SpellsD K ns w y G ∧
  ∀ G2 H2, Ex G G2 → Ex G2 H2 → (∀ b o, H b = some o → b ≠ p → H2 b = some o) → (∀ a, H a ≠ none → G a = none → a ≠ p → G2 a = none) → PlanD K C w T (.ref p) G2 → Q .non H2) : t_Plan_init K C (En Q) (start N_Plan_init [x, y]) H := by
  obtain ⟨G, p, dx, ns, w, T, e, rfl, hp, gp, hw, hns, hT, hy, k⟩ := h
  obtain ⟨q, xs, rfl, hq, hl, hd⟩ := id hy
  obtain ⟨o1, o2, o3, o4⟩ := id hns
  refine q_dropP e (ev_call1 (v := .non) (ep_var (v := .ref q) rfl hy) fun x G1 H1 e1 e2 dx Q E q => ⟨x, rfl, ns, w, hw, hns, up_ dx e2, q⟩).p fun v G0 H1 r1 ev => ?_
  have gp1 := r1.hidd hp gp
  have hkept : EvP (tLc (iList K (tVar 1)) (gTup K 2 (gCons (gName 2) (gCons (gName 3) gNil))) tYes (tTup (tCons (tVar 2) (tCons (tCB (rTupS K) (tCons (tVar 3) tNil)) tNil))) [2, 3]) [some (.ref p), some (.ref q), none, none] G0 (KeptD K ns w) := by
    have hc := em_lcL2 (K := K) (tl := tVar 1) (j := 2) (k := 3) (σ := [some (.ref p), some (.ref q), none, none]) (G := G0) (te := tTup (tCons (tVar 2) (tCons (tCB (rTupS K) (tCons (tVar 3) tNil)) tNil))) (fun i => Pr K (Is (.int (ns.getD i 0))) (TInts K w)) (ev_var rfl) (sq_of (r1.g q _ hq)) (by omega) (fun x y => rfl) fun i z hi => ?_
    · rw [hl] at hc
      exact hc.ls
    · obtain ⟨p2, v0, v1, rfl, hp2, ev0, ⟨wp, rfl, hwp⟩⟩ := hd i z hi
      cases ev0
      refine ⟨p2, _, _, rfl, ex_t r1.g hp2, fun G1 e1 => en_pr (ev_var rfl).p ((eu_tupL (K := K) (ev_var rfl) (sq_of (e1 wp _ (r1.g wp _ hwp)))).p.imp fun v G2 _ ⟨l, ev, hl⟩ => ⟨l, ev, st_of hl⟩)⟩
  refine q_fldP r1.s hkept (ev_var rfl) (r1.k p _ hp) PC.cl PC.nK (by show 0 < 1000; decide) fun kv G1 H2 r2 dkv => ?_
  have r12 := r1.trans r2
  have gp2 := r12.hidd hp gp
  -- the call
  have kx : KeptAt K C ns w (.ref p) (upd G1 p (.ins C dx (putF ("kept" : Str) kv []))) := ⟨p, dx, _, kv, rfl, upd_same, by simp only [putF, List.lookup, bs_same], by simp only [putF, List.lookup, b_mk], up_ dkv (ex_new gp2)⟩
  have htab : EvP (tMeth C "dues_by_turns" (sp_Plan_dues_by_turns K C) [] E0 (tVar 0) tNil) [some (.ref p), some (.ref q), none, none] (upd G1 p (.ins C dx (putF ("kept" : Str) kv []))) (TableD K w T) := fun H3 e3 Q3 q3 =>
    ⟨.ref p, rfl, p, dx, _, rfl, e3 p _ upd_same, by simp only [putF, List.lookup, b_dk], ⟨.ref p, rfl, _, ns, w, T, e3, hw, hns, hT, kx, q3⟩⟩
  have ex2 : Ex (upd G1 p (.ins C dx (putF ("kept" : Str) kv []))) (upd H2 p (.ins C dx (putF ("kept" : Str) kv []))) := fun b u hb => by
    by_cases c : b = p
    · subst c; rw [upd_same] at hb ⊢; exact hb
    · rw [upd_ne c] at hb ⊢; exact r12.s b u hb
  refine s_fldP ex2 htab (ev_var rfl) upd_same PC.cl PC.nT (by show 1 < 1000; decide) fun tv G3 H3 r3 dtv => ?_
  have g3p : G3 p = some (.ins C dx (putF ("kept" : Str) kv [])) := r3.g p _ upd_same
  show Q .non _
  have e13 : Ex G1 (upd G3 p (.ins C dx (putF ("table" : Str) tv (putF ("kept" : Str) kv [])))) := fun b u hb => by
    have c : b ≠ p := fun c => by rw [c, gp2] at hb; cases hb
    rw [upd_ne c]
    exact r3.g b u (by rw [upd_ne c]; exact hb)
  refine k (upd G3 p (.ins C dx (putF ("table" : Str) tv (putF ("kept" : Str) kv [])))) _ (r12.g.trans e13) (fun b u hb => ?_) (fun b u hb c => ?_) (fun b h1 h2 c => ?_) ⟨ns, hns, hT, ⟨p, dx, _, kv, rfl, upd_same, ?_, ?_, up_ dkv e13⟩, p, dx, _, tv, rfl, upd_same, ?_, up_ (Ni.ni tv G3 p C dx _ g3p dtv) ex_delu⟩
  · by_cases c : b = p
    · subst c; rw [upd_same] at hb ⊢; exact hb
    · rw [upd_ne c] at hb ⊢; exact r3.s b u hb
  · rw [upd_ne c]
    exact r3.k b u (by rw [upd_ne c]; exact r12.k b u hb)
  · rw [upd_ne c]
    refine r3.hid b ?_ ?_
    · rw [upd_ne c]
      intro hn
      exact h1 (none_back r12.k hn)
    · rw [upd_ne c]
      exact r12.hid b h1 h2
  · show List.lookup ("kept" : Str) (putF ("table" : Str) tv [(("kept" : Str), kv)]) = some kv
    rw [putF_kt]
    simp only [List.lookup, bs_same]
  · show List.lookup ("many" : Str) (putF ("table" : Str) tv [(("kept" : Str), kv)]) = none
    rw [putF_kt]
    simp only [List.lookup, b_mk, b_mt]
  · show List.lookup ("table" : Str) (putF ("table" : Str) tv [(("kept" : Str), kv)]) = some tv
    rw [putF_kt]
    simp only [List.lookup, b_kt, bs_same]
end
end Dt
set_option Elab.async false
set_option linter.all false
set_option maxRecDepth 100000
set_option maxHeartbeats 4000000
/-! Readings: the keeper. -/
namespace Dt
open PySem PySem.Spec PyProof.Rows L2 Evl DtM
section
variable {K : PySem.W.Frag} {x y z u v : V} {G G1 G2 H H' H1 H2 : Hp} {Q : VK} {σ : L2.St} {te ta tb tc td : TE} {E : XK} {D : Ends} {tu tz : TS} {a p C dx nw ow rl dl : Addr} {fs : List (Str × V)} {f : Str} {d : Dsc} {o : HO}
theorem b_no : (("now" : Str) == ("owed" : Str)) = false := by decide +kernel
theorem b_nr : (("now" : Str) == ("row" : Str)) = false := by decide +kernel
theorem b_nd : (("now" : Str) == ("deeds" : Str)) = false := by decide +kernel
theorem b_on : (("owed" : Str) == ("now" : Str)) = false := by decide +kernel
theorem b_or : (("owed" : Str) == ("row" : Str)) = false := by decide +kernel
theorem b_od : (("owed" : Str) == ("deeds" : Str)) = false := by decide +kernel
theorem b_rn : (("row" : Str) == ("now" : Str)) = false := by decide +kernel
theorem b_ro : (("row" : Str) == ("owed" : Str)) = false := by decide +kernel
theorem b_rd : (("row" : Str) == ("deeds" : Str)) = false := by decide +kernel
theorem b_dn : (("deeds" : Str) == ("now" : Str)) = false := by decide +kernel
theorem b_do : (("deeds" : Str) == ("owed" : Str)) = false := by decide +kernel
theorem b_dr : (("deeds" : Str) == ("row" : Str)) = false := by decide +kernel
theorem b_sn : (("step" : Str) == ("now" : Str)) = false := by decide +kernel
theorem b_so : (("step" : Str) == ("owed" : Str)) = false := by decide +kernel
theorem b_sr : (("step" : Str) == ("row" : Str)) = false := by decide +kernel
theorem b_sd : (("step" : Str) == ("deeds" : Str)) = false := by decide +kernel
theorem kfs_now : (kfs nw ow rl dl).lookup ("now" : Str) = some (.ref nw) := by simp only [kfs, List.lookup, bs_same]
theorem kfs_owed : (kfs nw ow rl dl).lookup ("owed" : Str) = some (.ref ow) := by simp only [kfs, List.lookup, bs_same, b_on]
theorem kfs_row : (kfs nw ow rl dl).lookup ("row" : Str) = some (.ref rl) := by simp only [kfs, List.lookup, bs_same, b_rn, b_ro]
theorem kfs_deeds : (kfs nw ow rl dl).lookup ("deeds" : Str) = some (.ref dl) := by simp only [kfs, List.lookup, bs_same, b_dn, b_do, b_dr]
theorem kfs_step : (kfs nw ow rl dl).lookup ("step" : Str) = none := by simp only [kfs, List.lookup, b_sn, b_so, b_sr, b_sd]
theorem kfs_put {o2 : Addr} : putF ("owed" : Str) (.ref o2) (kfs nw ow rl dl) = kfs nw o2 rl dl := by
  simp only [kfs, putF]
  rw [if_neg (ne_b b_no)]
  simp
theorem kfs_make : putF ("deeds" : Str) (.ref dl) (putF ("row" : Str) (.ref rl) (putF ("owed" : Str) (.ref ow) (putF ("now" : Str) (.ref nw) []))) = kfs nw ow rl dl := by
  simp only [kfs, putF, if_neg (ne_b b_no), if_neg (ne_b b_nr), if_neg (ne_b b_nd), if_neg (ne_b b_or), if_neg (ne_b b_od), if_neg (ne_b b_rd)]
theorem s_fldL {xs : List V} (h : EvL te σ H xs) (ha : Ev ta σ H (.ref a)) (ho : H a = some (.ins C dx fs)) (hc : Cls K C) (hn : NoAttr K C f) (hl : fs.length < 1000)
    (k : ∀ l H1, H l = none → Ex H H1 → H1 l = some (.lst xs) → D.nx σ (upd H1 a (.ins C dx (putF f (.ref l) fs)))) : sFld K ta te f D σ H :=
  h H (Ex.refl H) _ fun l H1 n r hl2 => ha H1 r _ fun H2 e2 => ⟨a, C, dx, fs, rfl, (r.trans e2) a _ ho, hc, hn, hl, k l H2 n (r.trans e2) (e2 l _ hl2)⟩
theorem q_fldL {xs : List V} (h : EvL te σ H xs) (ha : Ev ta σ H (.ref a)) (ho : H a = some (.ins C dx fs)) (hc : Cls K C) (hn : NoAttr K C f) (hl : fs.length < 1000)
    (k : ∀ l H1, H l = none → Ex H H1 → H1 l = some (.lst xs) → tz D σ (upd H1 a (.ins C dx (putF f (.ref l) fs)))) : tSeq (sFld K ta te f) tz D σ H := s_fldL (D := { D with nx := tz D }) h ha ho hc hn hl k
theorem s_fldU {xs : List V} (h : EvU te σ H xs) (ha : Ev ta σ H (.ref a)) (ho : H a = some (.ins C dx fs)) (hc : Cls K C) (hn : NoAttr K C f) (hl : fs.length < 1000)
    (k : ∀ l H1, H l = none → Ex H H1 → H1 l = some (.tup xs) → D.nx σ (upd H1 a (.ins C dx (putF f (.ref l) fs)))) : sFld K ta te f D σ H :=
  h H (Ex.refl H) _ fun l H1 n r hl2 => ha H1 r _ fun H2 e2 => ⟨a, C, dx, fs, rfl, (r.trans e2) a _ ho, hc, hn, hl, k l H2 n (r.trans e2) (e2 l _ hl2)⟩
theorem q_fldU {xs : List V} (h : EvU te σ H xs) (ha : Ev ta σ H (.ref a)) (ho : H a = some (.ins C dx fs)) (hc : Cls K C) (hn : NoAttr K C f) (hl : fs.length < 1000)
    (k : ∀ l H1, H l = none → Ex H H1 → H1 l = some (.tup xs) → tz D σ (upd H1 a (.ins C dx (putF f (.ref l) fs)))) : tSeq (sFld K ta te f) tz D σ H := s_fldU (D := { D with nx := tz D }) h ha ho hc hn hl k
/-- all but p is kept -/
def But (p : Addr) (H H' : Hp) : Prop := ∀ b o, H b = some o → b ≠ p → H' b = some o
theorem But.ex {p : Addr} (h : But p H H1) (e : Ex H1 H2) : But p H H2 := fun b o q c => e b o (h b o q c)
theorem But.up {p : Addr} (h : But p H H1) : But p H (upd H1 p o) := fun b u q c => by rw [upd_ne c]; exact h b u q c
theorem But.back {p l : Addr} (h : But p H H1) (hp : H1 p = some o) (n : H1 l = none) : H l = none := by
  cases q : H l with
  | none => rfl
  | some u =>
    by_cases c : l = p
    · rw [c, hp] at n; cases n
    · rw [h l u q c] at n; cases n
theorem pu_Credits_init {mg : Str → Option Value} {aN aO : Addr} (T0 : Txt K mg aN aO) (CC : CredC K C) (h : ∃ p dx w, x = .ref p ∧ H p = some (.ins C dx []) ∧ Wts w ∧ Ints w y H ∧
  ∀ H2 rl dl, H rl = none → H dl = none → rl ≠ dl → (∀ b o, H b = some o → b ≠ p → H2 b = some o) → KeeperAt K C w (List.replicate w.length 0) [] p rl dl H2 → Q .non H2) : t_Credits_init K aN (En Q) (start N_Credits_init [x, y]) H := by
  obtain ⟨p, dx, w, rfl, hp, hw, ⟨q, rfl, hq⟩, k⟩ := h
  have hS := wts_sm hw
  have l6 := hw.l6
  have npq : q ≠ p := ne_of hq hp (by intro z; cases z)
  refine q_skip (Ex.refl H) (et_not (a := true) (et_B (ev_areW hw (ep_var (v := .ref q) rfl ⟨q, rfl, hq⟩)))) fun H1 r1 => ?_
  have f1 : But p H H1 := fun b o h _ => r1.k b o h
  have p1 := r1.k p _ hp
  have q1 := r1.k q _ hq
  -- self.now = tuple(weights)
  refine q_fldU (eu_tupL (K := K) (ev_var rfl) (sq_of q1)) (ev_var rfl) p1 CC.cl CC.nN (by show 0 < 1000; decide) fun nw H2 n2 e2 hnw => ?_
  have f2 := (f1.ex e2).up (o := .ins C dx (putF ("now" : Str) (.ref nw) []))
  have nwp : nw ≠ p := ne_of hnw (e2 p _ p1) (by intro z; cases z)
  -- self.owed = tuple([NOUGHT] * len(weights))
  refine q_fldU (eu_tupN (K := K) (el_rep (n := w.length) (el_lst (ea_cons ev_c ea_nil) (by show 1 ≤ 100000; decide)) (ev_lenE (K := K) (ev_var rfl) (sq_of (by rw [upd_ne npq]; exact e2 q _ q1)) (len_i w)) (by omega))) (ev_var rfl) upd_same CC.cl CC.nO (by show 1 < 1000; decide) fun ow H3 n3 e3 how => ?_
  have f3 := (f2.ex e3).up (o := .ins C dx (putF ("owed" : Str) (.ref ow) (putF ("now" : Str) (.ref nw) [])))
  have owp : ow ≠ p := ne_of how (e3 p _ upd_same) (by intro z; cases z)
  have hnw3 : H3 nw = some (.tup (w.map V.int)) := e3 nw _ (by rw [upd_ne nwp]; exact hnw)
  -- self.row = []
  refine q_fldL el_nil (ev_var rfl) upd_same CC.cl CC.nR (by simp only [putF, if_neg (ne_b b_no)]; show 2 < 1000; decide) fun rl H4 n4 e4 hrl => ?_
  have f4 := (f3.ex e4).up (o := .ins C dx (putF ("row" : Str) (.ref rl) (putF ("owed" : Str) (.ref ow) (putF ("now" : Str) (.ref nw) []))))
  have rlp : rl ≠ p := ne_of hrl (e4 p _ upd_same) (by intro z; cases z)
  have nrl : H rl = none := But.back f3 upd_same n4
  -- self.deeds = []
  refine s_fldL el_nil (ev_var rfl) upd_same CC.cl CC.nD (by simp only [putF, if_neg (ne_b b_no), if_neg (ne_b b_nr), if_neg (ne_b b_or)]; show 3 < 1000; decide) fun dl H5 n5 e5 hdl => ?_
  have f5 := (f4.ex e5).up (o := .ins C dx (putF ("deeds" : Str) (.ref dl) (putF ("row" : Str) (.ref rl) (putF ("owed" : Str) (.ref ow) (putF ("now" : Str) (.ref nw) [])))))
  have dlp : dl ≠ p := ne_of hdl (e5 p _ upd_same) (by intro z; cases z)
  have ndl : H dl = none := But.back f4 upd_same n5
  have rd : rl ≠ dl := ne_of_none (show (upd H4 p (.ins C dx (putF ("row" : Str) (.ref rl) (putF ("owed" : Str) (.ref ow) (putF ("now" : Str) (.ref nw) []))))) rl = some (.lst []) by rw [upd_ne rlp]; exact hrl) n5
  have lift : ∀ b o, b ≠ p → H3 b = some o → (upd H5 p (.ins C dx (putF ("deeds" : Str) (.ref dl) (putF ("row" : Str) (.ref rl) (putF ("owed" : Str) (.ref ow) (putF ("now" : Str) (.ref nw) [])))))) b = some o := fun b o c h => by
    rw [upd_ne c]
    refine e5 b o ?_
    rw [upd_ne c]
    refine e4 b o ?_
    rw [upd_ne c]
    exact h
  show Q .non _
  refine k _ rl dl nrl ndl rd f5 ⟨dx, nw, ow, [], ?_, ⟨nw, rfl, st_of (lift nw _ nwp hnw3)⟩, ⟨ow, _, rfl, st_of (lift ow _ owp how), List.length_replicate .., fun i x hi => ?_⟩, ?_, ?_, rfl, rd⟩
  · rw [upd_same, kfs_make]
  · have hx := List.eq_of_mem_replicate (List.mem_of_getElem? hi)
    subst hx
    have e0 : (List.replicate w.length (0 : Int)).getD i 0 = 0 := by
      rw [List.getD_eq_getElem?_getD]
      cases q : (List.replicate w.length (0 : Int))[i]? with
      | none => rfl
      | some z => exact List.eq_of_mem_replicate (List.mem_of_getElem? q)
    show Fr K w.sum _ _ _
    rw [e0]
    exact fr_tN T0 hS.1
  · rw [upd_ne rlp]
    refine e5 rl _ ?_
    rw [upd_ne rlp]
    exact hrl
  · rw [upd_ne dlp]
    exact hdl
/-! ### a step -/
theorem grow_at {w c : List Int} (hc : c.length = w.length) {i : Nat} (h : i < w.length) : (grow w c).getD i 0 = c.getD i 0 + wt w i := by
  unfold grow wt
  rw [List.getD_eq_getElem?_getD, List.getD_eq_getElem?_getD, List.getD_eq_getElem?_getD, List.getElem?_zipWith, List.getElem?_eq_getElem (by omega), List.getElem?_eq_getElem h]
  rfl
theorem grow_len {w c : List Int} (hc : c.length = w.length) : (grow w c).length = w.length := by
  unfold grow
  rw [List.length_zipWith]
  omega
theorem am_le (g : List Int) : ∀ k, am g k ≤ k
  | 0 => Nat.le_refl 0
  | k + 1 => by
    unfold am
    have := am_le g k
    split <;> omega
theorem sqT_delL {G : Hp} {p a : Addr} {xs ys : List V} (h : G p = some (.lst ys)) (s : SqT K G a xs) : SqT K (del G p) a xs := by
  rcases s with (s | ⟨o, s⟩) | s
  · exact .inl (.inl (by rw [del_ne (ne_of s h (by intro z; cases z))]; exact s))
  · exact .inl (.inr ⟨o, by rw [del_ne (ne_of s h (by intro z; cases z))]; exact s⟩)
  · exact .inr s
theorem pu_Credits_step (CC : CredC K C) (h : ∃ p rl dl w c row, x = .ref p ∧ Wts w ∧ c.length = w.length ∧ row.length < 100000 ∧ KeeperAt K C w c row p rl dl H ∧
  ∀ H2, (∀ b o, H b = some o → b ≠ p → b ≠ rl → b ≠ dl → H2 b = some o) → KeeperAt K C w (kstep w c) (row ++ [((pick w c : Nat) : Int)]) p rl dl H2 → Q (.int (pick w c : Nat)) H2) : t_Credits_step K (En Q) (start N_Credits_step [x]) H := by
  obtain ⟨p, rl, dl, w, c, row, rfl, hw, hc, hrow, ⟨dx, nw, ow, dv, hp, ⟨_, en, hnw⟩, ⟨_, xs, eo, how, hol, hof⟩, hrl, hdl, hdv, rd⟩, k⟩ := h
  cases en
  cases eo
  have hS := wts_sm hw
  have l6 := hw.l6
  have l2 := hw.l2
  have prl : rl ≠ p := ne_of hrl hp (by intro z; cases z)
  have pdl : dl ≠ p := ne_of hdl hp (by intro z; cases z)
  -- whole = sum(self.now)
  refine q_asgV (Ex.refl H) (ev_sumT (K := K) (ev_fld (ev_var rfl) hp CC.cl CC.nN kfs_now) hnw) fun H1 r1 => ?_
  -- what stays: all but the lists row, deeds; then all but the keeper itself
  have hdl2 : (del H rl) dl = some (.lst dv) := by rw [del_ne (fun e => rd e.symm)]; exact hdl
  have tr : ∀ {a ys}, SqT K H a ys → SqT K (del (del H rl) dl) a ys := fun s => sqT_delL hdl2 (sqT_delL hrl s)
  have eGH : Ex (del (del H rl) dl) H := ex_del.trans ex_del
  have gp : (del (del H rl) dl) p = some (.ins C dx (kfs nw ow rl dl)) := by rw [del_ne (fun e => pdl e.symm), del_ne (fun e => prl e.symm)]; exact hp
  have grl : (del (del H rl) dl) rl = none := by rw [del_ne rd]; exact del_same
  have gdl : (del (del H rl) dl) dl = none := del_same
  -- grown = [plus(self.owed[who], made(self.now[who], whole)) for who in range(len(self.now))]
  have hcomp : EvM (tLc (iRng1 (tCons (tCB (rLenS K) (tCons (tFld K (tVar 0) "now") tNil)) tNil)) (gName 4) tYes (tCall (sp_plus K) [] E0 (tCons (tOp (rIxT K) (tFld K (tVar 0) "owed") (tVar 4)) (tCons (tCall (sp_made K) [] E0 (tCons (tOp (rIxT K) (tFld K (tVar 0) "now") (tVar 4)) (tCons (tVar 1) tNil))) tNil))) [4])
      [some (.ref p), some (.int w.sum), none, none, none] (del (del H rl) dl) w.length (fun i => Fr K w.sum ((grow w c).getD i 0)) := by
    have hq := em_lcR (ta := tCons (tCB (rLenS K) (tCons (tFld K (tVar 0) "now") tNil)) tNil) (j := 4) (n := (w.length : Int)) (σ := [some (.ref p), some (.int w.sum), none, none, none]) (G := del (del H rl) dl)
      (te := tCall (sp_plus K) [] E0 (tCons (tOp (rIxT K) (tFld K (tVar 0) "owed") (tVar 4)) (tCons (tCall (sp_made K) [] E0 (tCons (tOp (rIxT K) (tFld K (tVar 0) "now") (tVar 4)) (tCons (tVar 1) tNil))) tNil))) (fun i => Fr K w.sum ((grow w c).getD i 0))
      (ea_cons (ev_int (ev_lenT (K := K) (ev_fld (ev_var rfl) gp CC.cl CC.nN kfs_now) (tr hnw)) (len_i w)) ea_nil) (by omega) (fun x => rfl) fun i G1 e1 hi => ?_
    · rw [Int.toNat_natCast] at hq
      exact hq
    · have hi' : i < w.length := by omega
      obtain ⟨x2, hx2⟩ : ∃ x2, xs[i]? = some x2 := ⟨xs[i]'(by omega), List.getElem?_eq_getElem (by omega)⟩
      have dx2 : Fr K w.sum (c.getD i 0) x2 (del (del H rl) dl) := by
        obtain ⟨q, e, hq⟩ := hof i x2 hx2
        exact ⟨q, e, tr hq⟩
      have wb := wt_bd hw hi'
      have := ep_plus (K := K) (E := E0) hS ((ev_ixT (K := K) (σ := [some (.ref p), some (.int w.sum), none, none, some (.int (i : Int))]) (ta := tFld K (tVar 0) "owed") (tb := tVar 4) (ev_fld (ev_var rfl) (e1 p _ gp) CC.cl CC.nO kfs_owed) (ev_var rfl) (ex_t e1 (tr how)) hx2).dsc (up_ dx2 e1))
        (ep_made (K := K) (E := E0) (ta := tOp (rIxT K) (tFld K (tVar 0) "now") (tVar 4)) (tb := tVar 1) (ev_ixT (K := K) (ev_fld (ev_var rfl) (e1 p _ gp) CC.cl CC.nN kfs_now) (ev_var rfl) (ex_t e1 (tr hnw)) (wt_get hi')) (ev_var rfl) hS.1 (by have := hS.2; omega))
      rw [← grow_at hc hi'] at this
      exact this
  refine q_asgM (eGH.trans r1.k) hcomp fun gl gx G2 H2 n2 r2 m2 hgl hgll hgx => ?_
  have ngl : H gl = none := none_back r1.k n2
  have e02 := r1.k.trans r2.k
  have k2 : ∀ b o, H b = some o → H2 b = some o := e02
  have g2p : G2 p = some (.ins C dx (kfs nw ow rl dl)) := r2.g p _ gp
  have hgx' : ∀ i x, gx[i]? = some x → Fr K w.sum ((grow w c).getD i 0) x (del G2 p) := fun i x hi => Ni.ni x G2 p C dx _ g2p (hgx i x hi)
  have eG2 : Ex (del G2 p) H2 := ex_del.trans r2.s
  have g2rl : (del G2 p) rl = none := by rw [del_ne prl]; exact r2.hid rl (some_ne (r1.k rl _ hrl)) grl
  have g2dl : (del G2 p) dl = none := by rw [del_ne pdl]; exact r2.hid dl (some_ne (r1.k dl _ hdl)) gdl
  have g2gl : (del G2 p) gl = none := none_back ex_del m2
  have g2nw : SqT K (del G2 p) nw (w.map V.int) := sqT_del g2p (ex_t r2.g (tr hnw))
  have glp : gl ≠ p := fun e => by rw [e, hp] at ngl; cases ngl
  have glrl : gl ≠ rl := fun e => by rw [e, hrl] at ngl; cases ngl
  have gldl : gl ≠ dl := fun e => by rw [e, hdl] at ngl; cases ngl
  generalize hG : del G2 p = Gs at *
  have gsp : Gs p = none := by rw [← hG]; exact del_same
  -- chosen = 0
  refine q_asgV eG2 ev_c fun H3 r3 => ?_
  -- for who in range(1, len(grown))
  have hgl3 := r3.k gl _ hgl
  refine q_forR2 (lo := 1) (n := (w.length : Int)) (ea_cons ev_c (ea_cons (ev_lenE (K := K) (ev_var rfl) (sq_of hgl3) (by rw [hgll])) ea_nil)) (by omega) (fun i σ' H' => ∃ wh, σ' = [some (.ref p), some (.int w.sum), some (.ref gl), some (.int (am (grow w c) i : Nat)), wh] ∧ Ex H2 H')
    (fun H4 e4 => ⟨none, rfl, r3.k.trans e4⟩) ?_ ?_
  · rintro i σ' H' hi ⟨wh, rfl, e⟩
    have ha := am_le (grow w c) i
    have hi1 : am (grow w c) i < w.length := by omega
    obtain ⟨y1, hy1⟩ : ∃ y, gx[am (grow w c) i]? = some y := ⟨gx[am (grow w c) i]'(by omega), List.getElem?_eq_getElem (by omega)⟩
    obtain ⟨y2, hy2⟩ : ∃ y, gx[i + 1]? = some y := ⟨gx[i + 1]'(by omega), List.getElem?_eq_getElem (by omega)⟩
    have d1 := up_ (hgx' _ y1 hy1) (eG2.trans e)
    have d2 := up_ (hgx' _ y2 hy2) (eG2.trans e)
    refine s_ifb (Ex.refl H') (et_B (ev_less (K := K) hS ((ev_ixL (K := K) (ev_var rfl) (ev_var rfl) (sq_of (e gl _ hgl)) hy1).dsc d1) ((ev_ixL (K := K) (j := i + 1) (ev_var rfl) (ev_int (ev_var rfl) (by omega)) (sq_of (e gl _ hgl)) hy2).dsc d2))) (fun hb H4 r4 => ?_) (fun hb H4 r4 => ?_)
    · refine s_asgV (Ex.refl H4) (ev_var rfl) fun H5 r5 => ⟨some (.int (1 + (i : Int))), ?_, (e.trans r4.k).trans r5.k⟩
      have ea : am (grow w c) (i + 1) = i + 1 := by unfold am; rw [if_pos (of_decide_eq_true hb)]
      rw [ea, show ((i + 1 : Nat) : Int) = 1 + (i : Int) by omega]
      rfl
    · refine ⟨some (.int (1 + (i : Int))), ?_, e.trans r4.k⟩
      have ea : am (grow w c) (i + 1) = am (grow w c) i := by conv => lhs; unfold am; rw [if_neg (of_decide_eq_false hb)]
      rw [ea]
      rfl
  rintro σ' H4 ⟨wh, rfl, e4⟩
  have ep : ((w.length : Int) - 1).toNat = w.length - 1 := by omega
  rw [ep]
  have hpk : am (grow w c) (w.length - 1) = pick w c := rfl
  rw [hpk]
  have hpl : pick w c < w.length := by have := am_le (grow w c) (w.length - 1); rw [hpk] at this; omega
  obtain ⟨y1, hy1⟩ : ∃ y, gx[pick w c]? = some y := ⟨gx[pick w c]'(by omega), List.getElem?_eq_getElem (by omega)⟩
  have k4 : ∀ b o, H b = some o → H4 b = some o := fun b o h => e4 b o (k2 b o h)
  -- grown[chosen] = minus(grown[chosen], (1, 1))
  have hmin : EvP (tCall (sp_minus K) [] E0 (tCons (tOp (rIxL K) (tVar 2) (tVar 3)) (tCons (tTup (tCons (tC (.int 1)) (tCons (tC (.int 1)) tNil))) tNil))) [some (.ref p), some (.int w.sum), some (.ref gl), some (.int (pick w c : Nat)), wh] (upd Gs gl (.lst gx)) (Fr K w.sum ((grow w c).getD (pick w c) 0 - w.sum)) :=
    ep_minus (K := K) hS ((ev_ixL (K := K) (ev_var rfl) (ev_var rfl) (sq_of upd_same) hy1).dsc (up_ (hgx' _ y1 hy1) (ex_new g2gl))) (ep_k1' (K := K) hS (by omega) ev_c)
  have e4g : Ex (upd Gs gl (.lst gx)) H4 := ex_updw (e4 gl _ hgl) (eG2.trans e4)
  refine q_setP (j := pick w c) e4g (e4 gl _ hgl) hmin (ev_var rfl) (ev_var rfl) (by omega) fun v G5 H5 r5 dv5 => ?_
  have g5gl : G5 gl = some (.lst gx) := r5.g gl _ upd_same
  have k5 : ∀ b o, H b = some o → H5 b = some o := fun b o h => r5.k b o (k4 b o h)
  have hidn : ∀ b, b ≠ gl → H b ≠ none → Gs b = none → (del G5 gl) b = none := fun b c h1 h2 => by
    rw [del_ne c]
    exact r5.hid b (fun z => h1 (none_back (fun b o h => k4 b o h) z)) (by rw [upd_ne c]; exact h2)
  have dvs : Fr K w.sum ((grow w c).getD (pick w c) 0 - w.sum) v (del G5 gl) := by
    obtain ⟨q, e, hq⟩ := dv5
    exact ⟨q, e, sqT_delL g5gl hq⟩
  have eGs5 : Ex Gs (del G5 gl) := fun b o h => by
    have cb : b ≠ gl := fun cb => by rw [cb, g2gl] at h; cases h
    rw [del_ne cb]
    exact r5.g b o (by rw [upd_ne cb]; exact h)
  have n5p := hidn p (fun e => glp e.symm) (some_ne hp) gsp
  have n5rl := hidn rl (fun e => glrl e.symm) (some_ne hrl) g2rl
  have n5dl := hidn dl (fun e => gldl e.symm) (some_ne hdl) g2dl
  have n5gl : (del G5 gl) gl = none := del_same
  generalize hG5 : del G5 gl = Gk at *
  have eGk : Ex Gk H5 := by rw [← hG5]; exact ex_del.trans r5.s
  have hks : ∀ i x, (gx.set (pick w c) v)[i]? = some x → Fr K w.sum ((kstep w c).getD i 0) x Gk := fun i x hi => by
    have gl0 := grow_len hc
    by_cases ci : pick w c = i
    · subst ci
      rw [List.getElem?_set_self (by omega)] at hi
      have ev : v = x := Option.some.inj hi
      subst ev
      have e1 : (kstep w c).getD (pick w c) 0 = (grow w c).getD (pick w c) 0 - w.sum := by
        unfold kstep
        rw [List.getD_eq_getElem?_getD, List.getElem?_set_self (by omega)]
        rfl
      rw [e1]
      exact dvs
    · rw [List.getElem?_set_ne ci] at hi
      have e1 : (kstep w c).getD i 0 = (grow w c).getD i 0 := by
        unfold kstep
        rw [List.getD_eq_getElem?_getD, List.getElem?_set_ne ci, ← List.getD_eq_getElem?_getD]
      rw [e1]
      exact up_ (hgx' i x hi) eGs5
  -- the heap with the new grown
  have f6 : ∀ b o, H b = some o → (upd H5 gl (.lst (gx.set (pick w c) v))) b = some o := fun b o h => by
    rw [upd_ne (fun cb => by rw [cb, ngl] at h; cases h)]
    exact k5 b o h
  have eG6 : Ex Gk (upd H5 gl (.lst (gx.set (pick w c) v))) := ex_upd eGk n5gl
  generalize h6e : upd H5 gl (.lst (gx.set (pick w c) v)) = H6 at *
  have gl6 : H6 gl = some (.lst (gx.set (pick w c) v)) := by rw [← h6e]; exact upd_same
  -- self.deeds.append(("step", self.owed))
  refine q_appP (K := K) (Ex.refl H6) (f6 dl _ hdl) (ev_fld (ev_var rfl) (f6 p _ hp) CC.cl CC.nD kfs_deeds) (eu_tup (ea_cons ev_c (ea_cons (ev_fld (ev_var rfl) (f6 p _ hp) CC.cl CC.nO kfs_owed) ea_nil)) (by show 2 ≤ 100000; decide)).p (by omega) fun dt G7 H7 r7 _ => ?_
  have f7 : ∀ b o, H b = some o → b ≠ dl → (upd H7 dl (.lst (dv ++ [dt]))) b = some o := fun b o h cb => by rw [upd_ne cb]; exact r7.k b o (f6 b o h)
  have eG7 : Ex Gk (upd H7 dl (.lst (dv ++ [dt]))) := ex_upd (eG6.trans r7.k) n5dl
  have gl7 : (upd H7 dl (.lst (dv ++ [dt]))) gl = some (.lst (gx.set (pick w c) v)) := by rw [upd_ne gldl]; exact r7.k gl _ gl6
  have dl7 : (upd H7 dl (.lst (dv ++ [dt]))) dl = some (.lst (dv ++ [dt])) := upd_same
  generalize upd H7 dl (.lst (dv ++ [dt])) = H8 at *
  -- self.owed = tuple(grown)
  refine q_fldU (eu_tupL (K := K) (ev_var rfl) (sq_of gl7)) (ev_var rfl) (f7 p _ hp (fun e => pdl e.symm)) CC.cl CC.nO (by show 4 < 1000; decide) fun tp H9 n9 e9 htp => ?_
  rw [kfs_put]
  have tpp : tp ≠ p := ne_of htp (e9 p _ (f7 p _ hp (fun e => pdl e.symm))) (by intro z; cases z)
  have f9 : ∀ b o, H b = some o → b ≠ p → b ≠ dl → (upd H9 p (.ins C dx (kfs nw tp rl dl))) b = some o := fun b o h c1 c2 => by rw [upd_ne c1]; exact e9 b o (f7 b o h c2)
  have eG9 : Ex Gk (upd H9 p (.ins C dx (kfs nw tp rl dl))) := ex_upd (eG7.trans e9) n5p
  have p9 : (upd H9 p (.ins C dx (kfs nw tp rl dl))) p = some (.ins C dx (kfs nw tp rl dl)) := upd_same
  have dl9 : (upd H9 p (.ins C dx (kfs nw tp rl dl))) dl = some (.lst (dv ++ [dt])) := by rw [upd_ne pdl]; exact e9 dl _ dl7
  have tp9 : (upd H9 p (.ins C dx (kfs nw tp rl dl))) tp = some (.tup (gx.set (pick w c) v)) := by rw [upd_ne tpp]; exact htp
  generalize upd H9 p (.ins C dx (kfs nw tp rl dl)) = H10 at *
  -- self.row.append(chosen)
  have rl10 := f9 rl _ hrl prl rd
  refine q_appP (K := K) (Ex.refl H10) rl10 (ev_fld (ev_var rfl) p9 CC.cl CC.nR kfs_row) (ev_var rfl).p (by rw [List.length_map]; omega) fun z G11 H11 r11 ez => ?_
  cases ez
  refine s_retV (Ex.refl _) (ev_var rfl) fun z G12 H12 r12 ez => ?_
  cases ez
  have eG12 : Ex Gk H12 := (ex_upd (eG9.trans r11.k) n5rl).trans r12.k
  refine k H12 (fun b o h c1 c2 c3 => r12.k b o (by rw [upd_ne c2]; exact r11.k b o (f9 b o h c1 c3))) ⟨dx, nw, tp, dv ++ [dt], r12.k p _ (by rw [upd_ne (fun e => prl e.symm)]; exact r11.k p _ p9), ⟨nw, rfl, ex_t (eGs5.trans eG12) g2nw⟩, ⟨tp, _, rfl, ?_, ?_, fun i x hi => up_ (hks i x hi) eG12⟩, ?_, ?_, ?_, rd⟩
  · have trl : tp ≠ rl := ne_of tp9 rl10 (by intro z; cases z)
    exact st_of (r12.k tp _ (by rw [upd_ne trl]; exact r11.k tp _ tp9))
  · rw [List.length_set, hgll]
  · have := r12.k rl _ upd_same
    rw [this, List.map_append]
    rfl
  · exact r12.k dl _ (by rw [upd_ne (fun e => rd e.symm)]; exact r11.k dl _ dl9)
  · rw [List.length_append, List.length_append, hdv]
    rfl
end
end Dt
set_option Elab.async false
set_option linter.all false
/-! Plain mathematics for law k49: whoever is chosen soonest keeps all within its ranges. -/
namespace DtM
/-! ### sums -/
def sm : Nat → (Nat → Int) → Int
  | 0, _ => 0
  | k + 1, f => sm k f + f k
theorem sm_le {f g : Nat → Int} : ∀ {n : Nat}, (∀ i, i < n → f i ≤ g i) → sm n f ≤ sm n g
  | 0, _ => Int.le_refl 0
  | k + 1, h => by
    have a := sm_le (n := k) fun i hi => h i (by omega)
    have b := h k (by omega)
    simp only [sm]; omega
theorem sm_eq {f g : Nat → Int} : ∀ {n : Nat}, (∀ i, i < n → f i = g i) → sm n f = sm n g
  | 0, _ => rfl
  | k + 1, h => by
    have a := sm_eq (n := k) fun i hi => h i (by omega)
    have b := h k (by omega)
    simp only [sm]; omega
theorem sm_mul {f : Nat → Int} (c : Int) : ∀ n, sm n (fun i => c * f i) = c * sm n f
  | 0 => by simp [sm]
  | k + 1 => by simp only [sm]; rw [sm_mul c k, Int.mul_add]
theorem sm_add {f g : Nat → Int} : ∀ n, sm n (fun i => f i + g i) = sm n f + sm n g
  | 0 => by simp [sm]
  | k + 1 => by simp only [sm]; rw [sm_add k]; omega
theorem sm_sub {f g : Nat → Int} : ∀ n, sm n (fun i => f i - g i) = sm n f - sm n g
  | 0 => by simp [sm]
  | k + 1 => by simp only [sm]; rw [sm_sub k]; omega
theorem sm_zero : ∀ n, sm n (fun _ => 0) = 0
  | 0 => rfl
  | k + 1 => by simp only [sm]; rw [sm_zero k]; rfl
/-- one place changed -/
theorem sm_at {f g : Nat → Int} {x : Nat} : ∀ {n : Nat}, x < n → (∀ i, i < n → i ≠ x → g i = f i) → sm n g = sm n f - f x + g x
  | 0, h, _ => by omega
  | k + 1, h, hg => by
    simp only [sm]
    by_cases c : x = k
    · subst c
      have := sm_eq (f := f) (g := g) (n := x) fun i hi => (hg i (by omega) (by omega)).symm
      omega
    · have a := sm_at (f := f) (g := g) (x := x) (n := k) (by omega) fun i hi hx => hg i (by omega) hx
      have b := hg k (by omega) (fun e => c e.symm)
      omega
theorem sm_nn {f : Nat → Int} : ∀ {n : Nat}, (∀ i, i < n → 0 ≤ f i) → 0 ≤ sm n f := fun {n} h => by
  have := sm_le (f := fun _ => 0) (g := f) h
  rw [sm_zero] at this
  exact this
theorem sm_one {f : Nat → Int} {n x : Nat} (hx : x < n) (h : ∀ i, i < n → 0 ≤ f i) : f x ≤ sm n f := by
  have a := sm_at (f := f) (g := fun i => if i = x then 0 else f i) (x := x) hx (fun i _ c => by simp [c])
  have b := sm_nn (f := fun i => if i = x then 0 else f i) (n := n) fun i hi => by
    show 0 ≤ if i = x then 0 else f i
    split
    · omega
    · exact h i hi
  simp at a
  omega
theorem sm_cons (a : Int) (l : List Int) : ∀ n, sm (n + 1) (fun i => (a :: l).getD i 0) = a + sm n (fun i => l.getD i 0)
  | 0 => by simp [sm]
  | k + 1 => by
    have ih := sm_cons a l k
    have e1 : sm (k + 1 + 1) (fun i => (a :: l).getD i 0) = sm (k + 1) (fun i => (a :: l).getD i 0) + (a :: l).getD (k + 1) 0 := rfl
    have e2 : sm (k + 1) (fun i => l.getD i 0) = sm k (fun i => l.getD i 0) + l.getD k 0 := rfl
    rw [e1, e2, ih]
    simp
    omega
theorem sm_list : ∀ l : List Int, l.sum = sm l.length (fun i => l.getD i 0)
  | [] => rfl
  | a :: l => by
    rw [List.sum_cons, List.length_cons, sm_cons, sm_list l]
theorem sm_wt (w : List Int) : sm w.length (wt w) = w.sum := (sm_list w).symm
/-! ### the ranges -/
section
variable {w : List Int}
theorem wt_nn (hw : Wts w) (i : Nat) : 0 ≤ wt w i := by
  unfold wt
  by_cases h : i < w.length
  · have e : w[i]? = some (w.getD i 0) := by simp [List.getD_eq_getElem?_getD, List.getElem?_eq_getElem h]
    exact hw.nn _ (List.mem_of_getElem? e)
  · rw [List.getD_eq_getElem?_getD, List.getElem?_eq_none (by omega)]
    exact Int.le_refl 0
theorem lo_mono (hw : Wts w) {t u i : Nat} (h : t ≤ u) : lo w t i ≤ lo w u i := by
  unfold lo
  refine Int.ediv_le_ediv hw.ps (Int.mul_le_mul_of_nonneg_right (by omega) (wt_nn hw i))
theorem hi_mono (hw : Wts w) {t u i : Nat} (h : t ≤ u) : hi w t i ≤ hi w u i := by
  unfold hi
  have a : (t : Int) * wt w i ≤ (u : Int) * wt w i := Int.mul_le_mul_of_nonneg_right (by omega) (wt_nn hw i)
  have := Int.ediv_le_ediv hw.ps (a := -((u : Int) * wt w i)) (b := -((t : Int) * wt w i)) (by omega)
  omega
theorem lo_mul (hw : Wts w) (t i : Nat) : w.sum * lo w t i ≤ (t : Int) * wt w i := by
  unfold lo
  exact Int.mul_ediv_self_le (by have := hw.ps; omega)
theorem lo_lt (hw : Wts w) (t i : Nat) : (t : Int) * wt w i < w.sum * lo w t i + w.sum := by
  unfold lo
  have := Int.lt_mul_ediv_self_add (x := (t : Int) * wt w i) hw.ps
  omega
theorem hi_mul (hw : Wts w) (t i : Nat) : (t : Int) * wt w i ≤ w.sum * hi w t i := by
  unfold hi
  have := Int.mul_ediv_self_le (x := -((t : Int) * wt w i)) (k := w.sum) (by have := hw.ps; omega)
  rw [Int.mul_neg]
  omega
theorem hi_lt (hw : Wts w) (t i : Nat) : w.sum * hi w t i < (t : Int) * wt w i + w.sum := by
  unfold hi
  have := Int.lt_mul_ediv_self_add (x := -((t : Int) * wt w i)) hw.ps
  rw [Int.mul_neg]
  omega
theorem mbF_ge (i : Nat) (c : Int) : ∀ k q, q ≤ mbF w i c k q
  | 0, q => Nat.le_refl q
  | k + 1, q => by
    unfold mbF
    split
    · exact Nat.le_refl q
    · have := mbF_ge i c k (q + 1); omega
theorem mbF_gt {i : Nat} {c : Int} {t : Nat} : ∀ k q, (∀ r, q ≤ r → r ≤ t → lo w r i ≤ c) → t < q + k → t < mbF w i c k q
  | 0, q, _, h => h
  | k + 1, q, hr, h => by
    unfold mbF
    split
    · rename_i g
      rcases Nat.lt_or_ge t q with d | d
      · exact d
      · have := hr q (Nat.le_refl q) d; omega
    · exact mbF_gt k (q + 1) (fun r h1 h2 => hr r (by omega) h2) (by omega)
theorem mbF_le {i : Nat} {c : Int} {t : Nat} : ∀ k q, q ≤ t → t < q + k → lo w t i > c → mbF w i c k q ≤ t
  | 0, q, h1, h2, _ => by omega
  | k + 1, q, h1, h2, g => by
    unfold mbF
    split
    · exact h1
    · rename_i n
      have : q ≠ t := fun e => n (e ▸ g)
      exact mbF_le k (q + 1) (by omega) (by omega) g
end
/-! ### the deal -/
structure EInv (w : List Int) (T p : Nat) (cs row : List Int) : Prop where
  cl : cs.length = w.length
  rl : row.length = p
  rc : ∀ a ∈ row, 0 ≤ a ∧ a < w.length
  ct : ∀ i, i < w.length → cs.getD i 0 = (row.count (i : Int) : Nat)
  su : sm w.length (fun i => cs.getD i 0) = p
  up : ∀ i, i < w.length → cs.getD i 0 ≤ hi w p i
  hall : ∀ t, p ≤ t → t ≤ T → sm w.length (fun i => max 0 (lo w t i - cs.getD i 0)) ≤ (t : Int) - p
  hist : ∀ t i, t ≤ p → i < w.length → lo w t i ≤ cnt row t i ∧ cnt row t i ≤ hi w t i
section
variable {w cs row : List Int} {T p : Nat}
theorem getD_rep (n i : Nat) : (List.replicate n (0 : Int)).getD i 0 = 0 := by
  rw [List.getD_eq_getElem?_getD]
  cases q : (List.replicate n (0 : Int))[i]? with
  | none => rfl
  | some z => exact List.eq_of_mem_replicate (List.mem_of_getElem? q)
theorem lo_0 (hw : Wts w) (i : Nat) : lo w 0 i = 0 := by
  unfold lo
  simp
theorem hi_0 (hw : Wts w) (i : Nat) : hi w 0 i = 0 := by
  unfold hi
  simp
theorem lo_nn (hw : Wts w) (t i : Nat) : 0 ≤ lo w t i := by
  have := lo_mono hw (Nat.zero_le t) (i := i)
  rw [lo_0 hw] at this
  exact this
theorem einv0 (hw : Wts w) : EInv w T 0 (List.replicate w.length 0) [] := by
  refine ⟨List.length_replicate .., rfl, fun a h => (by cases h), fun i _ => by rw [getD_rep]; rfl, ?_, fun i _ => by rw [getD_rep, hi_0 hw]; omega, fun t _ _ => ?_, fun t i ht _ => ?_⟩
  · rw [sm_eq (g := fun _ => 0) fun i _ => getD_rep _ i, sm_zero]; rfl
  · have e : sm w.length (fun i => max 0 (lo w t i - (List.replicate w.length (0 : Int)).getD i 0)) = sm w.length (fun i => lo w t i) := sm_eq fun i _ => by
      rw [getD_rep]
      have := lo_nn hw t i
      omega
    rw [e]
    have a : sm w.length (fun i => w.sum * lo w t i) ≤ sm w.length (fun i => (t : Int) * wt w i) := sm_le fun i _ => lo_mul hw t i
    rw [sm_mul, sm_mul, sm_wt, Int.mul_comm (t : Int)] at a
    have := Int.le_of_mul_le_mul_left a hw.ps
    exact Int.le_trans this (by omega)
  · have e : t = 0 := by omega
    subst e
    have e2 : cnt [] 0 i = 0 := rfl
    rw [e2, lo_0 hw, hi_0 hw]
    omega
theorem einv_few (E : EInv w T p cs row) (hp : p ≤ T) {i : Nat} (h : i < w.length) : lo w p i ≤ cs.getD i 0 := by
  have a := E.hall p (Nat.le_refl p) hp
  have b := sm_one (f := fun i => max 0 (lo w p i - cs.getD i 0)) h fun i _ => by omega
  omega
theorem einv_far (hw : Wts w) (E : EInv w T p cs row) {i : Nat} (h : i < w.length) : cs.getD i 0 ≤ hi w (p + 1) i := Int.le_trans (E.up i h) (hi_mono hw (Nat.le_succ p))
theorem einv_cand (hw : Wts w) (E : EInv w T p cs row) : ∃ i, i < w.length ∧ cs.getD i 0 + 1 ≤ hi w (p + 1) i := by
  apply Classical.byContradiction
  intro n
  have a : sm w.length (fun i => hi w (p + 1) i) ≤ sm w.length (fun i => cs.getD i 0) := sm_le fun i hi' => by
    rcases Int.lt_or_le (cs.getD i 0) (hi w (p + 1) i) with c | c
    · exact absurd ⟨i, hi', by omega⟩ n
    · exact c
  have b : sm w.length (fun i => ((p + 1 : Nat) : Int) * wt w i) ≤ sm w.length (fun i => w.sum * hi w (p + 1) i) := sm_le fun i _ => hi_mul hw (p + 1) i
  rw [sm_mul, sm_mul, sm_wt, Int.mul_comm _ w.sum] at b
  have c : ((p + 1 : Nat) : Int) ≤ sm w.length (fun i => hi w (p + 1) i) := Int.le_of_mul_le_mul_left b hw.ps
  have := E.su
  omega
theorem getD_set {l : List Int} {x i : Nat} {v : Int} (h : x < l.length) : (l.set x v).getD i 0 = if i = x then v else l.getD i 0 := by
  rw [List.getD_eq_getElem?_getD, List.getD_eq_getElem?_getD]
  by_cases c : i = x
  · subst c
    rw [List.getElem?_set_self h, if_pos rfl]; rfl
  · rw [List.getElem?_set_ne (fun e => c e.symm), if_neg c]
theorem cnt_app {row : List Int} {a : Int} {t i : Nat} (h : t ≤ row.length) : cnt (row ++ [a]) t i = cnt row t i := by
  unfold cnt
  rw [List.take_append_of_le_length h]
theorem einv_step (hw : Wts w) (E : EInv w T p cs row) (hp : p + 1 ≤ T) {x : Nat} (hx : x < w.length) (hc : cs.getD x 0 + 1 ≤ hi w (p + 1) x)
    (hm : ∀ j, j < w.length → cs.getD j 0 + 1 ≤ hi w (p + 1) j → mb w T (p + 1) x (cs.getD x 0) ≤ mb w T (p + 1) j (cs.getD j 0)) : EInv w T (p + 1) (cs.set x (cs.getD x 0 + 1)) (row ++ [(x : Int)]) := by
  have hxl : x < cs.length := by rw [E.cl]; exact hx
  have hall : ∀ t, p + 1 ≤ t → t ≤ T → sm w.length (fun i => max 0 (lo w t i - (cs.set x (cs.getD x 0 + 1)).getD i 0)) ≤ (t : Int) - ((p + 1 : Nat) : Int) := by
    intro t h1 h2
    rcases Int.lt_or_le (cs.getD x 0) (lo w t x) with c | c
    · have a := E.hall t (by omega) h2
      have b := sm_at (f := fun i => max 0 (lo w t i - cs.getD i 0)) (g := fun i => max 0 (lo w t i - (cs.set x (cs.getD x 0 + 1)).getD i 0)) hx fun i _ hne => by
        rw [getD_set hxl, if_neg hne]
      rw [b]
      rw [getD_set hxl, if_pos rfl]
      omega
    · -- x's next choice is not due by t: no one's is, of those that may be chosen
      have m1 : t < mb w T (p + 1) x (cs.getD x 0) := mbF_gt _ _ (fun r _ hr => Int.le_trans (lo_mono hw hr) c) (by omega)
      have pt : ∀ i, i < w.length → w.sum * max 0 (lo w t i - (cs.set x (cs.getD x 0 + 1)).getD i 0) ≤ ((t : Int) - ((p + 1 : Nat) : Int)) * wt w i := by
        intro i hi'
        have nn : 0 ≤ ((t : Int) - ((p + 1 : Nat) : Int)) * wt w i := Int.mul_nonneg (by omega) (wt_nn hw i)
        have cs' : cs.getD i 0 ≤ (cs.set x (cs.getD x 0 + 1)).getD i 0 := by
          rw [getD_set hxl]
          split
          · rename_i e; rw [e]; omega
          · omega
        rcases Int.lt_or_le (cs.getD i 0) (hi w (p + 1) i) with d | d
        · -- it may be chosen
          have m2 := hm i hi' (by omega)
          have q : lo w t i ≤ cs.getD i 0 := by
            rcases Int.lt_or_le (cs.getD i 0) (lo w t i) with g | g
            · have := mbF_le (w := w) (i := i) (c := cs.getD i 0) (T + 1 - (p + 1)) (p + 1) h1 (by omega) g
              unfold mb at m1 m2
              omega
            · exact g
          have z : max 0 (lo w t i - (cs.set x (cs.getD x 0 + 1)).getD i 0) = 0 := by omega
          rw [z, Int.mul_zero]
          exact nn
        · have z : max 0 (lo w t i - (cs.set x (cs.getD x 0 + 1)).getD i 0) ≤ max 0 (lo w t i - hi w (p + 1) i) := by omega
          refine Int.le_trans (Int.mul_le_mul_of_nonneg_left z (Int.le_of_lt hw.ps)) ?_
          rcases Int.lt_or_le (lo w t i) (hi w (p + 1) i) with g | g
          · rw [show max 0 (lo w t i - hi w (p + 1) i) = 0 by omega, Int.mul_zero]
            exact nn
          · rw [show max 0 (lo w t i - hi w (p + 1) i) = lo w t i - hi w (p + 1) i by omega, Int.mul_sub, Int.sub_mul]
            have := lo_mul hw t i
            have := hi_mul hw (p + 1) i
            omega
      have s := sm_le pt
      rw [sm_mul, sm_mul, sm_wt, Int.mul_comm _ w.sum] at s
      exact Int.le_of_mul_le_mul_left s hw.ps
  refine ⟨by rw [List.length_set]; exact E.cl, by rw [List.length_append, E.rl]; rfl, fun a ha => ?_, fun i hi' => ?_, ?_, fun i hi' => ?_, hall, fun t i ht hi' => ?_⟩
  · rcases List.mem_append.mp ha with h | h
    · exact E.rc a h
    · rw [List.mem_singleton.mp h]; omega
  · rw [getD_set hxl, List.count_append, E.ct x hx, E.ct i hi']
    by_cases c : i = x
    · subst c; simp
    · rw [if_neg c]
      have : (List.count (i : Int) [(x : Int)]) = 0 := List.count_eq_zero.mpr (by simp; omega)
      rw [this]; rfl
  · rw [sm_at (f := fun i => cs.getD i 0) (g := fun i => (cs.set x (cs.getD x 0 + 1)).getD i 0) hx fun i _ hne => by rw [getD_set hxl, if_neg hne]]
    rw [getD_set hxl, if_pos rfl]
    have := E.su
    omega
  · rw [getD_set hxl]
    split
    · rename_i e; rw [e]; exact hc
    · exact einv_far hw E hi'
  · by_cases c : t ≤ p
    · rw [cnt_app (by rw [E.rl]; exact c)]
      exact E.hist t i c hi'
    · have et : t = p + 1 := by omega
      subst et
      have ec : cnt (row ++ [(x : Int)]) (p + 1) i = (cs.set x (cs.getD x 0 + 1)).getD i 0 := by
        unfold cnt
        rw [List.take_of_length_le (by rw [List.length_append, E.rl]; exact Nat.le_refl _), List.count_append, getD_set hxl, E.ct x hx, E.ct i hi']
        by_cases c : i = x
        · subst c; simp
        · rw [if_neg c]
          have : (List.count (i : Int) [(x : Int)]) = 0 := List.count_eq_zero.mpr (by simp; omega)
          rw [this]; rfl
      rw [ec]
      constructor
      · have a := hall (p + 1) (Nat.le_refl _) hp
        have b := sm_one (f := fun i => max 0 (lo w (p + 1) i - (cs.set x (cs.getD x 0 + 1)).getD i 0)) hi' fun i _ => by omega
        omega
      · rw [getD_set hxl]
        split
        · rename_i e; rw [e]; exact hc
        · exact einv_far hw E hi'
theorem einv_good (hw : Wts w) (E : EInv w T T cs row) : GoodRow w T row := by
  refine ⟨E.rl, E.rc, fun t i ht hi' => ?_⟩
  obtain ⟨a, b⟩ := E.hist t i ht hi'
  have hS := hw.ps
  have h1 := lo_lt hw t i
  have h2 := hi_lt hw t i
  have m1 := Int.mul_le_mul_of_nonneg_left a (Int.le_of_lt hS)
  have m2 := Int.mul_le_mul_of_nonneg_left b (Int.le_of_lt hS)
  unfold lagN
  rw [Int.mul_comm (cnt row t i) w.sum]
  omega
end
end DtM
set_option Elab.async false
set_option linter.all false
set_option maxRecDepth 100000
set_option maxHeartbeats 4000000
/-! Readings: bounds, ranges, who is chosen soonest. -/
namespace Dt
open PySem PySem.Spec PyProof.Rows L2 Evl DtM
section
variable {K : PySem.W.Frag} {x y z u v : V} {G G1 G2 H H' H1 H2 : Hp} {Q : VK} {σ : L2.St} {te ta tb tc td : TE} {E : XK} {D : Ends} {tu tz : TS} {p C dx : Addr} {fs : List (Str × V)} {f : Str} {d : Dsc} {o : HO}
theorem ev_isFr {S a : Int} (hS : 0 < S) (h : EvP te σ G (Fr K S a)) : Ev (tCall (sp_is_fraction K) [] E (tCons te tNil)) σ G (.bl true) :=
  ev_call1 h fun x G1 H1 e1 e2 dx Q E q => ⟨x, rfl, a, S, hS, up_ dx e2, q⟩
theorem pu_check_bound (h : ∃ S m, Sm S ∧ 0 ≤ m ∧ m ≤ 300 * S ∧ Bd K S m x H ∧ RetV .non H Q) : t_check_bound K (En Q) (start N_check_bound [x]) H := by
  obtain ⟨S, m, hS, m0, m1, ⟨p, v0, v1, rfl, hp, d0, e1⟩, k⟩ := h
  cases e1
  obtain ⟨q, rfl, hq⟩ := id d0
  refine q_skip (Ex.refl H) (et_is (et_or (a := false) (b := false) (et_not (a := true) (et_B (ev_isi (n := "tuple") (ev_var rfl) (fun H1 e => ty_tup (ex_t e hp)) (by decide +kernel)))) fun _ => et_is (et_or (a := false) (b := false) (et_test (ev_bl (ev_neI (ev_lenT (ev_var rfl) hp) ev_c) rfl)) fun _ => et_not (a := true) (et_B (ev_isi (n := "bool") (ev_ixT1 (ev_var rfl) hp) (fun _ _ => ty_bl) (by decide +kernel)))) rfl) rfl) fun H1 r1 => ?_
  have hp1 := ex_t r1.k hp
  have d1 := up_ d0 r1.k
  refine s_skip (Ex.refl H1) (et_is (et_or (a := false) (b := false) (et_not (a := true) (et_B (ev_isFr hS.1 ((ev_ixT0 (ev_var rfl) hp1).dsc d1)))) fun _ => et_is (et_or (a := false) (b := false) (et_test (ev_bl (ev_lt (ev_ixT0 (K := K) (ev_ixT0 (K := K) (ev_var rfl) hp1) (ex_t r1.k hq)) ev_c) (decide_eq_false ?_))) fun _ => et_B (ev_bl (ev_less (K := K) hS (ep_k1 (K := K) hS ev_c) ((ev_ixT0 (ev_var rfl) hp1).dsc d1)) (decide_eq_false (by omega)))) rfl) rfl) fun H2 r2 => k H2 (r1.k.trans r2.k)
  have e := fr_1 (a := m) hS.1
  have g := gcd_pos (a := m) hS.1
  intro c
  have := Int.mul_neg_of_neg_of_pos c g
  omega
theorem pu_lag_keeps (h : ∃ S m a, Sm S ∧ Bd K S m x H ∧ Fr K S a y H ∧ RetV (.bl (decide ((if a < 0 then -a else a) < m))) H Q) : t_lag_keeps K (En Q) (start N_lag_keeps [x, y]) H := by
  obtain ⟨S, m, a, hS, ⟨p, v0, v1, rfl, hp, d0, e1⟩, hy, k⟩ := h
  cases e1
  refine q_ifb (Ex.refl H) (et_B (ev_ixT1 (ev_var rfl) hp)) (fun _ H1 r1 => ?_) (fun e => nomatch e)
  exact s_retV (Ex.refl H1) (ev_less (K := K) hS (ep_unsigned hS (ep_var (v := y) rfl (up_ hy r1.k))) ((ev_ixT0 (K := K) (ev_var rfl) (ex_t r1.k hp)).dsc (up_ d0 r1.k))) (k.up r1.k).ret
theorem pu_low_of (h : ∃ S m a, Sm S ∧ Bd K S m x H ∧ Fr K S a y H ∧ RetV (.int (if (a - m) / S + 1 > 0 then (a - m) / S + 1 else 0)) H Q) : t_low_of K (En Q) (start N_low_of [x, y]) H := by
  obtain ⟨S, m, a, hS, ⟨p, v0, v1, rfl, hp, d0, e1⟩, hy, k⟩ := h
  cases e1
  refine q_ifb (Ex.refl H) (et_B (ev_ixT1 (ev_var rfl) hp)) (fun _ H1 r1 => ?_) (fun e => nomatch e)
  exact s_retV (Ex.refl H1) (ev_max2 ev_c (ev_add (ev_floor (K := K) hS (ep_minus hS (ep_var (v := y) rfl (up_ hy r1.k)) ((ev_ixT0 (K := K) (ev_var rfl) (ex_t r1.k hp)).dsc (up_ d0 r1.k)))) ev_c)) (k.up r1.k).ret
theorem pu_high_of (h : ∃ S m a, Sm S ∧ Bd K S m x H ∧ Fr K S a y H ∧ RetV (.int (if -((-(a + m)) / S) - 1 > 0 then -((-(a + m)) / S) - 1 else 0)) H Q) : t_high_of K (En Q) (start N_high_of [x, y]) H := by
  obtain ⟨S, m, a, hS, ⟨p, v0, v1, rfl, hp, d0, e1⟩, hy, k⟩ := h
  cases e1
  refine q_ifb (Ex.refl H) (et_B (ev_ixT1 (ev_var rfl) hp)) (fun _ H1 r1 => ?_) (fun e => nomatch e)
  exact s_retV (Ex.refl H1) (ev_max2 ev_c (ev_sub (ev_ceil (K := K) hS (ep_plus hS (ep_var (v := y) rfl (up_ hy r1.k)) ((ev_ixT0 (K := K) (ev_var rfl) (ex_t r1.k hp)).dsc (up_ d0 r1.k)))) ev_c)) (k.up r1.k).ret
theorem lo_low {w : List Int} (hw : Wts w) (t i : Nat) (hi : i < w.length) : (if ((t : Int) * wt w i - w.sum) / w.sum + 1 > 0 then ((t : Int) * wt w i - w.sum) / w.sum + 1 else 0) = lo w t i := by
  have hS := hw.ps
  have wb := wt_bd hw hi
  have nn : 0 ≤ (t : Int) * wt w i := Int.mul_nonneg (by omega) wb.1
  have e : ((t : Int) * wt w i - w.sum) / w.sum = ((t : Int) * wt w i) / w.sum - 1 := by
    have := Int.add_mul_ediv_right ((t : Int) * wt w i) (-1) (c := w.sum) (by omega)
    rw [show (t : Int) * wt w i - w.sum = (t : Int) * wt w i + -1 * w.sum by omega, this]
    omega
  have p := Int.ediv_nonneg nn (Int.le_of_lt hS)
  unfold DtM.lo
  rw [e]
  split <;> omega
theorem hi_high {w : List Int} (hw : Wts w) (t i : Nat) (h : i < w.length) : (if -((-((t : Int) * wt w i + w.sum)) / w.sum) - 1 > 0 then -((-((t : Int) * wt w i + w.sum)) / w.sum) - 1 else 0) = hi w t i := by
  have hS := hw.ps
  have wb := wt_bd hw h
  have nn : 0 ≤ (t : Int) * wt w i := Int.mul_nonneg (by omega) wb.1
  have e : (-((t : Int) * wt w i + w.sum)) / w.sum = (-((t : Int) * wt w i)) / w.sum - 1 := by
    have := Int.add_mul_ediv_right (-((t : Int) * wt w i)) (-1) (c := w.sum) (by omega)
    rw [show -((t : Int) * wt w i + w.sum) = -((t : Int) * wt w i) + -1 * w.sum by omega, this]
    omega
  have p : (-((t : Int) * wt w i)) / w.sum ≤ 0 := Int.ediv_nonpos_of_nonpos_of_neg (by omega) hS
  unfold DtM.hi
  rw [e]
  split <;> omega
theorem pu_ranges_by_turns (PC : PlanC K C) (h : ∃ G w T, Ex G H ∧ Wts w ∧ T ≤ 240 ∧ PlanD K C w T x G ∧ Bd K w.sum w.sum y G ∧ Ret (RangesD K w T) G H Q) : t_ranges_by_turns K (En Q) (start N_ranges_by_turns [x, y]) H := by
  obtain ⟨G, w, T, e, hw, hT, ⟨ns, hns, hsum, hk, p, dx, fs, tv, rfl, hp, ht, q, rows, rfl, hq, hln, hrows⟩, hy, k⟩ := h
  have hS := wts_sm hw
  have l6 := hw.l6
  obtain ⟨b, bv, bw, rfl, hb, db, eb⟩ := id hy
  cases eb
  have hout := em_lcL (K := K) (tl := tFld K (tVar 0) "table") (j := 2) (σ := [some (.ref p), some (.ref b), none, none]) (G := G) (te := tLc (iList K (tVar 2)) (gName 3) tYes (tTup (tCons (tCall (sp_low_of K) [] E0 (tCons (tVar 1) (tCons (tVar 3) tNil))) (tCons (tCall (sp_high_of K) [] E0 (tCons (tVar 1) (tCons (tVar 3) tNil))) tNil))) [3])
    (fun t => Ls w.length fun i => Pr K (Is (.int (lo w t i))) (Is (.int (hi w t i)))) (ev_fld (ev_var rfl) hp PC.cl PC.nT ht) (sq_of hq) (by omega) (fun x => rfl) fun t rv G1 e1 hrv => ?_
  · rw [hln] at hout
    exact s_retP e hout.ls k
  · obtain ⟨rp, fx, rfl, hrp, hfl, hfx⟩ := hrows t rv hrv
    have hin := em_lcL (K := K) (tl := tVar 2) (j := 3) (σ := [some (.ref p), some (.ref b), some (.ref rp), none]) (G := G1) (te := tTup (tCons (tCall (sp_low_of K) [] E0 (tCons (tVar 1) (tCons (tVar 3) tNil))) (tCons (tCall (sp_high_of K) [] E0 (tCons (tVar 1) (tCons (tVar 3) tNil))) tNil)))
      (fun i => Pr K (Is (.int (lo w t i))) (Is (.int (hi w t i)))) (ev_var rfl) (sq_of (e1 rp _ hrp)) (by omega) (fun x => rfl) fun i fv G2 e2 hfv => ?_
    · rw [hfl] at hin
      exact hin.ls
    · have hi' : i < w.length := by have := (List.getElem?_eq_some_iff.mp hfv).1; omega
      have df := up_ (hfx i fv hfv) (e1.trans e2)
      have dy := up_ hy (e1.trans e2)
      refine en_pr (ev_int (ev_call2 (ep_var (v := .ref b) rfl dy) (ep_var (v := fv) rfl df) fun x y G3 H3 a1 a2 dx dy Q E q => ⟨x, y, rfl, w.sum, w.sum, _, hS, up_ dx a2, up_ dy a2, q⟩) (lo_low hw t i hi')).p
        (ev_int (ev_call2 (ep_var (v := .ref b) rfl dy) (ep_var (v := fv) rfl df) fun x y G3 H3 a1 a2 dx dy Q E q => ⟨x, y, rfl, w.sum, w.sum, _, hS, up_ dx a2, up_ dy a2, q⟩) (hi_high hw t i hi')).p
/-! ### tables of ranges -/
theorem rng_at {w : List Int} {T t i : Nat} (h : RangesD K w T x H) (ht : t ≤ T) (hi' : i < w.length) : ∃ tp rows rp items ip, x = .ref tp ∧ H tp = some (.lst rows) ∧ rows.length = T + 1 ∧ rows[t]? = some (.ref rp) ∧ H rp = some (.lst items) ∧ items[i]? = some (.ref ip) ∧ SqT K H ip [.int (lo w t i), .int (hi w t i)] := by
  obtain ⟨tp, rows, rfl, h1, h2, h3⟩ := h
  obtain ⟨rv, hrv⟩ : ∃ y, rows[t]? = some y := ⟨rows[t]'(by omega), List.getElem?_eq_getElem (by omega)⟩
  obtain ⟨rp, items, rfl, h4, h5, h6⟩ := h3 t rv hrv
  obtain ⟨iv, hiv⟩ : ∃ y, items[i]? = some y := ⟨items[i]'(by omega), List.getElem?_eq_getElem (by omega)⟩
  obtain ⟨ip, a, b, rfl, h7, ea, eb⟩ := h6 i iv hiv
  cases ea
  cases eb
  exact ⟨tp, rows, rp, items, ip, rfl, h1, h2, hrv, h4, hiv, h7⟩
theorem ev_rng0 {w : List Int} {T t i : Nat} (h : RangesD K w T x G) (ht : t ≤ T) (hi' : i < w.length) (ha : Ev ta σ G x) (hb : Ev tb σ G (.int t)) (hc : Ev tc σ G (.int i)) : Ev (tOp (rIxT K) (tOp (rIxL K) (tOp (rIxL K) ta tb) tc) (tC (.int 0))) σ G (.int (lo w t i)) := by
  obtain ⟨tp, rows, rp, items, ip, rfl, h1, h2, h3, h4, h5, h6⟩ := rng_at h ht hi'
  exact ev_ixT0 (K := K) (ev_ixL (K := K) (ev_ixL (K := K) ha hb (sq_of h1) h3) hc (sq_of h4) h5) h6
theorem ev_rng1 {w : List Int} {T t i : Nat} (h : RangesD K w T x G) (ht : t ≤ T) (hi' : i < w.length) (ha : Ev ta σ G x) (hb : Ev tb σ G (.int t)) (hc : Ev tc σ G (.int i)) : Ev (tOp (rIxT K) (tOp (rIxL K) (tOp (rIxL K) ta tb) tc) (tC (.int 1))) σ G (.int (hi w t i)) := by
  obtain ⟨tp, rows, rp, items, ip, rfl, h1, h2, h3, h4, h5, h6⟩ := rng_at h ht hi'
  exact ev_ixT1 (K := K) (ev_ixL (K := K) (ev_ixL (K := K) ha hb (sq_of h1) h3) hc (sq_of h4) h5) h6
theorem pu_must_by (h : ∃ (w : List Int) (T p i : Nat) (c : Int), T ≤ 240 ∧ p ≤ T ∧ i < w.length ∧ RangesD K w T x H ∧ y = .int p ∧ z = .int i ∧ u = .int c ∧ RetV (.int (mb w T p i c : Nat)) H Q) : t_must_by K (En Q) (start N_must_by [x, y, z, u]) H := by
  obtain ⟨w, T, p, i, c, hT, hp, hi', hx, rfl, rfl, rfl, k⟩ := h
  obtain ⟨tp, rows, ex, htp, hln, _⟩ := id hx
  subst ex
  refine q_forR2 (lo := (p : Int)) (n := (T : Int) + 1) (ea_cons (ev_var rfl) (ea_cons (ev_lenE (K := K) (ev_var rfl) (sq_of htp) (by omega)) ea_nil)) (by omega)
    (fun j σ' H' => ∃ pl, σ' = [some (.ref tp), some (.int p), some (.int i), some (.int c), pl] ∧ Ex H H' ∧ mb w T p i c = mbF w i c (T + 1 - p - j) (p + j)) (fun H1 e => ⟨none, rfl, e, rfl⟩) ?_ ?_
  · rintro j σ' H' hj ⟨pl, rfl, e, em⟩
    have hk : T + 1 - p - j = (T + 1 - p - (j + 1)) + 1 := by omega
    rw [hk] at em
    unfold mbF at em
    refine s_ifb (Ex.refl H') (et_test (ev_gt (ev_rng0 (K := K) (t := p + j) (up_ hx e) (by omega) hi' (ev_var rfl) (ev_int (ev_var rfl) (by omega)) (ev_var rfl)) (ev_var rfl))) (fun hb H1 r1 => ?_) (fun hb H1 r1 => ?_)
    · rw [if_pos (show lo w (p + j) i > c from of_decide_eq_true hb)] at em
      rw [em] at k
      exact s_retV (Ex.refl H1) (ev_int (ev_var rfl) (by omega)) (k.up (e.trans r1.k)).ret
    · rw [if_neg (show ¬ lo w (p + j) i > c from of_decide_eq_false hb)] at em
      exact ⟨_, rfl, e.trans r1.k, em⟩
  · rintro σ' H' ⟨pl, rfl, e, em⟩
    rw [show T + 1 - p - ((T : Int) + 1 - p).toNat = 0 by omega, show p + ((T : Int) + 1 - p).toNat = T + 1 by omega] at em
    have em2 : mb w T p i c = T + 1 := em
    rw [em2] at k
    exact s_retV (Ex.refl H') (ev_lenE (K := K) (ev_var rfl) (sq_of (e tp _ htp)) (by omega)) (k.up e).ret
theorem pu_too_far (h : ∃ (w cs : List Int) (T p : Nat), Wts w ∧ T ≤ 240 ∧ p ≤ T ∧ cs.length = w.length ∧ RangesD K w T x H ∧ y = .int p ∧ Ints cs z H ∧ (∀ i, i < w.length → cs.getD i 0 ≤ hi w p i) ∧ RetV (.bl false) H Q) : t_too_far K (En Q) (start N_too_far [x, y, z]) H := by
  obtain ⟨w, cs, T, p, hw, hT, hp, hc, hx, rfl, ⟨q, rfl, hq⟩, hh, k⟩ := h
  have l6 := hw.l6
  refine q_forR1 (n := (w.length : Int)) (ea_cons (ev_lenE (K := K) (ev_var rfl) (sq_of hq) (by rw [len_i, hc])) ea_nil) (by omega) (fun j σ' H' => ∃ wh, σ' = [some x, some (.int p), some (.ref q), wh] ∧ Ex H H') (fun H1 e => ⟨none, rfl, e⟩) ?_ ?_
  · rintro j σ' H' hj ⟨wh, rfl, e⟩
    have hj' : j < w.length := by omega
    have := hh j hj'
    exact s_skip (Ex.refl H') (et_test (ev_bl (ev_gt (ev_ixL (K := K) (ev_var rfl) (ev_var rfl) (sq_of (e q _ hq)) (ints_get (by omega))) (ev_rng1 (K := K) (up_ hx e) hp hj' (ev_var rfl) (ev_var rfl) (ev_var rfl))) (decide_eq_false (by omega)))) fun H1 r1 => ⟨_, rfl, e.trans r1.k⟩
  · rintro σ' H' ⟨wh, rfl, e⟩
    exact s_retV (Ex.refl H') ev_c (k.up e).ret
theorem pu_too_few (h : ∃ (w cs : List Int) (T p : Nat), Wts w ∧ T ≤ 240 ∧ p ≤ T ∧ cs.length = w.length ∧ RangesD K w T x H ∧ y = .int p ∧ Ints cs z H ∧ (∀ i, i < w.length → lo w p i ≤ cs.getD i 0) ∧ RetV (.bl false) H Q) : t_too_few K (En Q) (start N_too_few [x, y, z]) H := by
  obtain ⟨w, cs, T, p, hw, hT, hp, hc, hx, rfl, ⟨q, rfl, hq⟩, hh, k⟩ := h
  have l6 := hw.l6
  refine q_forR1 (n := (w.length : Int)) (ea_cons (ev_lenE (K := K) (ev_var rfl) (sq_of hq) (by rw [len_i, hc])) ea_nil) (by omega) (fun j σ' H' => ∃ wh, σ' = [some x, some (.int p), some (.ref q), wh] ∧ Ex H H') (fun H1 e => ⟨none, rfl, e⟩) ?_ ?_
  · rintro j σ' H' hj ⟨wh, rfl, e⟩
    have hj' : j < w.length := by omega
    have := hh j hj'
    exact s_skip (Ex.refl H') (et_test (ev_bl (ev_lt (ev_ixL (K := K) (ev_var rfl) (ev_var rfl) (sq_of (e q _ hq)) (ints_get (by omega))) (ev_rng0 (K := K) (up_ hx e) hp hj' (ev_var rfl) (ev_var rfl) (ev_var rfl))) (decide_eq_false (by omega)))) fun H1 r1 => ⟨_, rfl, e.trans r1.k⟩
  · rintro σ' H' ⟨wh, rfl, e⟩
    exact s_retV (Ex.refl H') ev_c (k.up e).ret
end
end Dt
set_option Elab.async false
set_option linter.all false
set_option maxRecDepth 100000
set_option maxHeartbeats 4000000
/-! Readings: the deal. -/
namespace Dt
open PySem PySem.Spec PyProof.Rows L2 Evl DtM
def AnyD : Dsc := fun _ _ => True
instance : Up AnyD := ⟨fun _ _ _ _ h => h⟩
section
variable {K : PySem.W.Frag} {x y z u v : V} {G G1 G2 H H' H1 H2 : Hp} {Q : VK} {σ : L2.St} {te ta tb tc td : TE} {E : XK} {D : Ends} {tu tz : TS} {p C dx : Addr} {fs : List (Str × V)} {f : Str} {d : Dsc} {o : HO}
theorem ls_ints {l : List Int} {xs : List V} (h : xs.length = l.length) (hx : ∀ (i : Nat) (x : V), xs[i]? = some x → x = V.int (l.getD i 0)) : xs = l.map V.int := by
  apply List.ext_getElem?
  intro i
  by_cases c : i < xs.length
  · rw [List.getElem?_eq_getElem c, ints_get (by omega)]
    exact congrArg some (hx i _ (List.getElem?_eq_getElem c))
  · rw [List.getElem?_eq_none (by omega), List.getElem?_eq_none (by rw [List.length_map]; omega)]
theorem ls_to_ints {l : List Int} (h : EvP te σ G (Ls l.length fun i => Is (.int (l.getD i 0)))) : EvP te σ G (Ints l) := h.imp fun v G1 _ ⟨p, xs, ev, hp, hl, hx⟩ => ⟨p, ev, by rw [← ls_ints hl hx]; exact hp⟩
theorem pu_soonest (h : ∃ (w cs : List Int) (T p : Nat), Wts w ∧ T ≤ 240 ∧ p ≤ T ∧ cs.length = w.length ∧ RangesD K w T x H ∧ y = .int p ∧ Ints cs z H ∧ (∃ i, i < w.length ∧ cs.getD i 0 + 1 ≤ hi w p i) ∧
  ∀ i : Nat, i < w.length → cs.getD i 0 + 1 ≤ hi w p i → (∀ j, j < w.length → cs.getD j 0 + 1 ≤ hi w p j → mb w T p i (cs.getD i 0) ≤ mb w T p j (cs.getD j 0)) → RetV (.int i) H Q) : t_soonest K (En Q) (start N_soonest [x, y, z]) H := by
  obtain ⟨w, cs, T, p, hw, hT, hp, hc, hx, rfl, ⟨q, rfl, hq⟩, ⟨i0, hi0, hc0⟩, k⟩ := h
  have l6 := hw.l6
  refine q_asgV (Ex.refl H) ev_c fun H1 r1 => ?_
  refine q_forR1 (n := (w.length : Int)) (ea_cons (ev_lenE (K := K) (ev_var rfl) (sq_of (r1.k q _ hq)) (by rw [len_i, hc])) ea_nil) (by omega)
    (fun j σ' H' => ∃ fv a b, σ' = [some x, some (.int p), some (.ref q), some fv, a, b] ∧ Ex H H' ∧ ((fv = .non ∧ ∀ i, i < j → ¬ cs.getD i 0 + 1 ≤ hi w p i) ∨
      ∃ fp i, fv = .ref fp ∧ SqT K H' fp [.int (mb w T p i (cs.getD i 0) : Nat), .int (i : Nat)] ∧ i < j ∧ i < w.length ∧ cs.getD i 0 + 1 ≤ hi w p i ∧ ∀ i', i' < j → cs.getD i' 0 + 1 ≤ hi w p i' → mb w T p i (cs.getD i 0) ≤ mb w T p i' (cs.getD i' 0)))
    (fun H2 e => ⟨.non, none, none, rfl, r1.k.trans e, Or.inl ⟨rfl, fun i hi => by omega⟩⟩) ?_ ?_
  · rintro j σ' H' hj ⟨fv, a, b, rfl, e, hf⟩
    have hj' : j < w.length := by omega
    have hcj : Ev (tOp (rIxL K) (tVar 2) (tVar 4)) [some x, some (.int p), some (.ref q), some fv, some (.int (j : Int)), b] H' (.int (cs.getD j 0)) := ev_ixL (K := K) (ev_var rfl) (ev_var rfl) (sq_of (e q _ hq)) (ints_get (by omega))
    refine s_ifb (Ex.refl H') (et_test (ev_le (ev_add hcj ev_c) (ev_rng1 (K := K) (up_ hx e) hp hj' (ev_var rfl) (ev_var rfl) (ev_var rfl)))) (fun hb H2 r2 => ?_) (fun hb H2 r2 => ?_)
    · have hcand : cs.getD j 0 + 1 ≤ hi w p j := of_decide_eq_true hb
      have e2 := e.trans r2.k
      refine q_asgV (Ex.refl H2) (v := .int (mb w T p j (cs.getD j 0) : Nat)) (ev_call4 (d1 := RangesD K w T) (ep_var (v := x) rfl (up_ hx e2)) (ev_var (v := .int p) rfl).p (ev_var (v := .int j) rfl).p (hcj.mono r2.k).p fun x1 y1 z1 u1 G3 H3 a1 a2 d1 d2 d3 d4 Q E q3 => ⟨x1, y1, z1, u1, rfl, w, T, p, j, _, hT, hp, hj', up_ d1 a2, d2, d3, d4, q3⟩) fun H3 r3 => ?_
      have e3 := e2.trans r3.k
      rcases hf with ⟨rfl, hno⟩ | ⟨fp, i, rfl, hfp, hij, hiw, hci, hmin⟩
      · refine s_ifb (Ex.refl H3) (et_or (a := true) (b := true) (et_test (ev_bl (ev_isN (ev_var rfl)) (decide_eq_true rfl))) (fun e => nomatch e)) (fun _ H4 r4 => ?_) (fun e => nomatch e)
        refine s_asgU (eu_tup (ea_cons (ev_var rfl) (ea_cons (ev_var rfl) ea_nil)) (by show 2 ≤ 100000; decide)) fun fp H5 _ e5 hfp => ?_
        refine ⟨.ref fp, some (.int j), some (.int (mb w T p j (cs.getD j 0) : Nat)), rfl, (e3.trans r4.k).trans e5, Or.inr ⟨fp, j, rfl, st_of hfp, by omega, hj', hcand, fun i' h1 h2 => ?_⟩⟩
        by_cases c : i' = j
        · rw [c]; exact Nat.le_refl _
        · exact absurd h2 (hno i' (by omega))
      · have hfp3 := ex_t (r2.k.trans r3.k) hfp
        refine s_ifb (Ex.refl H3) (et_or (a := false) (et_test (ev_bl (ev_isN (ev_var rfl)) (decide_eq_false (fun e => by cases e)))) fun _ => et_test (ev_lt (ev_var rfl) (ev_ixT0 (K := K) (ev_var rfl) hfp3))) (fun hb2 H4 r4 => ?_) (fun hb2 H4 r4 => ?_)
        · have hlt : mb w T p j (cs.getD j 0) < mb w T p i (cs.getD i 0) := by
            have := of_decide_eq_true (by simpa using hb2 : decide (((mb w T p j (cs.getD j 0) : Nat) : Int) < ((mb w T p i (cs.getD i 0) : Nat) : Int)) = true)
            omega
          refine s_asgU (eu_tup (ea_cons (ev_var rfl) (ea_cons (ev_var rfl) ea_nil)) (by show 2 ≤ 100000; decide)) fun fp2 H5 _ e5 hfp2 => ?_
          refine ⟨.ref fp2, some (.int j), some (.int (mb w T p j (cs.getD j 0) : Nat)), rfl, (e3.trans r4.k).trans e5, Or.inr ⟨fp2, j, rfl, st_of hfp2, by omega, hj', hcand, fun i' h1 h2 => ?_⟩⟩
          by_cases c : i' = j
          · rw [c]; exact Nat.le_refl _
          · have := hmin i' (by omega) h2
            omega
        · have hle : mb w T p i (cs.getD i 0) ≤ mb w T p j (cs.getD j 0) := by
            have := of_decide_eq_false (by simpa using hb2 : decide (((mb w T p j (cs.getD j 0) : Nat) : Int) < ((mb w T p i (cs.getD i 0) : Nat) : Int)) = false)
            omega
          refine ⟨.ref fp, some (.int j), some (.int (mb w T p j (cs.getD j 0) : Nat)), rfl, e3.trans r4.k, Or.inr ⟨fp, i, rfl, ex_t r4.k hfp3, by omega, hiw, hci, fun i' h1 h2 => ?_⟩⟩
          by_cases c : i' = j
          · rw [c]; exact hle
          · exact hmin i' (by omega) h2
    · have hnc : ¬ cs.getD j 0 + 1 ≤ hi w p j := of_decide_eq_false hb
      refine ⟨fv, some (.int j), b, rfl, e.trans r2.k, ?_⟩
      rcases hf with ⟨ef, hno⟩ | ⟨fp, i, ef, hfp, hij, hiw, hci, hmin⟩
      · refine Or.inl ⟨ef, fun i hi => ?_⟩
        by_cases c : i = j
        · rw [c]; exact hnc
        · exact hno i (by omega)
      · refine Or.inr ⟨fp, i, ef, ex_t r2.k hfp, by omega, hiw, hci, fun i' h1 h2 => ?_⟩
        by_cases c : i' = j
        · subst c; exact absurd h2 hnc
        · exact hmin i' (by omega) h2
  · rintro σ' H' ⟨fv, a, b, rfl, e, hf⟩
    rw [Int.toNat_natCast] at hf
    rcases hf with ⟨rfl, hno⟩ | ⟨fp, i, rfl, hfp, hij, hiw, hci, hmin⟩
    · exact absurd hc0 (hno i0 hi0)
    · refine q_skip (Ex.refl H') (et_test (ev_bl (ev_isN (ev_var rfl)) (decide_eq_false (fun e => by cases e)))) fun H2 r2 => ?_
      exact s_retV (Ex.refl H2) (ev_ixT1 (K := K) (ev_var rfl) (ex_t r2.k hfp)) ((k i hiw hci fun j hj hcj => hmin j hj hcj).up (e.trans r2.k)).ret
theorem pu_dealt (h : ∃ G w T, Ex G H ∧ Wts w ∧ T ≤ 240 ∧ RangesD K w T x G ∧ y = .int 0 ∧ Ints (List.replicate w.length 0) z G ∧ Ret (Dealt K w T) G H Q) : t_dealt K (En Q) (start N_dealt [x, y, z]) H := by
  obtain ⟨G, w, T, e, hw, hT, hx, rfl, ⟨sp, rfl, hsp⟩, k⟩ := h
  obtain ⟨tp, rows, ex, htp, hln, _⟩ := id hx
  subst ex
  have l6 := hw.l6
  -- counts = list(start); made = []
  refine q_asgH (Ex.refl H) (el_list (K := K) (ev_var rfl) (sq_of (e sp _ hsp))) fun cl H1 n1 r1 hcl => ?_
  refine q_asgH (Ex.refl H1) el_nil fun ml H2 n2 r2 hml => ?_
  have e2 := r1.k.trans r2.k
  have nml : H ml = none := none_back r1.k n2
  have cml : cl ≠ ml := ne_of_none hcl n2
  have hcl2 := r2.k cl _ hcl
  have tooFew : ∀ {σ : L2.St} {H' : Hp} {p : Nat} {cs : List Int} {t : TE}, σ[0]? = some (some (.ref tp)) → σ[3]? = some (some (.ref cl)) → Ev t σ H' (.int p) → Ex G H' → p ≤ T → cs.length = w.length → H' cl = some (.lst (cs.map V.int)) → (∀ i, i < w.length → lo w p i ≤ cs.getD i 0) → Ev (tCall (sp_too_few K) [] E0 (tCons (tVar 0) (tCons t (tCons (tVar 3) tNil)))) σ H' (.bl false) := fun h0 h3 ht eG hp hl hc hh =>
    ev_call3 (d1 := RangesD K w T) (d3 := Ints _) (ep_var h0 (up_ hx eG)) ht.p (ep_var h3 ⟨cl, rfl, hc⟩) fun x1 y1 z1 G3 H3 a1 a2 d1 d2 d3 Q E q3 => ⟨x1, y1, z1, rfl, w, _, T, _, hw, hT, hp, hl, up_ d1 a2, d2, up_ d3 a2, hh, q3⟩
  have tooFar : ∀ {σ : L2.St} {H' : Hp} {p : Nat} {cs : List Int} {t : TE}, σ[0]? = some (some (.ref tp)) → σ[3]? = some (some (.ref cl)) → Ev t σ H' (.int p) → Ex G H' → p ≤ T → cs.length = w.length → H' cl = some (.lst (cs.map V.int)) → (∀ i, i < w.length → cs.getD i 0 ≤ hi w p i) → Ev (tCall (sp_too_far K) [] E0 (tCons (tVar 0) (tCons t (tCons (tVar 3) tNil)))) σ H' (.bl false) := fun h0 h3 ht eG hp hl hc hh =>
    ev_call3 (d1 := RangesD K w T) (d3 := Ints _) (ep_var h0 (up_ hx eG)) ht.p (ep_var h3 ⟨cl, rfl, hc⟩) fun x1 y1 z1 G3 H3 a1 a2 d1 d2 d3 Q E q3 => ⟨x1, y1, z1, rfl, w, _, T, _, hw, hT, hp, hl, up_ d1 a2, d2, up_ d3 a2, hh, q3⟩
  have E0' := einv0 (T := T) hw
  refine q_skip (Ex.refl H2) (et_is (et_or (a := false) (b := false) (et_B (tooFew (p := 0) rfl rfl ev_c (e.trans e2) (by omega) E0'.cl hcl2 fun i hi => einv_few E0' (by omega) hi)) fun _ => et_B (tooFar (p := 0) rfl rfl ev_c (e.trans e2) (by omega) E0'.cl hcl2 E0'.up)) rfl) fun H3 r3 => ?_
  -- for at in range(1, len(table))
  refine q_forR2 (lo := 1) (n := (T : Int) + 1) (ea_cons ev_c (ea_cons (ev_lenE (K := K) (ev_var rfl) (sq_of (r3.k tp _ ((e.trans e2) tp _ htp))) (by omega)) ea_nil)) (by omega)
    (fun j σ' H' => ∃ G' cs row ms a b, Gr G H G' H' ∧ EInv w T j cs row ∧ σ' = [some (.ref tp), some (.int 0), some (.ref sp), some (.ref cl), some (.ref ml), a, b, none] ∧ G' cl = none ∧ G' ml = none ∧ H' cl = some (.lst (cs.map V.int)) ∧ H' ml = some (.lst ms) ∧ ms.length = j ∧
      ∀ t v, ms[t]? = some v → Pr K (Is (.int (row.getD t 0))) AnyD v G')
    (fun H4 e4 => ⟨G, _, [], [], none, none, Gr.of e ((e2.trans r3.k).trans e4), E0', rfl, none_back e n1, none_back e nml, e4 cl _ (r3.k cl _ hcl2), e4 ml _ (r3.k ml _ hml), rfl, fun t v h => by cases h⟩) ?_ ?_
  · rintro j σ' H' hj ⟨G', cs, row, ms, a, b, r, EI, rfl, mc, mm, hc', hm', hlm, hms⟩
    have hj' : j + 1 ≤ T := by omega
    have ej : (1 : Int) + (j : Int) = ((j + 1 : Nat) : Int) := by omega
    refine q_skip (Ex.refl H') (et_B (tooFar (p := j + 1) rfl rfl (ev_int (ev_var rfl) ej) (e.trans r.k) hj' EI.cl hc' fun i hi => einv_far hw EI hi)) fun H4 r4 => ?_
    -- who = soonest(table, at, counts)
    refine ⟨_, rfl, _, rfl, _, rfl, _, _, _, rfl, w, cs, T, j + 1, hw, hT, hj', EI.cl, up_ hx (e.trans (r.k.trans r4.k)), congrArg V.int ej, ⟨cl, rfl, r4.k cl _ hc'⟩, einv_cand hw EI, fun i hiw hci hmin H5 e5 => ?_⟩
    have EI2 := einv_step hw EI hj' hiw hci hmin
    have e45 := r4.k.trans e5
    refine q_skip (Ex.refl H5) (et_test (ev_bl (ev_isN (ev_var rfl)) (decide_eq_false (fun e => by cases e)))) fun H6 r6 => ?_
    have e46 := e45.trans r6.k
    have hc6 := e46 cl _ hc'
    -- counts[who] = counts[who] + 1
    refine q_setP (j := i) (Ex.refl H6) hc6 (ev_add (ev_ixL (K := K) (ev_var rfl) (ev_var rfl) (sq_of hc6) (ints_get (by rw [EI.cl]; exact hiw))) ev_c).p (ev_var rfl) (ev_var rfl) (by rw [List.length_map, EI.cl]; exact hiw) fun v G7 H7 r7 ev => ?_
    cases ev
    rw [← List.map_set]
    have r07 : Gr G H G' H7 := r.trans (Gr.of r.s (e46.trans r7.k))
    have r8 := r07.mut (o := .lst ((cs.set i (cs.getD i 0 + 1)).map V.int)) n1 mc
    have hm8 : (upd H7 cl (.lst ((cs.set i (cs.getD i 0 + 1)).map V.int))) ml = some (.lst ms) := by rw [upd_ne (fun e => cml e.symm)]; exact r7.k ml _ (e46 ml _ hm')
    have hc8 : (upd H7 cl (.lst ((cs.set i (cs.getD i 0 + 1)).map V.int))) cl = some (.lst ((cs.set i (cs.getD i 0 + 1)).map V.int)) := upd_same
    generalize upd H7 cl (.lst ((cs.set i (cs.getD i 0 + 1)).map V.int)) = H8 at *
    -- made.append((who, counts[who]))
    refine q_appU (K := K) hm8 (ev_var rfl) (eu_tup (ea_cons (ev_var rfl) (ea_cons (ev_ixL (K := K) (ev_var rfl) (ev_var rfl) (sq_of hc8) (ints_get (by rw [List.length_set, EI.cl]; exact hiw))) ea_nil)) (by show 2 ≤ 100000; decide)) (by omega) fun tq H9 n9 e9 htq => ?_
    have ntq : H tq = none := none_back r8.k n9
    have r9 := (r8.trans (Gr.of r8.s e9)).add ntq htq
    have tqm : tq ≠ ml := fun e => by rw [e, hm8] at n9; cases n9
    have tqc : tq ≠ cl := fun e => by rw [e, hc8] at n9; cases n9
    have g9m : (upd G' tq (.tup [.int (i : Nat), .int ((cs.set i (cs.getD i 0 + 1)).getD i 0)])) ml = none := by rw [upd_ne (fun e => tqm e.symm)]; exact mm
    have g9c : (upd G' tq (.tup [.int (i : Nat), .int ((cs.set i (cs.getD i 0 + 1)).getD i 0)])) cl = none := by rw [upd_ne (fun e => tqc e.symm)]; exact mc
    have r10 := r9.mut (o := .lst (ms ++ [.ref tq])) nml g9m
    have hc10 : (upd H9 ml (.lst (ms ++ [.ref tq]))) cl = some (.lst ((cs.set i (cs.getD i 0 + 1)).map V.int)) := by rw [upd_ne cml]; exact e9 cl _ hc8
    have hm10 : (upd H9 ml (.lst (ms ++ [.ref tq]))) ml = some (.lst (ms ++ [.ref tq])) := upd_same
    have gtq : (upd G' tq (.tup [.int (i : Nat), .int ((cs.set i (cs.getD i 0 + 1)).getD i 0)])) tq = some (.tup [.int (i : Nat), .int ((cs.set i (cs.getD i 0 + 1)).getD i 0)]) := upd_same
    have eGu : Ex G' (upd G' tq (.tup [.int (i : Nat), .int ((cs.set i (cs.getD i 0 + 1)).getD i 0)])) := ex_new (none_back r8.s n9)
    generalize upd H9 ml (.lst (ms ++ [.ref tq])) = H10 at *
    generalize upd G' tq (.tup [.int (i : Nat), .int ((cs.set i (cs.getD i 0 + 1)).getD i 0)]) = G10 at *
    refine s_skip (Ex.refl H10) (et_B (tooFew (p := j + 1) rfl rfl (ev_int (ev_var rfl) ej) (e.trans r10.k) hj' EI2.cl hc10 fun i hi => einv_few EI2 hj' hi)) fun H11 r11 => ?_
    refine ⟨G10, _, _, ms ++ [.ref tq], some (.int (1 + (j : Int))), some (.int (i : Nat)), r10.trans (Gr.of r10.s r11.k), EI2, rfl, g9c, g9m, r11.k cl _ hc10, r11.k ml _ hm10, by rw [List.length_append, hlm]; rfl, fun t v ht => ?_⟩
    by_cases c : t < ms.length
    · rw [List.getElem?_append_left c] at ht
      have e1 : (row ++ [(i : Int)]).getD t 0 = row.getD t 0 := by
        rw [List.getD_eq_getElem?_getD, List.getD_eq_getElem?_getD, List.getElem?_append_left (by rw [EI.rl]; omega)]
      rw [e1]
      exact up_ (hms t v ht) eGu
    · rw [List.getElem?_append_right (by omega)] at ht
      cases q0 : t - ms.length with
      | zero =>
        rw [q0] at ht
        have et : t = row.length := by rw [EI.rl]; omega
        have ev := Option.some.inj ht
        subst ev
        have e1 : (row ++ [(i : Int)]).getD t 0 = (i : Int) := by
          rw [et, List.getD_eq_getElem?_getD, List.getElem?_append_right (Nat.le_refl _), Nat.sub_self]; rfl
        rw [e1]
        exact ⟨tq, _, _, rfl, st_of gtq, rfl, trivial⟩
      | succ n => rw [q0] at ht; cases ht
  · rintro σ' H' ⟨G', cs, row, ms, a, b, r, EI, rfl, mc, mm, hc', hm', hlm, hms⟩
    have eT : ((T : Int) + 1 - 1).toNat = T := by omega
    rw [eT] at EI hlm
    have hgood := einv_good hw EI
    have rg := r.add nml hm'
    have ug := ex_new (G := G') (p := ml) (o := .lst ms) mm
    have hcomp := em_lcL2 (K := K) (tl := tVar 4) (te := tVar 6) (j := 6) (k := 7) (σ := [some (.ref tp), some (.int 0), some (.ref sp), some (.ref cl), some (.ref ml), a, b, none]) (G := upd G' ml (.lst ms)) (fun t => Is (.int (row.getD t 0))) (ev_var rfl) (sq_of upd_same) (by omega) (fun x y => rfl) fun i z hi => ?_
    · have el : ms.length = row.length := by rw [hlm, EI.rl]
      rw [el] at hcomp
      exact s_retP rg.s (en_pr ev_c.p ((ls_to_ints hcomp.ls).imp fun v G1 _ h => ⟨row, hgood, h⟩)) (k.mono rg)
    · obtain ⟨p2, v0, v1, rfl, hp2, ev0, _⟩ := hms i z hi
      cases ev0
      exact ⟨p2, _, _, rfl, ex_t ug hp2, fun G1 _ => (ev_var rfl).p⟩
theorem pu_kept_by (PC : PlanC K C) (h : ∃ G w T, Ex G H ∧ Wts w ∧ T ≤ 240 ∧ PlanD K C w T x G ∧ Bd K w.sum w.sum y G ∧ Ret (Dealt K w T) G H Q) : t_kept_by K C (En Q) (start N_kept_by [x, y]) H := by
  obtain ⟨G, w, T, e, hw, hT, hx, hy, k⟩ := h
  have hS := wts_sm hw
  have l6 := hw.l6
  have s0 := hS.1
  refine q_dropP e (ev_call1 (v := .non) (ep_var (v := y) rfl hy) fun x G1 H1 e1 e2 dx Q E q => ⟨x, rfl, w.sum, w.sum, hS, by omega, by omega, up_ dx e2, q⟩).p fun v G1 H1 r1 ev => ?_
  obtain ⟨ns, hns, hsum, kp, _⟩ := id hx
  obtain ⟨p, dx, fs, kv, rfl, hp, hk, hm, _⟩ := id kp
  have hmany : Ev (tMeth C "many" (sp_Plan_many K C) [] E0 (tVar 0) tNil) [some (.ref p), some y] G1 (.int w.length) := fun H1 e1 Q1 q1 =>
    ⟨.ref p, rfl, p, dx, fs, rfl, e1 p _ (r1.g p _ hp), hm, ⟨.ref p, rfl, ns, w, hns.1, up_ kp (r1.g.trans e1), q1⟩⟩
  refine s_retP r1.s (ep_call3 (d1 := RangesD K w T) (d3 := Ints (List.replicate w.length 0)) (ep_call2 (ep_var (v := .ref p) rfl (up_ hx r1.g)) (ep_var (v := y) rfl (up_ hy r1.g)) fun x1 y1 G3 H3 a1 a2 d1 d2 Q E q3 => ⟨x1, y1, rfl, G3, w, T, a2, hw, hT, d1, d2, q3⟩) ev_c.p
    ((el_rep (el_lst (ea_cons ev_c ea_nil) (by show 1 ≤ 100000; decide)) hmany (by omega)).p.imp fun v G2 _ ⟨l, ev, hl⟩ => ⟨l, ev, by rw [List.map_replicate]; exact hl⟩) fun x1 y1 z1 G3 H3 a1 a2 d1 d2 d3 Q E q3 => ⟨x1, y1, z1, rfl, G3, w, T, a2, hw, hT, d1, d2, d3, q3⟩) (k.mono r1)
end
end Dt
set_option Elab.async false
set_option linter.all false
set_option maxRecDepth 100000
set_option maxHeartbeats 4000000
/-! Readings: endless rows. -/
namespace Dt
open PySem PySem.Spec PyProof.Rows L2 Evl DtM
section
variable {K : PySem.W.Frag} {x y z u v : V} {G G1 G2 H H' H1 H2 : Hp} {Q : VK} {σ : L2.St} {te ta tb tc td : TE} {E : XK} {D : Ends} {tu tz : TS} {p C dx : Addr} {fs : List (Str × V)} {f : Str} {d : Dsc} {o : HO} {t : TT}
theorem ev_within {a l h : Int} (h1 : l ≤ a) (h2 : a ≤ h) (ha : Ev ta σ G (.int a)) (hl : Ev tb σ G (.int l)) (hh : Ev tc σ G (.int h)) : Ev (tCall sp_is_within [] E (tCons ta (tCons tb (tCons tc tNil)))) σ G (.bl true) :=
  ev_call3 ha.p hl.p hh.p fun x y z G1 H1 e1 e2 d1 d2 d3 Q E q => ⟨x, y, z, rfl, a, l, h, d1, d2, d3, h1, h2, q⟩
theorem bls_of {n : Nat} {b : Nat → Bool} {xs : List V} (h : xs.length = n) (hx : ∀ (i : Nat) (x : V), xs[i]? = some x → x = V.bl (b i)) : xs = ((List.range n).map b).map V.bl := by
  apply List.ext_getElem?
  intro i
  by_cases c : i < xs.length
  · rw [List.getElem?_eq_getElem c, List.getElem?_map, List.getElem?_map, List.getElem?_range (by omega)]
    exact congrArg some (hx i _ (List.getElem?_eq_getElem c))
  · rw [List.getElem?_eq_none (by omega), List.getElem?_eq_none (by rw [List.length_map, List.length_map, List.length_range]; omega)]
theorem ev_allB {n : Nat} {b : Nat → Bool} (h : EvP te σ G (Ls n fun i => Is (.bl (b i)))) : Ev (tCB (rAll K) (tCons te tNil)) σ G (.bl (((List.range n).map b).all id)) :=
  (ep_cb (d := Is (.bl (((List.range n).map b).all id))) (eap1 h) fun vs G1 H1 e1 e2 ⟨x, ev, p, xs, ex, hp, hl, hx⟩ Q q => ⟨p, (List.range n).map b, by rw [ev, ex], by rw [← bls_of hl hx]; exact sq_of (e2 p _ hp), q _ G1 H1 (Gr.refl e2) rfl⟩).val
theorem ev_allT {n : Nat} (h : EvP te σ G (Ls n fun _ => Is (.bl true))) : Ev (tCB (rAll K) (tCons te tNil)) σ G (.bl true) := ev_bl (ev_allB (b := fun _ => true) h) (by simp)
theorem ev_count {q : Addr} {ns : List Int} {k : Int} (ha : Ev ta σ G (.ref q)) (hp : SqL K G q (ns.map V.int)) (hb : Ev tb σ G (.int k)) : Ev (tBM K "list" (rCntI K) ta (tCons tb tNil)) σ G (.int (ns.count k : Nat)) := fun H1 e Q k1 =>
  ha H1 e _ fun H2 e2 => ⟨Or.inl ⟨rfl, _, ex_l (e.trans e2) hp⟩, hb H2 (e.trans e2) _ fun H3 e3 => ⟨q, ns, k, rfl, rfl, ex_l ((e.trans e2).trans e3) hp, k1 H3 (e2.trans e3)⟩⟩
theorem ev_countN {ns : List Int} {k : Int} (ha : EvL ta σ G (ns.map V.int)) (hb : Ev tb σ G (.int k)) : Ev (tBM K "list" (rCntI K) ta (tCons tb tNil)) σ G (.int (ns.count k : Nat)) := fun H1 e Q k1 =>
  ha H1 e _ fun q H2 n e2 hq => ⟨Or.inl ⟨rfl, _, sq_of hq⟩, hb H2 (e.trans e2) _ fun H3 e3 => ⟨q, ns, k, rfl, rfl, sq_of (e3 q _ hq), k1 H3 (e2.trans e3)⟩⟩
theorem cut_take (xs : List V) (k : Nat) : cutV xs none (some (k : Int)) = xs.take k := by
  unfold cutV
  rw [HT.sIx_none, HT.sIx_nat, List.drop_zero, Nat.sub_zero]
  by_cases c : k ≤ xs.length
  · rw [Nat.min_eq_left c]
  · rw [Nat.min_eq_right (by omega), List.take_of_length_le (Nat.le_refl _), List.take_of_length_le (by omega)]
theorem cut_drop (xs : List V) (k : Nat) : cutV xs (some (k : Int)) none = xs.drop k := by
  unfold cutV
  rw [HT.sIx_none, HT.sIx_nat]
  by_cases c : k ≤ xs.length
  · rw [Nat.min_eq_left c, List.take_of_length_le (by rw [List.length_drop]; exact Nat.le_refl _)]
  · rw [Nat.min_eq_right (by omega), List.drop_eq_nil_of_le (Nat.le_refl _), List.drop_eq_nil_of_le (by omega)]
    simp
theorem el_take {q : Addr} {ns : List Int} {k : Nat} (ha : Ev ta σ G (.ref q)) (hp : SqL K G q (ns.map V.int)) (hb : Ev tb σ G (.int k)) : EvL (tSl (rSlL K) ta tNoPart (tPart tb)) σ G ((ns.take k).map V.int) := by
  have := el_sl (K := K) ha eo_none (eo_some hb) hp
  rw [cut_take, ← List.map_take] at this
  exact this
theorem el_drop {q : Addr} {ns : List Int} {k : Nat} (ha : Ev ta σ G (.ref q)) (hp : SqL K G q (ns.map V.int)) (hb : Ev tb σ G (.int k)) : EvL (tSl (rSlL K) ta (tPart tb) tNoPart) σ G ((ns.drop k).map V.int) := by
  have := el_sl (K := K) ha (eo_some hb) eo_none hp
  rw [cut_drop, ← List.map_drop] at this
  exact this
theorem q_while0 (h : EvT t σ H false) (k : ∀ H1, Ex H H1 → tz D σ H1) : tSeq (tWhile t tu) tz D σ H :=
  q_while (fun _ σ' H' => σ' = σ ∧ H' = H) 0 ⟨rfl, rfl⟩ fun m σ' H' ⟨e1, e2⟩ => by
    subst e1 e2
    exact ⟨false, h, (fun e => nomatch e), fun _ => k⟩
theorem pu_is_within (h : ∃ a l h : Int, x = .int a ∧ y = .int l ∧ z = .int h ∧ l ≤ a ∧ a ≤ h ∧ RetV (.bl true) H Q) : t_is_within (En Q) (start N_is_within [x, y, z]) H := by
  obtain ⟨a, l, hh, rfl, rfl, rfl, h1, h2, k⟩ := h
  refine s_retV (Ex.refl H) (ev_andV (a := true) (b := true) (ev_whole (ev_var rfl)) fun _ => ev_bl (ev_chain (ev_var rfl) (ev_var rfl) (ev_var rfl) rv_le rv_le) ?_) k.ret
  rw [decide_eq_true h1, decide_eq_true h2]; rfl
theorem pu_are_claimants (h : ∃ (row : List Int) (m : Int), row.length ≤ 10000 ∧ Ints row x H ∧ y = .int m ∧ (∀ a ∈ row, 0 ≤ a ∧ a ≤ m - 1) ∧ RetV (.bl true) H Q) : t_are_claimants K (En Q) (start N_are_claimants [x, y]) H := by
  obtain ⟨row, m, hl, ⟨p, rfl, hp⟩, rfl, hr, k⟩ := h
  have hc := em_lcL (K := K) (tl := tVar 0) (j := 2) (σ := [some (.ref p), some (.int m), none]) (G := H) (te := tCall sp_is_within [] E0 (tCons (tVar 2) (tCons (tC (.int 0)) (tCons (tOp rSubI (tVar 1) (tC (.int 1))) tNil)))) (fun _ => Is (.bl true)) (ev_var rfl) (sq_of hp) (by rw [List.length_map]; omega) (fun x => rfl) fun i v G1 e1 hi => ?_
  · exact s_retV (Ex.refl H) (ev_andV (a := true) (b := true) (ev_isi (n := "list") (ev_var rfl) (fun H1 e => ty_lst (e p _ hp)) (by decide +kernel)) fun _ => ev_allT hc.ls) k.ret
  · obtain ⟨a, ha, rfl⟩ := ints_at hi
    have := hr a (List.mem_of_getElem? ha)
    exact (ev_within this.1 this.2 (ev_var rfl) ev_c (ev_sub (ev_var rfl) ev_c)).p
theorem ev_areC {row : List Int} {m : Int} (hl : row.length ≤ 10000) (hr : ∀ a ∈ row, 0 ≤ a ∧ a ≤ m - 1) (h1 : EvP ta σ G (Ints row)) (h2 : Ev tb σ G (.int m)) : Ev (tCall sp_are_claimants [] E (tCons ta (tCons tb tNil))) σ G (.bl true) :=
  ev_call2 h1 h2.p fun x y G1 H1 e1 e2 d1 d2 Q E q => ⟨x, y, rfl, row, m, hl, up_ d1 e2, d2, hr, q⟩
theorem pu_is_running (h : ∃ lap, LapOk lap ∧ RunD K lap x H ∧ RetV (.bl true) H Q) : t_is_running K (En Q) (start N_is_running [x]) H := by
  obtain ⟨lap, ⟨l0, l1, l2⟩, ⟨p, v0, v1, rfl, hp, d0, d1⟩, k⟩ := h
  refine q_skip (Ex.refl H) (et_is (et_or (a := false) (b := false) (et_not (a := true) (et_B (ev_isi (n := "tuple") (ev_var rfl) (fun H1 e => ty_tup (ex_t e hp)) (by decide +kernel)))) fun _ => et_is (et_or (a := false) (b := false) (et_test (ev_bl (ev_neI (ev_lenT (ev_var rfl) hp) ev_c) rfl)) fun _ => et_not (a := true) (et_B (ev_areC (row := []) (by simp) (fun a h => by cases h) ((ev_ixT0 (K := K) (ev_var rfl) hp).dsc d0) ev_c))) rfl) rfl) fun H1 r1 => ?_
  have hp1 := ex_t r1.k hp
  have d1' := up_ d1 r1.k
  obtain ⟨q, rfl, hq⟩ := id d1'
  exact s_retV (Ex.refl H1) (ev_andV (a := true) (b := true) (ev_areC l1 (fun a ha => by have := l2 a ha; omega) ((ev_ixT1 (K := K) (ev_var rfl) hp1).dsc d1') ev_c) fun _ => ev_bl (ev_gt (ev_lenE (K := K) (ev_ixT1 (K := K) (ev_var rfl) hp1) (sq_of hq) (len_i lap)) ev_c) (decide_eq_true (by omega))) (k.up r1.k).ret
theorem pu_check_running (h : ∃ lap, LapOk lap ∧ RunD K lap x H ∧ RetV .non H Q) : t_check_running K (En Q) (start N_check_running [x]) H := by
  obtain ⟨lap, hl, hr, k⟩ := h
  exact s_skip (Ex.refl H) (et_not (a := true) (et_B (ev_call1 (ep_var (v := x) rfl hr) fun x1 G1 H1 e1 e2 d1 Q E q => ⟨x1, rfl, lap, hl, up_ d1 e2, q⟩))) fun H1 r1 => k H1 r1.k
theorem pu_check_claimant (h : ∃ a m : Int, x = .int a ∧ y = .int m ∧ 0 ≤ a ∧ a ≤ m - 1 ∧ RetV .non H Q) : t_check_claimant (En Q) (start N_check_claimant [x, y]) H := by
  obtain ⟨a, m, rfl, rfl, h1, h2, k⟩ := h
  exact s_skip (Ex.refl H) (et_not (a := true) (et_B (ev_within h1 h2 (ev_var rfl) ev_c (ev_sub (ev_var rfl) ev_c)))) fun H1 r1 => k H1 r1.k
theorem pu_check_number (h : ∃ a m : Int, x = .int a ∧ y = .int m ∧ m ≤ a ∧ a ≤ FARI ∧ RetV .non H Q) : t_check_number (En Q) (start N_check_number [x, y]) H := by
  obtain ⟨a, m, rfl, rfl, h1, h2, k⟩ := h
  exact s_skip (Ex.refl H) (et_not (a := true) (et_B (ev_within h1 h2 (ev_var rfl) (ev_var rfl) ev_c))) fun H1 r1 => k H1 r1.k
theorem ev_checkR {lap : List Int} (hl : LapOk lap) (h : EvP ta σ G (RunD K lap)) : Ev (tCall (sp_check_running K) [] E (tCons ta tNil)) σ G .non :=
  ev_call1 h fun x1 G1 H1 e1 e2 d1 Q E q => ⟨x1, rfl, lap, hl, up_ d1 e2, q⟩
theorem pu_count_in (h : ∃ (lap : List Int) (i t : Int), LapOk lap ∧ RunD K lap x H ∧ y = .int i ∧ z = .int t ∧ 0 ≤ t ∧ RetV (.int (cntE lap i t)) H Q) : t_count_in K (En Q) (start N_count_in [x, y, z]) H := by
  obtain ⟨lap, i, t, ⟨l0, l1, l2⟩, ⟨p, v0, v1, rfl, hp, ⟨hq, rfl, hh⟩, ⟨lq, rfl, hl⟩⟩, rfl, rfl, ht, k⟩ := h
  refine ⟨.ref p, rfl, p, [.ref hq, .ref lq], rfl, hp, rfl, _, [_], rfl, _, [], rfl, rfl, ?_⟩
  have hh0 : H hq = some (.lst (([] : List Int).map V.int)) := hh
  refine q_ifb (Ex.refl H) (et_test (ev_le (ev_var rfl) (ev_lenE (K := K) (ev_var rfl) (sq_of hh) (show ((([] : List Int).map V.int).length : Int) = 0 from rfl)))) (fun hb H1 r1 => ?_) (fun hb H1 r1 => ?_)
  · have t0 : t = 0 := by have := of_decide_eq_true hb; omega
    subst t0
    have ec : cntE lap i 0 = 0 := by unfold cntE; simp
    rw [ec] at k
    exact s_retV (Ex.refl H1) (ev_int (ev_countN (K := K) (ns := ([] : List Int).take 0) (el_take (K := K) (k := 0) (ev_var rfl) (sq_of (r1.k hq _ hh0)) (ev_var rfl)) (ev_var rfl)) (by simp)) (k.up r1.k).ret
  · refine q_asgV (Ex.refl H1) (ev_sub (ev_var rfl) (ev_lenE (K := K) (ev_var rfl) (sq_of (r1.k hq _ hh)) (show ((([] : List Int).map V.int).length : Int) = 0 from rfl))) fun H2 r2 => ?_
    have e2 := r1.k.trans r2.k
    have hlen : Ev (tCB (rLenS K) (tCons (tVar 5) tNil)) [some (.ref p), some (.int i), some (.int t), some (.int (t - 0)), some (.ref hq), some (.ref lq)] H2 (.int lap.length) := ev_lenE (K := K) (ev_var rfl) (sq_of (e2 lq _ hl)) (len_i lap)
    have hlp : (0 : Int) < lap.length := by omega
    have hm0 := Int.emod_nonneg (t - 0) (b := (lap.length : Int)) (by omega)
    have hm : (((t - 0) % (lap.length : Int)).toNat : Int) = (t - 0) % lap.length := by omega
    refine s_retV (Ex.refl H2) (ev_int (ev_add (ev_add (ev_count (K := K) (ns := []) (ev_var rfl) (sq_of (e2 hq _ hh0)) (ev_var rfl)) (ev_mul (ev_div (ev_var rfl) hlen hlp (by omega)) (ev_count (K := K) (ev_var rfl) (sq_of (e2 lq _ hl)) (ev_var rfl)) (cmul_r (by omega) (by have := List.count_le_length (a := i) (l := lap); omega))))
      (ev_countN (K := K) (ns := lap.take ((t - 0) % lap.length).toNat) (el_take (K := K) (ev_var rfl) (sq_of (e2 lq _ hl)) (ev_int (ev_mod (ev_var rfl) hlen hlp) hm.symm)) (ev_var rfl))) ?_) (k.up e2).ret
    unfold cntE
    simp
theorem ev_countE {lap : List Int} {i t : Int} (hl : LapOk lap) (ht : 0 ≤ t) (h1 : EvP ta σ G (RunD K lap)) (h2 : Ev tb σ G (.int i)) (h3 : Ev tc σ G (.int t)) : Ev (tCall (sp_count_in K) [] E (tCons ta (tCons tb (tCons tc tNil)))) σ G (.int (cntE lap i t)) :=
  ev_call3 h1 h2.p h3.p fun x y z G1 H1 e1 e2 d1 d2 d3 Q E q => ⟨x, y, z, rfl, lap, i, t, hl, up_ d1 e2, d2, d3, ht, q⟩
theorem pu_count_at (h : ∃ (lap : List Int) (i t : Int), LapOk lap ∧ RunD K lap x H ∧ y = .int i ∧ z = .int t ∧ 0 ≤ i ∧ i ≤ 5 ∧ 0 ≤ t ∧ t ≤ FARI ∧ RetV (.int (cntE lap i t)) H Q) : t_count_at K (En Q) (start N_count_at [x, y, z]) H := by
  obtain ⟨lap, i, t, hl, hr, rfl, rfl, h1, h2, h3, h4, k⟩ := h
  refine q_dropP (Ex.refl H) (ev_checkR (K := K) hl (ep_var (v := x) rfl hr)).p fun _ G1 H1 r1 _ => ?_
  refine q_dropP (Ex.refl H1) (ev_call2 (v := .non) (ev_var (v := .int i) rfl).p ev_c.p fun x1 y1 G1 H1 e1 e2 d1 d2 Q E q => ⟨x1, y1, rfl, i, 6, d1, d2, h1, by omega, q⟩).p fun _ G2 H2 r2 _ => ?_
  refine q_dropP (Ex.refl H2) (ev_call2 (v := .non) (ev_var (v := .int t) rfl).p ev_c.p fun x1 y1 G1 H1 e1 e2 d1 d2 Q E q => ⟨x1, y1, rfl, t, 0, d1, d2, h3, h4, q⟩).p fun _ G3 H3 r3 _ => ?_
  have e3 := (r1.k.trans r2.k).trans r3.k
  exact s_retV (Ex.refl H3) (ev_countE (K := K) hl h3 (ep_var (v := x) rfl (up_ hr e3)) (ev_var rfl) (ev_var rfl)) (k.up e3).ret
theorem el_repG {xs : List V} {n : Nat} (ha : EvL ta σ G xs) (hb : Ev tb σ G (.int n)) (hn : xs.length * n ≤ 100000) (hn2 : n ≤ 100000) : EvL (tOp rRep ta tb) σ G (List.replicate n xs).flatten := fun H1 e Q q =>
  ha H1 e _ fun p H2 n1 e2 hp => hb H2 (e.trans e2) _ fun H3 e3 => ⟨p, n, xs, rfl, rfl, e3 p _ hp, by omega, by omega, by
    rw [Int.toNat_natCast]; exact sz_of hn, fun l hl => q l _ (none_back (e2.trans e3) hl) ((e2.trans e3).trans (Ex.new hl)) upd_same⟩
theorem rep_map {l : List Int} (n : Nat) : (List.replicate n (l.map V.int)).flatten = ((List.replicate n l).flatten).map V.int := by
  rw [List.map_flatten, List.map_replicate]
theorem rep_len {l : List Int} (n : Nat) : ((List.replicate n l).flatten).length = n * l.length := by
  rw [List.length_flatten, List.map_replicate, List.sum_replicate_nat]
theorem pu_root_of (h : ∃ G lap, Ex G H ∧ LapOk lap ∧ Ints lap x G ∧ Ret (ExI (RootP lap)) G H Q) : t_root_of K (En Q) (start N_root_of [x]) H := by
  obtain ⟨G, lap, e, ⟨l0, l1, l2⟩, ⟨p, rfl, hp⟩, k⟩ := h
  refine q_asgV e ev_c fun H1 r1 => ?_
  refine q_while (fun m σ' H' => ∃ s : Nat, 1 ≤ s ∧ s ≤ lap.length ∧ σ' = [some (.ref p), some (.int s)] ∧ Gr G H G H' ∧ m = lap.length - s) _ ⟨1, by omega, by omega, rfl, r1, rfl⟩ ?_
  rintro m σ' H' ⟨s, s1, s2, rfl, r, rfl⟩
  have hdiv : ((lap.length : Int) / (s : Int)) = ((lap.length / s : Nat) : Int) := by omega
  have hmul : s * (lap.length / s) ≤ lap.length := Nat.mul_div_le ..
  have hrep : EvL (tOp rRep (tSl (rSlL K) (tVar 0) tNoPart (tPart (tVar 1))) (tOp rDivI (tCB (rLenS K) (tCons (tVar 0) tNil)) (tVar 1))) [some (.ref p), some (.int s)] H' (((List.replicate (lap.length / s) (lap.take s)).flatten).map V.int) := by
    rw [← rep_map]
    refine el_repG (el_take (K := K) (ev_var rfl) (sq_of (r.e p _ hp)) (ev_var rfl)) (ev_int (ev_div (ev_lenE (K := K) (ev_var rfl) (sq_of (r.e p _ hp)) (len_i lap)) (ev_var rfl) (by omega) (by omega)) hdiv) ?_ ?_
    · rw [List.length_map, List.length_take, Nat.min_eq_left s2]; omega
    · have := Nat.div_le_self lap.length s; omega
  refine ⟨_, et_test (ev_opL1 hrep (fun H2 _ => ev_var rfl) fun q H2 hq e2 => rv_neL (K := K) (sq_of hq) (sq_of (e2 p _ (r.e p _ hp)))), fun hb H2 e2 => ?_, fun hb H2 e2 => ?_⟩
  · have hne : (List.replicate (lap.length / s) (lap.take s)).flatten ≠ lap := by simpa using hb
    have sl : s < lap.length := by
      rcases Nat.lt_or_ge s lap.length with c | c
      · exact c
      · have es : s = lap.length := by omega
        refine absurd ?_ hne
        rw [es, Nat.div_self l0, List.take_of_length_le (Nat.le_refl _)]
        simp
    refine ⟨fun σ2 H3 => σ2 = [some (.ref p), some (.int ((s : Int) + 1))] ∧ Gr G H G H3, fun σ2 H3 ⟨e3, r3⟩ => ⟨lap.length - (s + 1), by omega, s + 1, by omega, by omega, e3, r3, rfl⟩, ?_⟩
    exact s_aug (a := (s : Int)) (b := 1) rfl ev_c fun H3 e3 => ⟨rfl, r.trans (Gr.of r.s (e2.trans e3))⟩
  · have heq : (List.replicate (lap.length / s) (lap.take s)).flatten = lap := by simpa using hb
    have hd : s ∣ lap.length := by
      have := congrArg List.length heq
      rw [rep_len, List.length_take, Nat.min_eq_left s2] at this
      exact ⟨lap.length / s, by rw [Nat.mul_comm]; exact this.symm⟩
    have r2 := r.trans (Gr.of r.s e2)
    exact s_retP r2.s ((el_take (K := K) (ev_var rfl) (sq_of hp) (ev_var rfl)).p.imp fun v G1 _ h => ⟨lap.take s, ⟨s, by omega, hd, rfl⟩, h⟩) (k.mono r2)
theorem pu_least_of (h : ∃ G lap, Ex G H ∧ LapOk lap ∧ RunD K lap x G ∧ Ret (Pr K (Ints []) (ExI (RootP lap))) G H Q) : t_least_of K (En Q) (start N_least_of [x]) H := by
  obtain ⟨G, lap, e, hl, hx, k⟩ := h
  obtain ⟨p, v0, v1, rfl, hp, ⟨hq, rfl, hh⟩, ⟨lq, rfl, hlq⟩⟩ := id hx
  refine q_dropP e (ev_checkR (K := K) hl (ep_var (v := .ref p) rfl hx)).p fun _ G1 H1 r1 _ => ?_
  refine q_asgP r1.s (el_list (K := K) (ev_ixT0 (K := K) (ev_var rfl) (ex_t r1.g hp)) (sq_of (r1.g hq _ hh))).p fun hv G2 H2 r2 dh => ?_
  refine q_asgP r2.s (ep_call1 (d1 := Ints lap) (el_list (K := K) (ev_ixT1 (K := K) (ev_var rfl) (ex_t (r1.g.trans r2.g) hp)) (sq_of ((r1.g.trans r2.g) lq _ hlq))).p fun x1 G3 H3 e1 e2 d1 Q E q => ⟨x1, rfl, G3, lap, e2, hl, d1, q⟩) fun lv G3 H3 r3 dl => ?_
  have dh3 := up_ dh r3.g
  obtain ⟨h2, eh, hh2⟩ := id (up_ dh3 r3.s)
  cases eh
  have hh3 : H3 h2 = some (.lst (([] : List Int).map V.int)) := hh2
  refine q_while0 (et_is (et_and (a := false) (b := false) (et_test (ev_bl (ev_opL (ev_var rfl) el_nil fun q H4 hq e4 => rv_neL (K := K) (ns := []) (ms := []) (sq_of (e4 h2 _ hh3)) (sq_of hq)) (by rfl))) fun e => nomatch e) rfl) fun H4 e4 => ?_
  have r4 := ((r1.trans r2).trans r3).trans (Gr.of r3.s e4)
  exact s_retP r4.s (en_pr (ep_var rfl dh3) (ep_var rfl dl)) (k.mono r4)
end
end Dt
set_option Elab.async false
set_option linter.all false
/-! Plain mathematics for law k49: rounds. -/
namespace DtM
theorem gcdF_dvd (w : List Int) : ∀ g : Int, (w.foldl (fun g x => (Int.gcd g x : Int)) g ∣ g) ∧ ∀ x ∈ w, w.foldl (fun g x => (Int.gcd g x : Int)) g ∣ x := by
  induction w with
  | nil => intro g; exact ⟨Int.dvd_refl g, fun x h => by cases h⟩
  | cons a w ih =>
    intro g
    obtain ⟨h1, h2⟩ := ih (Int.gcd g a : Int)
    refine ⟨Int.dvd_trans h1 (Int.gcd_dvd_left ..), fun x hx => ?_⟩
    rcases List.mem_cons.mp hx with rfl | hx
    · exact Int.dvd_trans h1 (Int.gcd_dvd_right ..)
    · exact h2 x hx
theorem gcdF_max (w : List Int) : ∀ (g d : Int), d ∣ g → (∀ x ∈ w, d ∣ x) → d ∣ w.foldl (fun g x => (Int.gcd g x : Int)) g := by
  induction w with
  | nil => intro g d h _; exact h
  | cons a w ih =>
    intro g d h hx
    exact ih _ d (Int.dvd_coe_gcd h (hx a List.mem_cons_self)) fun x hx' => hx x (List.mem_cons_of_mem _ hx')
theorem gcdF_nn (w : List Int) : ∀ g : Int, 0 ≤ g → 0 ≤ w.foldl (fun g x => (Int.gcd g x : Int)) g := by
  induction w with
  | nil => intro g h; exact h
  | cons a w ih => intro g _; exact ih _ (Int.natCast_nonneg _)
section
variable {w : List Int}
theorem gcdL_dvd {x : Int} (h : x ∈ w) : gcdL w ∣ x := (gcdF_dvd w 0).2 x h
theorem gcdL_max {d : Int} (h : ∀ x ∈ w, d ∣ x) : d ∣ gcdL w := gcdF_max w 0 d (Int.dvd_zero d) h
theorem sum_dvd {d : Int} : ∀ {l : List Int}, (∀ x ∈ l, d ∣ x) → d ∣ l.sum
  | [], _ => by simp
  | a :: l, h => by
    rw [List.sum_cons]
    exact Int.dvd_add (h a List.mem_cons_self) (sum_dvd fun x hx => h x (List.mem_cons_of_mem _ hx))
theorem gcdL_sum : gcdL w ∣ w.sum := sum_dvd fun _ h => gcdL_dvd h
theorem gcdL_pos (hw : Wts w) : 0 < gcdL w := by
  have h := gcdF_nn w 0 (Int.le_refl 0)
  have h2 : 0 ≤ gcdL w := h
  rcases Int.lt_or_eq_of_le h2 with c | c
  · exact c
  · have := gcdL_sum (w := w)
    rw [← c] at this
    have := Int.zero_dvd.mp this
    have := hw.ps
    omega
theorem gcdL_le (hw : Wts w) : gcdL w ≤ w.sum := Int.le_of_dvd hw.ps gcdL_sum
/-- a greatest weight -/
theorem pos_wt (hw : Wts w) : ∃ x ∈ w, 0 < x := by
  apply Classical.byContradiction
  intro n
  have : ∀ l : List Int, (∀ x ∈ l, x ≤ 0) → l.sum ≤ 0 := fun l => by
    induction l with
    | nil => intro _; simp
    | cons a l ih =>
      intro h
      rw [List.sum_cons]
      have := ih fun x hx => h x (List.mem_cons_of_mem _ hx)
      have := h a List.mem_cons_self
      omega
  have h := this w fun x hx => by
    rcases Int.lt_or_le 0 x with c | c
    · exact absurd ⟨x, hx, c⟩ n
    · exact c
  have := hw.ps
  omega
/-- the round -/
theorem round_mul (hw : Wts w) {T : Nat} (h : w.sum / gcdL w = (T : Int)) : (T : Int) * gcdL w = w.sum := by
  rw [← h]
  exact Int.ediv_mul_cancel gcdL_sum
theorem round_pos (hw : Wts w) {T : Nat} (h : w.sum / gcdL w = (T : Int)) : 0 < T ∧ T ≤ 174 := by
  have a := round_mul hw h
  have p := gcdL_pos hw
  have s := hw.ps
  have ss := hw.ss
  have t0 : 0 < T := by
    rcases Nat.eq_zero_or_pos T with c | c
    · subst c; simp at a; omega
    · exact c
  have m := Int.mul_le_mul_of_nonneg_left (a := 1) (b := gcdL w) (c := (T : Int)) (by omega) (by omega)
  omega
/-- behind a round each due is whole -/
theorem round_due (hw : Wts w) {T : Nat} (h : w.sum / gcdL w = (T : Int)) {i : Nat} (hi : i < w.length) : ∃ k : Int, (T : Int) * wt w i = k * w.sum := by
  have e : w[i]? = some (w.getD i 0) := by simp [List.getD_eq_getElem?_getD, List.getElem?_eq_getElem hi]
  obtain ⟨k, hk⟩ := gcdL_dvd (List.mem_of_getElem? e)
  refine ⟨k, ?_⟩
  show (T : Int) * w.getD i 0 = k * w.sum
  rw [hk, ← round_mul hw h]
  rw [Int.mul_comm k, Int.mul_assoc]
/-- a good row of a round has each claimant just as often as its due is -/
theorem good_whole (hw : Wts w) {T : Nat} (h : w.sum / gcdL w = (T : Int)) {row : List Int} (g : GoodRow w T row) {i : Nat} (hi : i < w.length) : lagN w row i T = 0 := by
  obtain ⟨k, hk⟩ := round_due hw h hi
  obtain ⟨a, b⟩ := g.lag T i (Nat.le_refl T) hi
  unfold lagN at a b ⊢
  rw [hk, ← Int.sub_mul] at a b ⊢
  have s := hw.ps
  have z : k - cnt row T i = 0 := by
    generalize k - cnt row T i = z at a b
    rcases Int.lt_trichotomy z 0 with c | c | c
    · have := Int.mul_le_mul_of_nonneg_right (a := z) (b := -1) (c := w.sum) (by omega) (by omega)
      omega
    · exact c
    · have := Int.mul_le_mul_of_nonneg_right (a := 1) (b := z) (c := w.sum) (by omega) (by omega)
      omega
  rw [z, Int.zero_mul]
end
theorem cntE_lt {lap : List Int} {i t : Nat} (h : t < lap.length) : cntE lap i t = cnt lap t i := by
  unfold cntE cnt
  rw [Int.ediv_eq_zero_of_lt (by omega) (by omega), Int.emod_eq_of_lt (by omega) (by omega), Int.zero_mul, Int.zero_add, Int.toNat_natCast]
theorem cnt_all (lap : List Int) (i : Nat) : cnt lap lap.length i = (lap.count (i : Int) : Nat) := by
  unfold cnt
  rw [List.take_of_length_le (Nat.le_refl _)]
end DtM
set_option Elab.async false
set_option linter.all false
set_option maxRecDepth 100000
set_option maxHeartbeats 4000000
/-! Readings: weights that stand for ever. -/
namespace Dt
open PySem PySem.Spec PyProof.Rows L2 Evl DtM
section
variable {K : PySem.W.Frag} {x y z u v : V} {G G1 G2 H H' H1 H2 : Hp} {Q : VK} {σ : L2.St} {te ta tb tc td : TE} {E : XK} {D : Ends} {tu tz : TS} {p C dx : Addr} {fs : List (Str × V)} {f : Str} {d : Dsc} {o : HO} {t : TT}
theorem ev_checkW {w : List Int} (hw : Wts w) (h : EvP ta σ G (Ints w)) : Ev (tCall sp_check_weights [] E (tCons ta tNil)) σ G .non :=
  ev_call1 h fun x1 G1 H1 e1 e2 d1 Q E q => ⟨x1, rfl, w, hw, up_ d1 e2, q⟩
theorem ev_checkB {S m : Int} (hS : Sm S) (m0 : 0 ≤ m) (m1 : m ≤ 300 * S) (h : EvP ta σ G (Bd K S m)) : Ev (tCall (sp_check_bound K) [] E (tCons ta tNil)) σ G .non :=
  ev_call1 h fun x1 G1 H1 e1 e2 d1 Q E q => ⟨x1, rfl, S, m, hS, m0, m1, up_ d1 e2, q⟩
theorem pu_check_weights (h : ∃ w, Wts w ∧ Ints w x H ∧ RetV .non H Q) : t_check_weights (En Q) (start N_check_weights [x]) H := by
  obtain ⟨w, hw, hx, k⟩ := h
  exact s_skip (Ex.refl H) (et_not (a := true) (et_B (ev_areW hw (ep_var (v := x) rfl hx)))) fun H1 r1 => k H1 r1.k
theorem el_cat {p q : Addr} {xs ys : List V} (ha : Ev ta σ G (.ref p)) (hb : Ev tb σ G (.ref q)) (hp : G p = some (.lst xs)) (hq : G q = some (.lst ys)) (hl : xs.length + ys.length ≤ 100000) : EvL (tOp rCat ta tb) σ G (xs ++ ys) := fun H1 e Q k =>
  ha H1 e _ fun H2 e2 => hb H2 (e.trans e2) _ fun H3 e3 => ⟨p, q, xs, ys, rfl, rfl, ((e.trans e2).trans e3) p _ hp, ((e.trans e2).trans e3) q _ hq, sz_of hl, fun l hl => k l _ (none_back (e2.trans e3) hl) ((e2.trans e3).trans (Ex.new hl)) upd_same⟩
def MaxD (ns : List Int) : Dsc := fun v _ => ∃ m, m ∈ ns ∧ (∀ y, y ∈ ns → y ≤ m) ∧ v = .int m
instance (ns : List Int) : Up (MaxD ns) := ⟨fun _ _ _ _ h => h⟩
theorem ep_maxN {ns : List Int} (h : EvL te σ G (ns.map V.int)) (hl : 0 < ns.length) : EvP (tCB (rMax K) (tCons te tNil)) σ G (MaxD ns) := fun H1 e Q q =>
  h H1 e _ fun p H2 n e2 hp => ⟨p, ns, rfl, sq_of hp, hl, fun m hm hle => q _ G H2 (Gr.of e e2) ⟨m, hm, hle, rfl⟩⟩
theorem ep_max {p : Addr} {ns : List Int} (ha : Ev te σ G (.ref p)) (hp : SqL K G p (ns.map V.int)) (hl : 0 < ns.length) : EvP (tCB (rMax K) (tCons te tNil)) σ G (MaxD ns) := fun H1 e Q q =>
  ha H1 e _ fun H2 e2 => ⟨p, ns, rfl, ex_l (e.trans e2) hp, hl, fun m hm hle => q _ G H2 (Gr.of e e2) ⟨m, hm, hle, rfl⟩⟩
theorem pu_check_among (h : ∃ w lap, Wts w ∧ LapOk lap ∧ (∀ a ∈ lap, a < w.length) ∧ Ints w x H ∧ RunD K lap y H ∧ RetV .non H Q) : t_check_among K (En Q) (start N_check_among [x, y]) H := by
  obtain ⟨w, lap, hw, hl, ha, hx, hy, k⟩ := h
  obtain ⟨wp, rfl, hwp⟩ := id hx
  obtain ⟨p, v0, v1, rfl, hp, ⟨hq, rfl, hh⟩, ⟨lq, rfl, hlq⟩⟩ := id hy
  have hh0 : H hq = some (.lst []) := hh
  refine q_dropP (Ex.refl H) (ev_checkW hw (ep_var (v := .ref wp) rfl hx)).p fun _ G1 H1 r1 _ => ?_
  refine q_dropP (Ex.refl H1) (ev_checkR (K := K) hl (ep_var (v := .ref p) rfl (up_ hy r1.k))).p fun _ G2 H2 r2 _ => ?_
  have e2 := r1.k.trans r2.k
  have hcat : EvL (tOp rCat (tOp (rIxT K) (tVar 1) (tC (.int 0))) (tOp (rIxT K) (tVar 1) (tC (.int 1)))) [some (.ref wp), some (.ref p)] H2 (lap.map V.int) :=
    el_cat (xs := []) (ev_ixT0 (K := K) (ev_var rfl) (ex_t e2 hp)) (ev_ixT1 (K := K) (ev_var rfl) (ex_t e2 hp)) (e2 hq _ hh0) (e2 lq _ hlq) (by have := hl.2.1; rw [List.length_map]; simp; omega)
  refine s_skip (Ex.refl H2) (et_test (EvP.val (v := .bl false) (ep_op (ep_maxN (K := K) hcat hl.1) (ev_lenE (K := K) (ev_var rfl) (sq_of (e2 wp _ hwp)) (len_i w)).p fun x1 y1 G3 H3 a1 a2 ⟨m, hm, _, ex⟩ ey Q q => ?_))) fun H3 r3 => k H3 (e2.trans r3.k)
  cases ex
  cases ey
  refine ⟨m, _, rfl, rfl, ?_⟩
  have := ha m hm
  show Q (V.bl (decide ((w.length : Int) ≤ m))) H3
  rw [decide_eq_false (by omega)]
  exact q _ G3 H3 (Gr.refl a2) rfl
theorem pu_lag_of (h : ∃ G w lap i t, Ex G H ∧ Wts w ∧ LapOk lap ∧ Ints w x G ∧ RunD K lap y G ∧ z = .int (i : Nat) ∧ u = .int (t : Nat) ∧ i < w.length ∧ t < lap.length ∧ Ret (Fr K w.sum (lagN w lap i t)) G H Q) : t_lag_of K (En Q) (start N_lag_of [x, y, z, u]) H := by
  obtain ⟨G, w, lap, i, t, e, hw, hl, hx, hy, rfl, rfl, hi', ht, k⟩ := h
  have hS := wts_sm hw
  obtain ⟨wp, rfl, hwp⟩ := id hx
  have wb := wt_bd hw hi'
  have := ep_minus (K := K) (E := E0) (σ := [some (.ref wp), some y, some (.int (i : Nat)), some (.int (t : Nat))]) (G := G) hS (ep_made (K := K) (E := E0) (ta := tOp rMulI (tVar 3) (tOp (rIxL K) (tVar 0) (tVar 2))) (tb := tCB (rSum K) (tCons (tVar 0) tNil)) (ev_mul (ev_var rfl) (ev_ixL (K := K) (ev_var rfl) (ev_var rfl) (sq_of hwp) (wt_get hi')) (cmul_r (by omega) (by omega))) (ev_sum (K := K) (ev_var rfl) (sq_of hwp)) hS.1 (by have := hS.2; omega))
    (ep_k1 (K := K) hS (ev_countE (K := K) (E := E0) (ta := tVar 1) (tb := tVar 2) (tc := tVar 3) hl (by omega : (0 : Int) ≤ (t : Int)) (ep_var (v := y) rfl hy) (ev_var rfl) (ev_var rfl)))
  rw [cntE_lt ht] at this
  exact s_retP e this k
theorem ep_lag {w lap : List Int} {i t : Nat} (hw : Wts w) (hl : LapOk lap) (hi' : i < w.length) (ht : t < lap.length) (h1 : EvP ta σ G (Ints w)) (h2 : EvP tb σ G (RunD K lap)) (h3 : Ev tc σ G (.int (i : Nat))) (h4 : Ev td σ G (.int (t : Nat))) :
    EvP (tCall (sp_lag_of K) [] E (tCons ta (tCons tb (tCons tc (tCons td tNil))))) σ G (Fr K w.sum (lagN w lap i t)) :=
  ep_call4 h1 h2 h3.p h4.p fun x y z u G1 H1 e1 e2 d1 d2 d3 d4 Q E q => ⟨x, y, z, u, rfl, G1, w, lap, i, t, e2, hw, hl, d1, d2, d3, d4, hi', ht, q⟩
theorem pu_drift_of (h : ∃ G w lap i, Ex G H ∧ Wts w ∧ LapOk lap ∧ Ints w x G ∧ RunD K lap y G ∧ z = .int (i : Nat) ∧ i < w.length ∧ Ret (Fr K w.sum (lagN w lap i lap.length)) G H Q) : t_drift_of K (En Q) (start N_drift_of [x, y, z]) H := by
  obtain ⟨G, w, lap, i, e, hw, hl, hx, hy, rfl, hi', k⟩ := h
  have hS := wts_sm hw
  have l1 := hl.2.1
  obtain ⟨wp, rfl, hwp⟩ := id hx
  have wb := wt_bd hw hi'
  obtain ⟨p, v0, v1, rfl, hp, _, ⟨lq, rfl, hlq⟩⟩ := id hy
  refine q_asgV e (ev_ixT1 (K := K) (ev_var rfl) hp) fun H1 r1 => ?_
  have := ep_minus (K := K) (E := E0) (σ := [some (.ref wp), some (.ref p), some (.int (i : Nat)), some (.ref lq)]) (G := G) hS (ep_made (K := K) (E := E0) (ta := tOp rMulI (tCB (rLenS K) (tCons (tVar 3) tNil)) (tOp (rIxL K) (tVar 0) (tVar 2))) (tb := tCB (rSum K) (tCons (tVar 0) tNil)) (ev_mul (ev_lenE (K := K) (ev_var rfl) (sq_of hlq) (len_i lap)) (ev_ixL (K := K) (ev_var rfl) (ev_var rfl) (sq_of hwp) (wt_get hi')) (cmul_r (by omega) (by omega))) (ev_sum (K := K) (ev_var rfl) (sq_of hwp)) hS.1 (by have := hS.2; omega))
    (ep_k1 (K := K) hS (ev_count (K := K) (ta := tVar 3) (tb := tVar 2) (ev_var rfl) (sq_of hlq) (ev_var rfl)))
  rw [← cnt_all] at this
  exact s_retP r1.s this (k.mono r1)
theorem ep_drift {w lap : List Int} {i : Nat} (hw : Wts w) (hl : LapOk lap) (hi' : i < w.length) (h1 : EvP ta σ G (Ints w)) (h2 : EvP tb σ G (RunD K lap)) (h3 : Ev tc σ G (.int (i : Nat))) :
    EvP (tCall (sp_drift_of K) [] E (tCons ta (tCons tb (tCons tc tNil)))) σ G (Fr K w.sum (lagN w lap i lap.length)) :=
  ep_call3 h1 h2 h3.p fun x y z G1 H1 e1 e2 d1 d2 d3 Q E q => ⟨x, y, z, rfl, G1, w, lap, i, e2, hw, hl, d1, d2, d3, hi', q⟩
theorem pu_ends_of {mg : Str → Option Value} {aN aO : Addr} (T0 : Txt K mg aN aO) (h : ∃ G w lap i l h, Ex G H ∧ Wts w ∧ LapOk lap ∧ Ints w x G ∧ RunD K lap y G ∧ z = .int (i : Nat) ∧ i < w.length ∧ l < 0 ∧ 0 < h ∧ (∀ t, t < lap.length → l < lagN w lap i t ∧ lagN w lap i t < h) ∧ Ret (EndsD K w.sum l h) G H Q) :
    t_ends_of K aN (En Q) (start N_ends_of [x, y, z]) H := by
  obtain ⟨G, w, lap, i, l, h, e, hw, hl, hx, hy, rfl, hi', hl0, hh0, hb, k⟩ := h
  have hS := wts_sm hw
  have l1 := hl.2.1
  obtain ⟨p, v0, v1, rfl, hp, ⟨hq, rfl, hh⟩, ⟨lq, rfl, hlq⟩⟩ := id hy
  refine q_asgV e ev_c fun H1 r1 => ?_
  refine q_asgV r1.s ev_c fun H2 r2 => ?_
  refine q_asgV r2.s ev_c fun H3 r3 => ?_
  refine q_asgV r3.s ev_c fun H4 r4 => ?_
  have r04 := ((r1.trans r2).trans r3).trans r4
  refine q_forR1 (n := (lap.length : Int)) (ea_cons (ev_int (ev_add (ev_lenE (K := K) (ev_ixT0 (K := K) (ev_var rfl) (ex_t r04.e hp)) (sq_of (r04.e hq _ hh)) (show ((([] : List Int).map V.int).length : Int) = 0 from rfl)) (ev_lenE (K := K) (ev_ixT1 (K := K) (ev_var rfl) (ex_t r04.e hp)) (sq_of (r04.e lq _ hlq)) (len_i lap))) (by omega)) ea_nil) (by omega)
    (fun t σ' H' => ∃ G' lv hv a b la ha c d, Gr G H G' H' ∧ σ' = [some x, some (.ref p), some (.int (i : Nat)), some lv, some hv, some la, some ha, c, d] ∧ Fr K w.sum a lv G' ∧ Fr K w.sum b hv G' ∧ l < a ∧ b < h)
    (fun H5 e5 => ⟨G, .ref aN, .ref aN, 0, 0, .int 0, .int 0, none, none, r04.trans (Gr.of r04.s e5), rfl, fr_tN T0 hS.1, fr_tN T0 hS.1, hl0, hh0⟩) ?_ ?_
  · rintro t σ' H' ht ⟨G', lv, hv, a, b, la, ha, c, d, r, rfl, da, db, al, bh⟩
    have ht' : t < lap.length := by omega
    have hbt := hb t ht'
    refine q_asgP r.s (ep_lag (K := K) hw hl hi' ht' (ep_var (v := x) rfl (up_ hx r.g)) (ep_var (v := .ref p) rfl (up_ hy r.g)) (ev_var rfl) (ev_var rfl)) fun fv G5 H5 r5 df => ?_
    have r05 := r.trans r5
    -- the second test, whatever low became
    have second : ∀ (lv' la' : V) (a' : Int) (H6 : Hp), Gr G H G5 H6 → Fr K w.sum a' lv' G5 → l < a' →
        (tIfS (tB (tCall (sp_less K) [] E0 (tCons (tVar 4) (tCons (tVar 8) tNil)))) (tSeq (tAsg (tVar 8) (gName 4)) (tAsg (tVar 7) (gName 6))) tNext)
          { (En Q) with
            nx := fun σ' H' => ∃ G' lv hv a b la ha c d, Gr G H G' H' ∧ σ' = [some x, some (.ref p), some (.int (i : Nat)), some lv, some hv, some la, some ha, c, d] ∧ Fr K w.sum a lv G' ∧ Fr K w.sum b hv G' ∧ l < a ∧ b < h } [some x, some (.ref p), some (.int (i : Nat)), some lv', some hv, some la', some ha, some (.int (t : Int)), some fv] H6 := fun lv' la' a' H6 r6 da' al' => by
      refine s_ifb r6.s (et_B (ev_less (K := K) hS (ep_var (v := hv) rfl (up_ db r5.g)) (ep_var (v := fv) rfl df))) (fun _ H7 r7 => ?_) (fun _ H7 r7 => ?_)
      · refine q_asgV r7.s (ev_var rfl) fun H8 r8 => ?_
        refine s_asgV r8.s (ev_var rfl) fun H9 r9 => ?_
        exact ⟨G5, lv', fv, a', _, la', _, _, _, ((r6.trans r7).trans r8).trans r9, rfl, da', df, al', hbt.2⟩
      · exact ⟨G5, lv', hv, a', b, la', ha, _, _, r6.trans r7, rfl, da', up_ db r5.g, al', bh⟩
    refine q_ifb r05.s (et_B (ev_less (K := K) hS (ep_var (v := fv) rfl df) (ep_var (v := lv) rfl (up_ da r5.g)))) (fun _ H6 r6 => ?_) (fun _ H6 r6 => ?_)
    · refine q_asgV r6.s (ev_var rfl) fun H7 r7 => ?_
      refine s_asgV r7.s (ev_var rfl) fun H8 r8 => ?_
      exact second fv _ _ H8 (((r05.trans r6).trans r7).trans r8) df hbt.1
    · exact second lv la a H6 (r05.trans r6) (up_ da r5.g) al
  · rintro σ' H' ⟨G', lv, hv, a, b, la, ha, c, d, r, rfl, da, db, al, bh⟩
    refine s_retP r.s ((eu_tup (ea_cons (ev_var rfl) (ea_cons (ev_var rfl) (ea_cons (ev_var rfl) (ea_cons (ev_var rfl) ea_nil)))) (by show 4 ≤ 100000; decide)).p.imp fun v G1 e1 ⟨q, ev, hq⟩ => ⟨q, a, b, lv, la, hv, ha, ev, st_of hq, up_ da e1, up_ db e1, al, bh⟩) (k.mono r)
theorem dp_t2 {q : Addr} {a b : Int} (h : SqT K G q [.int a, .int b]) : Dp K G (.ref q) (.tuple [.int a, .int b]) := .tup h (.cons (.int a) (.cons (.int b) .nil))
theorem rv_eqT {p q : Addr} {a b c d : Int} (hp : SqT K G p [.int a, .int b]) (hq : SqT K G q [.int c, .int d]) : RV (rEqD K) (.ref p) (.ref q) G (.bl (a == c && b == d)) := by
  have := rv_eqD (K := K) (H := G) (dp_t2 hp) (dp_t2 hq) (by simp [SeqAt.shaped, PyData.canLay0, PyData.canLayAll0, PyData.depth, PyData.depthAll]) (by simp [SeqAt.shaped, PyData.canLay0, PyData.canLayAll0, PyData.depth, PyData.depthAll])
  simp only [PyData.eqv, PyData.eqvAll, Bool.and_true] at this
  exact this
theorem rv_neT {p q : Addr} {a b c d : Int} (hp : SqT K G p [.int a, .int b]) (hq : SqT K G q [.int c, .int d]) : RV (rNeD K) (.ref p) (.ref q) G (.bl (!(a == c && b == d))) := by
  have := rv_neD (K := K) (H := G) (dp_t2 hp) (dp_t2 hq) (by simp [SeqAt.shaped, PyData.canLay0, PyData.canLayAll0, PyData.depth, PyData.depthAll]) (by simp [SeqAt.shaped, PyData.canLay0, PyData.canLayAll0, PyData.depth, PyData.depthAll])
  simp only [PyData.eqv, PyData.eqvAll, Bool.and_true] at this
  exact this
theorem pu_lags_of {mg : Str → Option Value} {aN aO : Addr} (T0 : Txt K mg aN aO) (h : ∃ G w lap l h, Ex G H ∧ Wts w ∧ LapOk lap ∧ (∀ a ∈ lap, a < w.length) ∧ Ints w x G ∧ RunD K lap y G ∧ l < 0 ∧ 0 < h ∧ (∀ i, i < w.length → lagN w lap i lap.length = 0) ∧ (∀ i t, i < w.length → t < lap.length → l < lagN w lap i t ∧ lagN w lap i t < h) ∧
  Ret (Ls w.length fun _ => WithinD K w.sum l h) G H Q) : t_lags_of K aN (En Q) (start N_lags_of [x, y]) H := by
  obtain ⟨G, w, lap, l, h, e, hw, hl, ha, hx, hy, hl0, hh0, hd, hb, k⟩ := h
  have hS := wts_sm hw
  have l6 := hw.l6
  obtain ⟨wp, rfl, hwp⟩ := id hx
  refine q_dropP e (ev_call2 (v := .non) (ep_var (v := .ref wp) rfl hx) (ep_var (v := y) rfl hy) fun x1 y1 G1 H1 e1 e2 d1 d2 Q E q => ⟨x1, y1, rfl, w, lap, hw, hl, ha, up_ d1 e2, up_ d2 e2, q⟩).p fun _ G1 H1 r1 _ => ?_
  refine q_asgH r1.s el_nil fun fl H2 n2 r2 hfl => ?_
  have r02 := r1.trans r2
  have nfl : H fl = none := none_back r1.k n2
  refine q_forR1 (n := (w.length : Int)) (ea_cons (ev_lenE (K := K) (ev_var rfl) (sq_of (r02.e wp _ hwp)) (len_i w)) ea_nil) (by omega)
    (fun j σ' H' => ∃ G' xs a b, Gr G H G' H' ∧ σ' = [some (.ref wp), some y, some (.ref fl), a, b] ∧ G' fl = none ∧ H' fl = some (.lst xs) ∧ xs.length = j ∧ ∀ (i : Nat) (v : V), xs[i]? = some v → WithinD K w.sum l h v G')
    (fun H3 e3 => ⟨G1, [], none, none, r02.trans (Gr.of r02.s e3), rfl, none_back r1.s n2, e3 fl _ hfl, rfl, fun i v hv => by cases hv⟩) ?_ ?_
  · rintro j σ' H' hj ⟨G', xs, a, b, r, rfl, mf, hf, hlx, hxs⟩
    have hj' : j < w.length := by omega
    refine q_asgP r.s (ep_drift (K := K) hw hl hj' (ep_var (v := .ref wp) rfl (up_ hx r.g)) (ep_var (v := y) rfl (up_ hy r.g)) (ev_var rfl)) fun dv G3 H3 r3 dd => ?_
    rw [hd j hj'] at dd
    have r03 := r.trans r3
    obtain ⟨dq, rfl, hdq⟩ := id dd
    rw [fr_nought hS.1] at hdq
    refine s_ifb r3.s (b := true) (et_test (ev_bl (ev_op (ev_var rfl) ev_c (rv_eqT (K := K) hdq (T0.tN G3))) (by rfl))) (fun _ H4 r4 => ?_) (fun e => nomatch e)
    have hends : EvP (tOp (rCatT K) (tTup (tCons (tC (.str "within")) tNil)) (tCall (sp_ends_of K) [] E0 (tCons (tVar 0) (tCons (tVar 1) (tCons (tVar 3) tNil))))) [some (.ref wp), some y, some (.ref fl), some (.int (j : Int)), some (.ref dq)] G3 (WithinD K w.sum l h) :=
      ep_op (d1 := IsTup [.str "within"]) (d2 := EndsD K w.sum l h) (eu_tup (ea_cons ev_c ea_nil) (by show 1 ≤ 100000; decide)).p
        (ep_call3 (ep_var (v := .ref wp) rfl (up_ hx r03.g)) (ep_var (v := y) rfl (up_ hy r03.g)) (ev_var (v := .int (j : Int)) rfl).p fun x1 y1 z1 G4 H4 a1 a2 d1 d2 d3 Q E q => ⟨x1, y1, z1, rfl, G4, w, lap, j, l, h, a2, hw, hl, d1, d2, d3, hj', hl0, hh0, fun t ht => hb j t hj' ht, q⟩)
        fun x1 y1 G4 H4 a1 a2 ⟨q1, ex, hq1⟩ ⟨q2, a, b, v1, v2, v3, v4, ey, hq2, da, db, al, bh⟩ Q q => ⟨q1, q2, _, _, ex, ey, st_of (a2 q1 _ hq1), ex_t a2 hq2, by simp, by show 1 + 4 ≤ sizeLine; decide, fun e => by simp at e, fun _ p3 hp3 => q _ _ _ (Gr.new a2 hp3) ⟨p3, a, b, v1, v2, v3, v4, rfl, st_of upd_same, up_ da (ex_new (none_back a2 hp3)), up_ db (ex_new (none_back a2 hp3)), al, bh⟩⟩
    have mf3 := r3.hidd hf mf
    have hf4 := r4.k fl _ (r3.k fl _ hf)
    refine s_appP (K := K) r4.s hf4 (ev_var rfl) hends (by omega) fun v G5 H5 r5 dv => ?_
    have m5 := r5.hidd hf4 mf3
    refine ⟨G5, xs ++ [v], some (.int (j : Int)), some (.ref dq), ((r03.trans r4).trans r5).mut nfl m5, rfl, m5, upd_same, by rw [List.length_append, hlx]; rfl, fun i x hi => ?_⟩
    by_cases c : i < xs.length
    · rw [List.getElem?_append_left c] at hi
      exact up_ (hxs i x hi) (r3.g.trans r5.g)
    · rw [List.getElem?_append_right (by omega)] at hi
      cases q0 : i - xs.length with
      | zero => rw [q0] at hi; have ev := Option.some.inj hi; subst ev; exact dv
      | succ n => rw [q0] at hi; cases hi
  · rintro σ' H' ⟨G', xs, a, b, r, rfl, mf, hf, hlx, hxs⟩
    rw [Int.toNat_natCast] at hlx
    refine s_retV (Ex.refl H') (ev_var rfl) fun v G2 H2 r2 ev => ?_
    cases ev
    exact k _ _ H2 ((r.trans (Gr.of r.s r2.k)).add nfl (r2.k fl _ hf)) ⟨fl, xs, rfl, upd_same, hlx, fun i x hi => up_ (hxs i x hi) (ex_new mf)⟩
theorem ev_keeps {S m a : Int} (hS : Sm S) (h1 : EvP ta σ G (Bd K S m)) (h2 : EvP tb σ G (Fr K S a)) : Ev (tCall (sp_lag_keeps K) [] E (tCons ta (tCons tb tNil))) σ G (.bl (decide ((if a < 0 then -a else a) < m))) :=
  ev_call2 h1 h2 fun x y G1 H1 e1 e2 d1 d2 Q E q => ⟨x, y, rfl, S, m, a, hS, up_ d1 e2, up_ d2 e2, q⟩
theorem pu_first_out {mg : Str → Option Value} {aN aO : Addr} (T0 : Txt K mg aN aO) (h : ∃ w lap i m, Wts w ∧ LapOk lap ∧ Ints w x H ∧ RunD K lap y H ∧ z = .int (i : Nat) ∧ i < w.length ∧ Bd K w.sum m u H ∧ lagN w lap i lap.length = 0 ∧ (∀ t, t < lap.length → -m < lagN w lap i t ∧ lagN w lap i t < m) ∧ RetV .non H Q) :
    t_first_out K aN (En Q) (start N_first_out [x, y, z, u]) H := by
  obtain ⟨w, lap, i, m, hw, hl, hx, hy, rfl, hi', hu, hd, hb, k⟩ := h
  have hS := wts_sm hw
  have l1 := hl.2.1
  obtain ⟨p, v0, v1, rfl, hp, ⟨hq, rfl, hh⟩, ⟨lq, rfl, hlq⟩⟩ := id hy
  refine q_asgV (Ex.refl H) (ev_ixT0 (K := K) (ev_var rfl) hp) fun H1 r1 => ?_
  refine q_asgV (Ex.refl H1) (ev_ixT1 (K := K) (ev_var rfl) (ex_t r1.k hp)) fun H2 r2 => ?_
  have e2 := r1.k.trans r2.k
  refine q_asgP (Ex.refl H2) (ep_drift (K := K) hw hl hi' (ep_var (v := x) rfl (up_ hx e2)) (ep_var (v := .ref p) rfl (up_ hy e2)) (ev_var rfl)) fun dv G3 H3 r3 dd => ?_
  rw [hd] at dd
  obtain ⟨dq, rfl, hdq⟩ := id dd
  rw [fr_nought hS.1] at hdq
  have e3 := e2.trans r3.k
  have hdq3 := ex_t r3.s hdq
  refine q_asgH (Ex.refl H3) el_nil fun fl H4 n4 r4 hfl => ?_
  have e4 := e3.trans r4.k
  have hh0 : H hq = some (.lst []) := hh
  refine q_forR1 (n := (lap.length : Int)) (ea_cons (ev_int (ev_add (ev_lenE (K := K) (ev_var rfl) (sq_of (e4 hq _ hh0)) (show (([] : List V).length : Int) = 0 from rfl)) (ev_lenE (K := K) (ev_var rfl) (sq_of (e4 lq _ hlq)) (len_i lap))) (by omega)) ea_nil) (by omega)
    (fun t σ' H' => ∃ a b, σ' = [some x, some (.ref p), some (.int (i : Nat)), some u, some (.ref hq), some (.ref lq), some (.ref dq), some (.ref fl), a, b] ∧ Ex H4 H')
    (fun H5 e5 => ⟨none, none, rfl, e5⟩) ?_ ?_
  · rintro t σ' H' ht ⟨a, b, rfl, e5⟩
    have ht' : t < lap.length := by omega
    have hbt := hb t ht'
    have e := e4.trans e5
    refine q_asgP (Ex.refl H') (ep_lag (K := K) hw hl hi' ht' (ep_var (v := x) rfl (up_ hx e)) (ep_var (v := .ref p) rfl (up_ hy e)) (ev_var rfl) (ev_var rfl)) fun fv G6 H6 r6 df => ?_
    have e6 := e.trans r6.k
    refine q_skip (Ex.refl H6) (et_is (et_and (a := false) (b := false) (et_test (ev_bl (ev_lt (ev_var rfl) (ev_lenE (K := K) (ev_var rfl) (sq_of (e6 hq _ hh0)) (show (([] : List V).length : Int) = 0 from rfl))) (decide_eq_false (by omega)))) (fun e => nomatch e)) rfl) fun H7 r7 => ?_
    have e7 := e6.trans r7.k
    refine s_skip (Ex.refl H7) (et_is (et_and (a := true) (b := false) (et_test (ev_bl (ev_ge (ev_var rfl) (ev_lenE (K := K) (ev_var rfl) (sq_of (e7 hq _ hh0)) (show (([] : List V).length : Int) = 0 from rfl))) (decide_eq_true (by omega)))) fun _ => et_is (et_or (a := false) (b := false) (et_test (ev_bl (ev_op (ev_var rfl) ev_c (rv_neT (K := K) (ex_t (((r4.k.trans e5).trans r6.k).trans r7.k) hdq3) (T0.tN H7))) (by rfl))) fun _ => et_not (a := true) (et_B (ev_bl (ev_keeps (K := K) hS (ep_var (v := u) rfl (up_ hu e7)) (ep_var (v := fv) rfl (up_ df (r6.s.trans r7.k)))) (decide_eq_true ?_)))) rfl) rfl) fun H8 r8 => ⟨_, _, rfl, ((e5.trans r6.k).trans r7.k).trans r8.k⟩
    split <;> omega
  · rintro σ' H' ⟨a, b, rfl, e5⟩
    have hfl' : H' fl = some (.lst (([] : List Int).map V.int)) := e5 fl _ hfl
    refine q_ifb (b := true) (Ex.refl H') (et_test (ev_bl (ev_opL (ev_var rfl) el_nil fun q H6 hq6 e6 => rv_eqL (K := K) (ns := []) (ms := []) (sq_of (e6 fl _ hfl')) (sq_of hq6)) (by rfl))) (fun _ H6 r6 => ?_) (fun e => nomatch e)
    exact s_retV (Ex.refl H6) ev_c (k.up ((e4.trans e5).trans r6.k)).ret
theorem pu_broken_at (h : ∃ w lap m, Wts w ∧ LapOk lap ∧ (∀ a ∈ lap, a < w.length) ∧ Ints w x H ∧ RunD K lap y H ∧ 0 ≤ m ∧ m ≤ 300 * w.sum ∧ Bd K w.sum m z H ∧ (∀ i, i < w.length → lagN w lap i lap.length = 0) ∧ (∀ i t, i < w.length → t < lap.length → -m < lagN w lap i t ∧ lagN w lap i t < m) ∧ RetV .non H Q) :
    t_broken_at K (En Q) (start N_broken_at [x, y, z]) H := by
  obtain ⟨w, lap, m, hw, hl, ha, hx, hy, m0, m1, hz, hd, hb, k⟩ := h
  have hS := wts_sm hw
  have l6 := hw.l6
  obtain ⟨wp, rfl, hwp⟩ := id hx
  refine q_dropP (Ex.refl H) (ev_call2 (v := .non) (ep_var (v := .ref wp) rfl hx) (ep_var (v := y) rfl hy) fun x1 y1 G1 H1 e1 e2 d1 d2 Q E q => ⟨x1, y1, rfl, w, lap, hw, hl, ha, up_ d1 e2, up_ d2 e2, q⟩).p fun _ G1 H1 r1 _ => ?_
  refine q_dropP (Ex.refl H1) (ev_checkB (K := K) hS m0 m1 (ep_var (v := z) rfl (up_ hz r1.k))).p fun _ G2 H2 r2 _ => ?_
  have e2 := r1.k.trans r2.k
  refine q_asgH (Ex.refl H2) el_nil fun fl H3 n3 r3 hfl => ?_
  have e3 := e2.trans r3.k
  refine q_forR1 (n := (w.length : Int)) (ea_cons (ev_lenE (K := K) (ev_var rfl) (sq_of (e3 wp _ hwp)) (len_i w)) ea_nil) (by omega)
    (fun t σ' H' => ∃ a b, σ' = [some (.ref wp), some y, some z, some (.ref fl), a, b] ∧ Ex H3 H') (fun H5 e5 => ⟨none, none, rfl, e5⟩) ?_ ?_
  · rintro i σ' H' hi ⟨a, b, rfl, e5⟩
    have hi' : i < w.length := by omega
    have e := e3.trans e5
    refine q_asgV (Ex.refl H') (v := .non) (ev_call4 (ep_var (v := .ref wp) rfl (up_ hx e)) (ep_var (v := y) rfl (up_ hy e)) (ev_var (v := .int (i : Int)) rfl).p (ep_var (v := z) rfl (up_ hz e)) fun x1 y1 z1 u1 G3 H3 a1 a2 d1 d2 d3 d4 Q E q3 => ⟨x1, y1, z1, u1, rfl, w, lap, i, m, hw, hl, up_ d1 a2, up_ d2 a2, d3, hi', up_ d4 a2, hd i hi', fun t ht => hb i t hi' ht, q3⟩) fun H6 r6 => ?_
    exact s_skip (Ex.refl H6) (et_test (ev_bl (ev_notN (ev_var rfl)) (by rw [decide_eq_true rfl]; rfl))) fun H7 r7 => ⟨_, _, rfl, (e5.trans r6.k).trans r7.k⟩
  · rintro σ' H' ⟨a, b, rfl, e5⟩
    have hfl' : H' fl = some (.lst (([] : List Int).map V.int)) := e5 fl _ hfl
    refine q_ifb (b := true) (Ex.refl H') (et_test (ev_bl (ev_opL (ev_var rfl) el_nil fun q H6 hq6 e6 => rv_eqL (K := K) (ns := []) (ms := []) (sq_of (e6 fl _ hfl')) (sq_of hq6)) (by rfl))) (fun _ H6 r6 => ?_) (fun e => nomatch e)
    exact s_retV (Ex.refl H6) ev_c (k.up ((e3.trans e5).trans r6.k)).ret
theorem pu_round_of (h : ∃ w, Wts w ∧ Ints w x H ∧ RetV (.int (w.sum / gcdL w)) H Q) : t_round_of K (En Q) (start N_round_of [x]) H := by
  obtain ⟨w, hw, ⟨wp, rfl, hwp⟩, k⟩ := h
  have g0 := gcdL_pos hw
  have g1 := gcdL_le hw
  have ss := hw.ss
  refine q_asgV (Ex.refl H) ev_c fun H1 r1 => ?_
  refine q_forLn (K := K) (ev_var rfl) (sq_of (r1.k wp _ hwp)) (fun i σ' H' => ∃ a, σ' = [some (.ref wp), some (.int ((w.take i).foldl (fun g x => (Int.gcd g x : Int)) 0)), a] ∧ Ex H H') (fun H2 e2 => ⟨none, rfl, r1.k.trans e2⟩) (fun i σ' H' _ ⟨a, _, e⟩ => sq_of (e wp _ hwp)) ?_ ?_
  · rintro i v σ' H' hi ⟨a, rfl, e⟩
    obtain ⟨n, hn, rfl⟩ := ints_at hi
    refine s_asgV (Ex.refl H') (ev_common (ev_var rfl) (ev_var rfl)) fun H2 r2 => ⟨some (.int n), ?_, e.trans r2.k⟩
    have et : w.take (i + 1) = w.take i ++ [n] := by
      rw [List.take_add_one, hn]; rfl
    rw [et, List.foldl_append]
    rfl
  · rintro σ' H' ⟨a, rfl, e⟩
    rw [List.length_map, List.take_length]
    exact s_retV (Ex.refl H') (ev_div (ev_sum (K := K) (ev_var rfl) (sq_of (e wp _ hwp))) (ev_var rfl) g0 (by show gcdL w < 1073741824; omega)) (k.up e).ret
end
end Dt
set_option Elab.async false
set_option linter.all false
set_option maxRecDepth 100000
set_option maxHeartbeats 4000000
/-! Readings: dealt for ever. -/
namespace Dt
open PySem PySem.Spec PyProof.Rows L2 Evl DtM
section
variable {K : PySem.W.Frag} {x y z u v : V} {G G1 G2 H H' H1 H2 : Hp} {Q : VK} {σ : L2.St} {te ta tb tc td : TE} {E : XK} {D : Ends} {tu tz : TS} {p C dx : Addr} {fs : List (Str × V)} {f : Str} {d : Dsc} {o : HO} {t : TT}
/-- Plan(spells) -/
theorem ep_plan {ns w : List Int} {T : Nat} (hw : Wts w) (hns : SpellsOk ns) (hT : ns.sum = (T : Int)) (h : EvP ta σ G (SpellsD K ns w)) : EvP (tMake C (sp_Plan_init K C) [] E (tCons ta tNil)) σ G (PlanD K C w T) := fun H1 e Q q =>
  h H1 e _ fun sv G1 H2 r ds => fun x dx nx ndx nex => by
    refine ⟨.ref x, sv, rfl, G1, x, dx, ns, w, T, ?_, rfl, upd_same, none_back r.s nx, hw, hns, hT, ds, fun G2 H3 eg es but hid dp => ⟨rfl, ?_⟩⟩
    · exact ex_upd (ex_upd r.s (none_back r.s ndx)) (none_back r.s nx)
    · refine q _ G2 H3 (r.trans ⟨eg, es, fun b o hb => ?_, fun b h1 h2 => ?_⟩) dp
      · have c1 : b ≠ x := fun c => by rw [c, nx] at hb; cases hb
        have c2 : b ≠ dx := fun c => by rw [c, ndx] at hb; cases hb
        exact but b o (by rw [upd_ne c1, upd_ne c2]; exact hb) c1
      · have c1 : b ≠ x := fun c => h1 (by rw [c]; exact nx)
        have c2 : b ≠ dx := fun c => h1 (by rw [c]; exact ndx)
        exact hid b (by rw [upd_ne c1, upd_ne c2]; exact h1) h2 c1
theorem rep_sum (n : Nat) (a : Int) : (List.replicate n a).sum = n * a := by
  induction n with
  | zero => simp
  | succ k ih =>
    rw [List.replicate_succ, List.sum_cons, ih, Int.natCast_succ, Int.add_mul]
    omega
theorem getD_repA {n i : Nat} {a : Int} (h : i < n) : (List.replicate n a).getD i 0 = a := by
  rw [List.getD_eq_getElem?_getD, List.getElem?_replicate, if_pos h]; rfl
theorem pu_dealt_for_ever {mg : Str → Option Value} {aN aO : Addr} (T0 : Txt K mg aN aO) (h : ∃ G w T, Ex G H ∧ Wts w ∧ w.sum / gcdL w = ((T : Nat) : Int) ∧ Ints w x G ∧ Bd K w.sum w.sum y G ∧ Ret (Pr K (Is (.str "running")) (Pr K (Ints []) (ExI (GoodRow w T)))) G H Q) :
    t_dealt_for_ever K aO C (En Q) (start N_dealt_for_ever [x, y]) H := by
  obtain ⟨G, w, T, e, hw, hT, hx, hy, k⟩ := h
  have hS := wts_sm hw
  have s0 := hS.1
  obtain ⟨t0, t1⟩ := round_pos hw hT
  obtain ⟨wp, rfl, hwp⟩ := id hx
  refine q_dropP e (ev_checkW hw (ep_var (v := .ref wp) rfl hx)).p fun _ G1 H1 r1 _ => ?_
  refine q_dropP r1.s (ev_checkB (K := K) hS (by omega) (by omega) (ep_var (v := y) rfl (up_ hy r1.g))).p fun _ G2 H2 r2 _ => ?_
  have r02 := r1.trans r2
  refine q_asgV r2.s (v := .int (T : Int)) (ev_call1 (ep_var (v := .ref wp) rfl (up_ hx r02.g)) fun x1 G3 H3 a1 a2 d1 Q E q => ⟨x1, rfl, w, hw, up_ d1 a2, by rw [hT]; exact q⟩) fun H3 r3 => ?_
  refine q_skip r3.s (et_test (ev_bl (ev_gt (ev_var rfl) ev_c) (decide_eq_false (by omega)))) fun H4 r4 => ?_
  have r04 := (r02.trans r3).trans r4
  have hwl : ∀ {σ : L2.St} {G' : Hp}, σ[0]? = some (some (.ref wp)) → Ex G G' → EvP (tCB (rListS K) (tCons (tVar 0) tNil)) σ G' (Ints w) := fun h0 e' => (el_list (K := K) (ev_var h0) (sq_of (e' wp _ hwp))).p
  -- spells = [(MOST_IN_SPELL, list(weights)) for spell in range(turns // MOST_IN_SPELL)]
  have h60 : ((T : Int) / 60) = ((T / 60 : Nat) : Int) := by omega
  have hc : EvM (tLc (iRng1 (tCons (tOp rDivI (tVar 2) (tC (.int 60))) tNil)) (gName 6) tYes (tTup (tCons (tC (.int 60)) (tCons (tCB (rListS K) (tCons (tVar 0) tNil)) tNil))) [6]) [some (.ref wp), some y, some (.int (T : Int)), none, none, none, none] G2 (T / 60) (fun _ => Pr K (Is (.int 60)) (Ints w)) := by
    have hq := em_lcR (ta := tCons (tOp rDivI (tVar 2) (tC (.int 60))) tNil) (j := 6) (n := ((T / 60 : Nat) : Int)) (σ := [some (.ref wp), some y, some (.int (T : Int)), none, none, none, none]) (G := G2) (te := tTup (tCons (tC (.int 60)) (tCons (tCB (rListS K) (tCons (tVar 0) tNil)) tNil))) (fun _ => Pr K (Is (.int 60)) (Ints w)) (ea_cons (ev_int (ev_div (ev_var rfl) ev_c (by omega) (by omega)) h60) ea_nil) (by omega) (fun x => rfl) fun i G3 e3 hi => en_pr ev_c.p (hwl rfl (r02.g.trans e3))
    rw [Int.toNat_natCast] at hq
    exact hq
  refine q_asgM r4.s hc fun sl xs G5 H5 n5 r5 m5 hsl hln hxs => ?_
  have r05 := r04.trans r5
  have nsl : H sl = none := none_back r04.k n5
  -- what follows, whatever the spells are
  have rest : ∀ (ns : List Int) (ys : List V) (G6 H6 : Hp), Gr G H G6 H6 → G6 sl = none → H6 sl = some (.lst ys) → ys.length = ns.length → (∀ (i : Nat) (v : V), ys[i]? = some v → Pr K (Is (.int (ns.getD i 0))) (Ints w) v G6) → SpellsOk ns → ns.sum = (T : Int) →
      (tSeq (tIfS (tNot (tB (tCall (sp_less K) [] E0 (tCons (tOp (rIxT K) (tVar 1) (tC (.int 0))) (tCons (tC (.ref aO)) tNil))))) (tAsg (tTup (tCons (tC (.ref aO)) (tCons (tC (.bl true)) tNil))) (gName 1))
      tNext)
    (tSeq (tAsg (tCall (sp_kept_by K C) [] E0 (tCons (tMake C (sp_Plan_init K C) [] E0 (tCons (tVar 3) tNil)) (tCons (tVar 1) tNil))) (gTup K 2 (gCons (gName 4) (gCons (gName 5) gNil))))
    (tSeq (tIfS (tTest (tOp rEq (tVar 4) (tC (.str "row")))) (tRet (tTup (tCons (tC (.str "running")) (tCons (tTup (tCons (tLst tNil) (tCons (tVar 5) tNil))) tNil))))
      tNext)
    tNever))) (En Q) [some (.ref wp), some y, some (.int (T : Int)), some (.ref sl), none, none, none] H6 := by
    intro ns ys G6 H6 r6 m6 hsl6 hl6 hys hns hsum
    have ra := r6.add nsl hsl6
    have ug := ex_new (G := G6) (p := sl) (o := .lst ys) m6
    have dsp : SpellsD K ns w (.ref sl) (upd G6 sl (.lst ys)) := ⟨sl, ys, rfl, upd_same, hl6, fun i v hi => up_ (hys i v hi) ug⟩
    generalize upd G6 sl (.lst ys) = G7 at *
    have hy7 := up_ hy ra.g
    obtain ⟨b, bv, bw, rfl, hb, db, eb⟩ := id hy7
    cases eb
    refine q_ifb (b := true) ra.s (et_not (a := false) (et_B (ev_bl (ev_less (K := K) hS ((ev_ixT0 (K := K) (ev_var rfl) hb).dsc db) (ev_c.dsc (fr_tO T0 hS.1))) (decide_eq_false (by omega))))) (fun _ H8 r8 => ?_) (fun e => nomatch e)
    refine s_asgP r8.s (en_pr (K := K) (d1 := Fr K w.sum w.sum) (ev_c.dsc (fr_tO T0 hS.1)) ev_c.p) fun bv2 G9 H9 r9 dbv => ?_
    have r09 := (ra.trans r8).trans r9
    -- word, told = kept_by(Plan(spells), bound)
    have hk : EvP (tCall (sp_kept_by K C) [] E0 (tCons (tMake C (sp_Plan_init K C) [] E0 (tCons (tVar 3) tNil)) (tCons (tVar 1) tNil))) [some (.ref wp), some bv2, some (.int (T : Int)), some (.ref sl), none, none, none] G9 (Dealt K w T) :=
      ep_call2 (d1 := PlanD K C w T) (d2 := Bd K w.sum w.sum) (ep_plan (K := K) hw hns hsum (ep_var (v := .ref sl) rfl (up_ dsp (r8.g.trans r9.g)))) (ep_var (v := bv2) rfl dbv) fun x1 y1 G10 H10 a1 a2 d1 d2 Q E q => ⟨x1, y1, rfl, G10, w, T, a2, hw, by omega, d1, d2, q⟩
    refine hk H9 r9.s _ fun kv G10 H10 r10 dk => ?_
    obtain ⟨q, v0, v1, rfl, hq, ev0, drow⟩ := dk
    cases ev0
    refine ⟨q, [_, _], rfl, ex_t r10.s hq, rfl, _, [_], rfl, _, [], rfl, rfl, ?_⟩
    have r010 := r09.trans r10
    refine q_ifb (b := true) r10.s (et_test (ev_bl (ev_eqS (ev_var rfl) ev_c) (decide_eq_true rfl))) (fun _ H11 r11 => ?_) (fun e => nomatch e)
    exact s_retP r11.s (en_pr ev_c.p (en_pr el_nil.p (ep_var rfl drow))) (k.mono (r010.trans r11))
  -- if turns % MOST_IN_SPELL > 0
  have hm0 := Int.emod_nonneg (T : Int) (b := 60) (by omega)
  have hm1 := Int.emod_lt_of_pos (T : Int) (b := 60) (by omega)
  have hrep : ∀ n ∈ List.replicate (T / 60) (60 : Int), n = 60 := fun n hn => List.eq_of_mem_replicate hn
  refine q_ifb r5.s (et_test (ev_gt (ev_mod (ev_var rfl) ev_c (by omega)) ev_c)) (fun hb H6 r6 => ?_) (fun hb H6 r6 => ?_)
  · have hpos : (0 : Int) < (T : Int) % 60 := of_decide_eq_true hb
    have hsl6 := r6.k sl _ hsl
    refine s_appP (K := K) r6.s hsl6 (ev_var rfl) (en_pr (K := K) (d1 := Is (.int ((T : Int) % 60))) (d2 := Ints w) (ev_mod (ev_var rfl) ev_c (by omega)).p (hwl rfl r05.g)) (by omega) fun v G7 H7 r7 dv => ?_
    have m7 := r7.hidd hsl6 m5
    refine rest (List.replicate (T / 60) 60 ++ [(T : Int) % 60]) (xs ++ [v]) G7 _ (((r05.trans r6).trans r7).mut nsl m7) m7 upd_same (by rw [List.length_append, List.length_append, hln, List.length_replicate]; rfl) (fun i x hi => ?_) ⟨by simp, by rw [List.length_append, List.length_replicate]; show T / 60 + 1 ≤ 8; omega, fun n hn => ?_, ?_⟩ ?_
    · by_cases c : i < xs.length
      · rw [List.getElem?_append_left c] at hi
        have e1 : (List.replicate (T / 60) (60 : Int) ++ [(T : Int) % 60]).getD i 0 = 60 := by
          rw [List.getD_eq_getElem?_getD, List.getElem?_append_left (by rw [List.length_replicate]; omega), ← List.getD_eq_getElem?_getD, getD_repA (by omega)]
        rw [e1]
        exact up_ (hxs i x hi) r7.g
      · rw [List.getElem?_append_right (by omega)] at hi
        cases q0 : i - xs.length with
        | zero =>
          rw [q0] at hi
          have ev := Option.some.inj hi
          subst ev
          have ei : i = (List.replicate (T / 60) (60 : Int)).length := by rw [List.length_replicate]; omega
          have e1 : (List.replicate (T / 60) (60 : Int) ++ [(T : Int) % 60]).getD i 0 = (T : Int) % 60 := by
            rw [ei, List.getD_eq_getElem?_getD, List.getElem?_append_right (Nat.le_refl _), Nat.sub_self]; rfl
          rw [e1]
          exact dv
        | succ n => rw [q0] at hi; cases hi
    · rcases List.mem_append.mp hn with hn | hn
      · rw [hrep n hn]; omega
      · rw [List.mem_singleton.mp hn]; omega
    · rw [List.sum_append, rep_sum]; simp; omega
    · rw [List.sum_append, rep_sum]; simp; omega
  · have hz : ¬ (0 : Int) < (T : Int) % 60 := of_decide_eq_false hb
    refine rest (List.replicate (T / 60) 60) xs G5 H6 (r05.trans r6) m5 (r6.k sl _ hsl) (by rw [hln, List.length_replicate]) (fun i x hi => ?_) ⟨?_, by rw [List.length_replicate]; omega, fun n hn => by rw [hrep n hn]; omega, ?_⟩ ?_
    · have hi' : i < T / 60 := by have := (List.getElem?_eq_some_iff.mp hi).1; omega
      rw [getD_repA hi']
      exact hxs i x hi
    · intro c
      have := congrArg List.length c
      rw [List.length_replicate] at this
      simp at this
      omega
    · rw [rep_sum]; omega
    · rw [rep_sum]; omega
end
end Dt
set_option Elab.async false
set_option linter.all false
/-! Plain mathematics for law k49: the keeper; counts far away. -/
namespace DtM
section
variable {w c : List Int}
/-! ### the first greatest -/
theorem am_leD (g : List Int) : ∀ k, am g k ≤ k
  | 0 => Nat.le_refl 0
  | k + 1 => by
    unfold am
    have := am_leD g k
    split <;> omega
theorem am_max (g : List Int) : ∀ k i, i ≤ k → g.getD i 0 ≤ g.getD (am g k) 0
  | 0, i, h => by
    have e : i = 0 := by omega
    subst e
    exact Int.le_refl _
  | k + 1, i, h => by
    unfold am
    split
    · rename_i c
      by_cases e : i = k + 1
      · rw [e]; exact Int.le_refl _
      · have := am_max g k i (by omega); omega
    · rename_i c
      by_cases e : i = k + 1
      · rw [e]; omega
      · exact am_max g k i (by omega)
structure KI (w c : List Int) : Prop where
  len : c.length = w.length
  su : sm w.length (fun i => c.getD i 0) = 0
  lo : ∀ i, i < w.length → -w.sum < c.getD i 0
theorem growD (hc : c.length = w.length) {i : Nat} (h : i < w.length) : (grow w c).getD i 0 = c.getD i 0 + wt w i := by
  unfold grow wt
  rw [List.getD_eq_getElem?_getD, List.getD_eq_getElem?_getD, List.getD_eq_getElem?_getD, List.getElem?_zipWith, List.getElem?_eq_getElem (by omega), List.getElem?_eq_getElem h]
  rfl
theorem growL (hc : c.length = w.length) : (grow w c).length = w.length := by
  unfold grow
  rw [List.length_zipWith]
  omega
theorem pick_lt (hw : Wts w) (c : List Int) : pick w c < w.length := by
  have := am_leD (grow w c) (w.length - 1)
  have := hw.l2
  unfold pick
  omega
theorem kstepD (hw : Wts w) (hc : c.length = w.length) {i : Nat} (h : i < w.length) : (kstep w c).getD i 0 = c.getD i 0 + wt w i - (if i = pick w c then w.sum else 0) := by
  unfold kstep
  have hp := pick_lt hw c
  rw [getD_set (by rw [growL hc]; exact hp)]
  split
  · rename_i e
    rw [growD hc hp, e]
  · rw [growD hc h]; omega
theorem ki0 (hw : Wts w) : KI w (List.replicate w.length 0) := by
  refine ⟨List.length_replicate .., ?_, fun i _ => by rw [getD_rep]; have := hw.ps; omega⟩
  rw [sm_eq (g := fun _ => 0) fun i _ => getD_rep _ i, sm_zero]
theorem ki_step (hw : Wts w) (h : KI w c) : KI w (kstep w c) := by
  have hp := pick_lt hw c
  have hS := hw.ps
  have sg : sm w.length (fun i => c.getD i 0 + wt w i) = w.sum := by rw [sm_add, h.su, sm_wt]; omega
  -- the greatest is above nought
  have hmax : 0 < (grow w c).getD (pick w c) 0 := by
    rcases Int.lt_or_le 0 ((grow w c).getD (pick w c) 0) with g | g
    · exact g
    · have : sm w.length (fun i => c.getD i 0 + wt w i) ≤ sm w.length (fun _ => 0) := sm_le fun i hi' => by
        have := am_max (grow w c) (w.length - 1) i (by omega)
        rw [growD h.len hi'] at this
        have e : am (grow w c) (w.length - 1) = pick w c := rfl
        rw [e] at this
        omega
      rw [sg, sm_zero] at this
      omega
  rw [growD h.len hp] at hmax
  refine ⟨?_, ?_, fun i hi' => ?_⟩
  · unfold kstep
    rw [List.length_set, growL h.len]
  · have e : sm w.length (fun i => (kstep w c).getD i 0) = sm w.length (fun i => (c.getD i 0 + wt w i) - (if i = pick w c then w.sum else 0)) := sm_eq fun i hi' => kstepD hw h.len hi'
    rw [e, sm_sub, sg]
    have e2 := sm_at (f := fun _ => 0) (g := fun i => if i = pick w c then w.sum else 0) hp fun i _ c => by simp [c]
    rw [e2, sm_zero]
    simp
  · rw [kstepD hw h.len hi']
    have := h.lo i hi'
    have := wt_nn hw i
    split
    · rename_i e
      rw [e]; omega
    · omega
theorem ki_k (hw : Wts w) : ∀ k, KI w (kcred w k)
  | 0 => ki0 hw
  | k + 1 => ki_step hw (ki_k hw k)
/-- below one less than how many there are -/
theorem ki_hi (hw : Wts w) (h : KI w c) {i : Nat} (hi' : i < w.length) : c.getD i 0 < ((w.length : Int) - 1) * w.sum := by
  have a : sm w.length (fun j => if j = i then c.getD i 0 else 1 - w.sum) ≤ sm w.length (fun j => c.getD j 0) := sm_le fun j hj => by
    show (if j = i then c.getD i 0 else 1 - w.sum) ≤ c.getD j 0
    split
    · rename_i e; rw [e]; exact Int.le_refl _
    · have := h.lo j hj; omega
  rw [h.su] at a
  have e := sm_at (f := fun _ => 1 - w.sum) (g := fun j => if j = i then c.getD i 0 else 1 - w.sum) hi' fun j _ q => by simp [q]
  rw [e] at a
  have e3 : sm w.length (fun _ => 1 - w.sum) = (w.length : Int) * (1 - w.sum) := by
    have : ∀ n : Nat, ∀ a : Int, sm n (fun _ => a) = (n : Int) * a := fun n a => by
      induction n with
      | zero => simp [sm]
      | succ k ih => simp only [sm]; rw [ih, Int.natCast_succ, Int.add_mul]; omega
    exact this _ _
  rw [e3, if_pos rfl] at a
  have l2 := hw.l2
  rw [Int.mul_sub, Int.mul_one] at a
  rw [Int.sub_mul, Int.one_mul]
  omega
theorem krow_len (w : List Int) (k : Nat) : (krow w k).length = k := by unfold krow; simp
theorem krow_succ (w : List Int) (k : Nat) : krow w (k + 1) = krow w k ++ [((pick w (kcred w k) : Nat) : Int)] := by
  unfold krow
  rw [List.range_succ, List.map_append]
  rfl
theorem krow_take (w : List Int) {t n : Nat} (h : t ≤ n) : (krow w n).take t = krow w t := by
  unfold krow
  rw [← List.map_take, List.take_range, Nat.min_eq_left h]
/-- each credit is the claimant's lag -/
theorem kcred_lag (hw : Wts w) {i : Nat} (hi' : i < w.length) : ∀ k, (kcred w k).getD i 0 = (k : Int) * wt w i - ((krow w k).count (i : Int) : Nat) * w.sum
  | 0 => by
    show (List.replicate w.length (0 : Int)).getD i 0 = _
    rw [getD_rep]
    simp [krow]
  | k + 1 => by
    show (kstep w (kcred w k)).getD i 0 = _
    rw [kstepD hw (ki_k hw k).len hi', kcred_lag hw hi' k, krow_succ, List.count_append]
    have e : (List.count (i : Int) [((pick w (kcred w k) : Nat) : Int)]) = if i = pick w (kcred w k) then 1 else 0 := by
      by_cases c : i = pick w (kcred w k)
      · rw [if_pos c, ← c]; simp
      · rw [if_neg c]
        exact List.count_eq_zero.mpr (by simp; omega)
    rw [e, Int.natCast_succ, Int.add_mul, Int.one_mul]
    split
    · rw [Int.natCast_add, Int.add_mul]; simp; omega
    · rw [Nat.add_zero]; omega
theorem krow_lag (hw : Wts w) {i t n : Nat} (hi' : i < w.length) (ht : t ≤ n) : lagN w (krow w n) i t = (kcred w t).getD i 0 := by
  rw [kcred_lag hw hi']
  unfold lagN cnt
  rw [krow_take w ht]
/-- behind a round all credits are nought -/
theorem kcred_round (hw : Wts w) {T : Nat} (h : w.sum / gcdL w = (T : Int)) : kcred w T = List.replicate w.length 0 := by
  have K := ki_k hw T
  have hS := hw.ps
  have nn : ∀ i, i < w.length → 0 ≤ (kcred w T).getD i 0 := fun i hi' => by
    obtain ⟨k, hk⟩ := round_due hw h hi'
    have l := K.lo i hi'
    rw [kcred_lag hw hi', hk, ← Int.sub_mul] at l ⊢
    generalize k - ((krow w T).count (i : Int) : Nat) = z at l ⊢
    rcases Int.lt_or_le z 0 with c | c
    · have := Int.mul_le_mul_of_nonneg_right (a := z) (b := -1) (c := w.sum) (by omega) (by omega)
      omega
    · exact Int.mul_nonneg c (by omega)
  have z : ∀ i, i < w.length → (kcred w T).getD i 0 = 0 := fun i hi' => by
    have a := sm_one (f := fun i => (kcred w T).getD i 0) hi' nn
    have b := K.su
    have d := nn i hi'
    omega
  apply List.ext_getElem?
  intro i
  by_cases c : i < w.length
  · have e := z i c
    rw [List.getD_eq_getElem?_getD] at e
    rw [List.getElem?_replicate, if_pos c]
    rw [List.getElem?_eq_getElem (by rw [K.len]; exact c)] at e ⊢
    exact congrArg some e
  · rw [List.getElem?_eq_none (by rw [K.len]; omega), List.getElem?_eq_none (by rw [List.length_replicate]; omega)]
theorem kcred_again (hw : Wts w) {T : Nat} (h : w.sum / gcdL w = (T : Int)) : ∀ j, kcred w (T + j) = kcred w j
  | 0 => kcred_round hw h
  | j + 1 => by
    show kstep w (kcred w (T + j)) = kstep w (kcred w j)
    rw [kcred_again hw h j]
theorem krow_again (hw : Wts w) {T : Nat} (h : w.sum / gcdL w = (T : Int)) : (krow w (2 * T)).drop T = krow w T := by
  apply List.ext_getElem?
  intro i
  rw [List.getElem?_drop]
  unfold krow
  rw [List.getElem?_map, List.getElem?_map]
  by_cases c : i < T
  · rw [List.getElem?_range (by omega), List.getElem?_range c]
    show some ((pick w (kcred w (T + i)) : Nat) : Int) = some ((pick w (kcred w i) : Nat) : Int)
    rw [kcred_again hw h]
  · rw [List.getElem?_eq_none (by simp; omega), List.getElem?_eq_none (by simp; omega)]
theorem krow_mem (hw : Wts w) {n : Nat} {a : Int} (h : a ∈ krow w n) : 0 ≤ a ∧ a < w.length := by
  unfold krow at h
  obtain ⟨j, _, rfl⟩ := List.mem_map.mp h
  have := pick_lt hw (kcred w j)
  omega
end
/-! ### counts far away -/
theorem sm_count {n : Nat} : ∀ {l : List Int}, (∀ a ∈ l, 0 ≤ a ∧ a < n) → sm n (fun i => ((l.count (i : Int) : Nat) : Int)) = l.length
  | [], _ => by
    rw [sm_eq (g := fun _ => 0) fun i _ => by simp, sm_zero]
    rfl
  | a :: l, h => by
    have ih := sm_count (n := n) (l := l) fun x hx => h x (List.mem_cons_of_mem _ hx)
    have ha := h a List.mem_cons_self
    have e := sm_at (f := fun i => ((l.count (i : Int) : Nat) : Int)) (g := fun i => (((a :: l).count (i : Int) : Nat) : Int)) (x := a.toNat) (n := n) (by omega) fun i _ c => by
      rw [List.count_cons_of_ne (by omega)]
    rw [e, ih]
    have e2 : ((a.toNat : Nat) : Int) = a := by omega
    simp only [e2, List.count_cons_self, List.length_cons]
    omega
theorem cntE_sum {w lap : List Int} {T : Nat} (g : GoodRow w T lap) (hT : 0 < T) {t : Int} (ht : 0 ≤ t) : sm w.length (fun i => cntE lap i t) = t := by
  have hl := g.len
  have e : sm w.length (fun i => cntE lap i t) = sm w.length (fun i => t / lap.length * ((lap.count (i : Int) : Nat) : Int) + (((lap.take (t % lap.length).toNat).count (i : Int) : Nat) : Int)) := rfl
  rw [e, sm_add, sm_mul, sm_count g.cl, sm_count fun a ha => g.cl a (List.mem_of_mem_take ha), List.length_take]
  have m0 := Int.emod_nonneg t (b := (lap.length : Int)) (by omega)
  have m1 := Int.emod_lt_of_pos t (b := (lap.length : Int)) (by omega)
  have dm := Int.mul_ediv_add_emod t (lap.length : Int)
  rw [Nat.min_eq_left (by omega), Int.mul_comm]
  omega
theorem cntE_near {w lap : List Int} {T : Nat} (hw : Wts w) (h : w.sum / gcdL w = (T : Int)) (g : GoodRow w T lap) {t : Int} (ht : 0 ≤ t) {i : Nat} (hi' : i < w.length) : -w.sum < t * wt w i - cntE lap i t * w.sum ∧ t * wt w i - cntE lap i t * w.sum < w.sum := by
  have hl := g.len
  have t0 := (round_pos hw h).1
  have z := good_whole hw h g hi'
  have m0 := Int.emod_nonneg t (b := (lap.length : Int)) (by omega)
  have m1 := Int.emod_lt_of_pos t (b := (lap.length : Int)) (by omega)
  have dm := Int.mul_ediv_add_emod t (lap.length : Int)
  have b := g.lag (t % lap.length).toNat i (by omega) hi'
  unfold lagN at z b
  rw [← hl, cnt_all] at z
  have e2 : (((t % lap.length).toNat : Nat) : Int) = t % lap.length := by omega
  rw [e2] at b
  have key : t * wt w i - cntE lap i t * w.sum = t % lap.length * wt w i - cnt lap (t % lap.length).toNat i * w.sum := by
    unfold cntE
    show t * wt w i - (t / lap.length * ((lap.count (i : Int) : Nat) : Int) + cnt lap (t % lap.length).toNat i) * w.sum = _
    generalize ((lap.count (i : Int) : Nat) : Int) = cc at z ⊢
    generalize cnt lap (t % lap.length).toNat i = dd
    generalize t / (lap.length : Int) = q at dm ⊢
    generalize t % (lap.length : Int) = r at dm ⊢
    generalize (lap.length : Int) = L at dm z
    grind
  rw [key]
  exact b
end DtM
set_option Elab.async false
set_option linter.all false
set_option maxRecDepth 100000
set_option maxHeartbeats 4000000
/-! Readings: the law's helpers. -/
namespace Dt
open PySem PySem.Spec PyProof.Rows L2 Evl DtM
section
variable {K : PySem.W.Frag} {x y z u v : V} {G G1 G2 H H' H1 H2 : Hp} {Q : VK} {σ : L2.St} {te ta tb tc td : TE} {E : XK} {D : Ends} {tu tz : TS} {p C dx : Addr} {fs : List (Str × V)} {f : Nat → Dsc} {d : Dsc} {o : HO} {t : TT}
theorem ev_pow {i j : Int} (ha : Ev ta σ G (.int i)) (hb : Ev tb σ G (.int j)) (hc : CPow i j) : Ev (tOp rPowI ta tb) σ G (.int (i ^ j.toNat)) := ev_op ha hb (rv_I hc)
/-- an int from l on, below h -/
def Bt (l h : Int) : Dsc := fun v _ => ∃ r : Int, l ≤ r ∧ r < h ∧ v = .int r
instance (l h : Int) : Up (Bt l h) := ⟨fun _ _ _ _ h => h⟩
theorem ep_draw {a k b : Int} (hk : 0 ≤ k) (hk2 : k ≤ 1000) (hb : 0 < b) (hb2 : b ≤ 1000000000) (h1 : Ev ta σ G (.int a)) (h2 : Ev tb σ G (.int k)) (h3 : Ev tc σ G (.int b)) : EvP (tCall sp__law_draw [] E (tCons ta (tCons tb (tCons tc tNil)))) σ G (Bt 0 b) :=
  ep_call3 h1.p h2.p h3.p fun x y z G1 H1 e1 e2 d1 d2 d3 Q E q => ⟨x, y, z, rfl, a, k, b, d1, d2, d3, hk, hk2, hb, hb2, fun r r0 r1 H2 e => q (.int r) G1 H2 (Gr.of e2 e) ⟨r, r0, r1, rfl⟩⟩
theorem ep_addB {i l h : Int} (ha : Ev ta σ G (.int i)) (hb : EvP tb σ G (Bt l h)) : EvP (tOp rAddI ta tb) σ G (Bt (i + l) (i + h)) :=
  ep_op ha.p hb fun x y G1 H1 e1 e2 d1 ⟨r, r0, r1, ey⟩ Q q => by
    cases d1
    exact ⟨i, r, rfl, ey, q _ G1 H1 (Gr.refl e2) ⟨i + r, by omega, by omega, rfl⟩⟩
/-- an item of a list whose items are all so described -/
theorem ep_ixLs {n : Nat} {l h : Int} [Up d] (ha : EvP ta σ G (Ls n fun _ => d)) (hb : EvP tb σ G (Bt l h)) (hl : 0 ≤ l) (hh : h ≤ n) : EvP (tOp (rIxL K) ta tb) σ G d :=
  ep_op ha hb fun x y G1 H1 e1 e2 ⟨p, xs, ex, hp, hln, hx⟩ ⟨r, r0, r1, ey⟩ Q q => by
    obtain ⟨v, hv⟩ : ∃ v, xs[r.toNat]? = some v := ⟨xs[r.toNat]'(by omega), List.getElem?_eq_getElem (by omega)⟩
    refine ⟨p, xs, r, v, ex, ey, sq_of (e2 p _ hp), ?_, q v G1 H1 (Gr.refl e2) (hx _ v hv)⟩
    have e : r = ((r.toNat : Nat) : Int) := by omega
    rw [e]
    exact atI_nat hv
theorem pu__law_cell_at (h : ∃ (a : Addr) (ns : List Int) (k : Int), x = .ref a ∧ SqL K H a (ns.map V.int) ∧ ns.length ≤ 63 ∧ y = .int k ∧ 0 ≤ k ∧ ∀ z : Int, RetV (.int z) H Q) : t__law_cell_at K (En Q) (start N__law_cell_at [x, y]) H := by
  obtain ⟨a, ns, k, rfl, ha, hl, rfl, hk, q⟩ := h
  refine q_ifb (Ex.refl H) (et_test (ev_lt (ev_var rfl) (ev_lenE (K := K) (ev_var rfl) ha (len_i ns)))) (fun hb H1 r1 => ?_) (fun hb H1 r1 => ?_)
  · have hlt : k < ns.length := of_decide_eq_true hb
    have e : k = ((k.toNat : Nat) : Int) := by omega
    exact s_retV (Ex.refl H1) (ev_ixL (K := K) (j := k.toNat) (ev_var rfl) (ev_int (ev_var rfl) e) (ex_l r1.k ha) (ints_get (by omega))) ((q _).up r1.k).ret
  · exact s_retV (Ex.refl H1) ev_c ((q 0).up r1.k).ret
theorem mod_bd {a b : Int} (h : 0 < b) : 0 ≤ a % b ∧ a % b < b := ⟨Int.emod_nonneg a (by omega), Int.emod_lt_of_pos a h⟩
theorem pu__law_draw (h : ∃ a k b : Int, x = .int a ∧ y = .int k ∧ z = .int b ∧ 0 ≤ k ∧ k ≤ 1000 ∧ 0 < b ∧ b ≤ 1000000000 ∧ ∀ r : Int, 0 ≤ r → r < b → RetV (.int r) H Q) : t__law_draw (En Q) (start N__law_draw [x, y, z]) H := by
  obtain ⟨a, k, b, rfl, rfl, rfl, k0, k1, b0, b1, q⟩ := h
  refine q_ifb (Ex.refl H) (et_test (ev_ge (ev_var rfl) (ev_pow (j := 18) ev_c ev_c ⟨by decide, by decide, by decide⟩))) (fun hb H1 r1 => ?_) (fun hb H1 r1 => ?_)
  · refine q_asgV (Ex.refl H1) (ev_var rfl) fun H2 r2 => ?_
    refine q_forR1 (n := k) (ea_cons (ev_var rfl) ea_nil) (by omega) (fun i σ' H' => ∃ l j : Int, ∃ jv, σ' = [some (.int a), some (.int k), some (.int b), none, some (.int l), jv] ∧ Ex H H') (fun H3 e3 => ⟨a, 0, none, rfl, (r1.k.trans r2.k).trans e3⟩) ?_ ?_
    · rintro i σ' H' hi ⟨l, j, jv, rfl, e⟩
      exact s_asgV (Ex.refl H') (ev_div (ev_var rfl) (ev_var rfl) b0 (by omega)) fun H3 r3 => ⟨_, 0, _, rfl, e.trans r3.k⟩
    · rintro σ' H' ⟨l, j, jv, rfl, e⟩
      have m := mod_bd (a := l) b0
      exact s_retV (Ex.refl H') (ev_mod (ev_var rfl) (ev_var rfl) b0) ((q _ m.1 m.2).up e).ret
  · have m1 := mod_bd (a := a) (b := 1000000007) (by decide)
    refine q_asgV (Ex.refl H1) (ev_mod (ev_mul (ev_add (ev_add (ev_mod (ev_var rfl) ev_c (by decide)) (ev_mul ev_c (ev_var rfl) (cmul_l (by omega) (by omega)))) ev_c) ev_c (cmul_r (by omega) (by omega))) ev_c (by decide)) fun H2 r2 => ?_
    have m2 := mod_bd (a := (a % 1000000007 + 1009 * k + 17) * 69621) (b := 2147483647) (by decide)
    refine q_asgV (Ex.refl H2) (ev_mod (ev_add (ev_add (ev_mul (ev_var rfl) (ev_var rfl) (Or.inl ⟨by omega, by omega⟩)) (ev_mul ev_c (ev_var rfl) (cmul_l (by omega) (by omega)))) ev_c) ev_c (by decide)) fun H3 r3 => ?_
    refine s_retP (d := Bt 0 b) (G := H3) (Ex.refl H3) ((ev_mod (ev_div (ev_mod (ev_mul (ev_var rfl) ev_c (cmul_r (by omega) (by omega))) ev_c (by decide)) ev_c (by decide) (by decide)) (ev_var rfl) b0).p.imp fun v G1 _ ev => ⟨_, (mod_bd b0).1, (mod_bd b0).2, ev⟩) fun v G4 H4 r4 ⟨r, r0, r1', ev⟩ => ?_
    rw [ev]
    exact q r r0 r1' H4 (((r1.k.trans r2.k).trans r3.k).trans r4.k)
theorem all_dvd {w : List Int} {d : Int} (hd : 0 < d) : (((List.range w.length).map fun i => decide (w.getD i 0 % d = 0)).all id) = true ↔ ∀ x ∈ w, d ∣ x := by
  rw [List.all_eq_true]
  constructor
  · intro h x hx
    obtain ⟨i, hi, rfl⟩ := List.mem_iff_getElem.mp hx
    have := h _ (List.mem_map.mpr ⟨i, List.mem_range.mpr hi, rfl⟩)
    have := of_decide_eq_true this
    rw [List.getD_eq_getElem?_getD, List.getElem?_eq_getElem hi] at this
    exact Int.dvd_of_emod_eq_zero this
  · intro h b hb
    obtain ⟨i, hi, rfl⟩ := List.mem_map.mp hb
    have hi' := List.mem_range.mp hi
    exact decide_eq_true (Int.emod_eq_zero_of_dvd (h _ (getD_mem hi')))
theorem q_forR2X {ta : TA} {j : Nat} {lo : Int} {Pn : Int → Prop} (e : Ex G H) (h : EvAP ta σ G (fun vs _ => ∃ n, Pn n ∧ vs = [.int lo, .int n])) (hlo : 0 ≤ lo ∧ lo ≤ 100000) (hn : ∀ n, Pn n → -100000 ≤ n ∧ n ≤ 100000)
    (k : ∀ n H1, Pn n → Ex H H1 → ∃ Pv : Nat → L2.St → Hp → Prop, Pv 0 σ H1 ∧ (∀ (i : Nat) σ' H', lo + (i : Int) < n → Pv i σ' H' → tu { D with nx := Pv (i + 1), ct := Pv (i + 1), bk := tz D } (σ'.set j (some (.int (lo + (i : Int))))) H') ∧ ∀ σ' H', Pv (n - lo).toNat σ' H' → tz D σ' H') : tSeq (tFor (iRng2 ta) (gName j) tu) tz D σ H :=
  h H e _ fun vs G1 H1 r ⟨n, pn, ev⟩ => by
    obtain ⟨Pv, h0, hs, hd⟩ := k n H1 pn r.k
    have := hn n pn
    exact ⟨lo, n, ev, ⟨by omega, by omega, by omega, by omega⟩, for_range (lo := lo) (n := (n - lo).toNat) Pv h0 (fun i σ' H' hi p => hs i σ' H' (by omega) p) hd⟩
def MaxD1 (ns : List Int) : Dsc := fun v _ => ∃ m, m ∈ ns ∧ (∀ y, y ∈ ns → y ≤ m) ∧ v = .int (m + 1)
instance (ns : List Int) : Up (MaxD1 ns) := ⟨fun _ _ _ _ h => h⟩
theorem pu__law_by (h : ∃ w, Wts w ∧ Ints w x H ∧ RetV (.int (gcdL w)) H Q) : t__law_by K (En Q) (start N__law_by [x]) H := by
  obtain ⟨w, hw, ⟨wp, rfl, hwp⟩, k⟩ := h
  have l6 := hw.l6
  have l2 := hw.l2
  have g0 := gcdL_pos hw
  refine q_asgV (Ex.refl H) ev_c fun H1 r1 => ?_
  have hmax : EvP (tOp rAddI (tCB (rMax K) (tCons (tVar 0) tNil)) (tC (.int 1))) [some (.ref wp), some (.int 1), none, none] H1 (MaxD1 w) :=
    ep_op (d1 := MaxD w) (d2 := Is (.int 1)) (ep_max (K := K) (ev_var rfl) (sq_of (r1.k wp _ hwp)) (by omega)) ev_c.p fun x1 y1 G1 H1 e1 e2 ⟨m, hm, hle, ex⟩ ey Q q => by
      cases ey
      exact ⟨m, 1, ex, rfl, q _ G1 H1 (Gr.refl e2) ⟨m, hm, hle, rfl⟩⟩
  obtain ⟨x0, hx0, hp0⟩ := pos_wt hw
  refine q_forR2X (lo := 1) (Pn := fun n => ∃ m, m ∈ w ∧ (∀ y, y ∈ w → y ≤ m) ∧ n = m + 1) (Ex.refl H1) (fun H2 e2 Q q => (eap2 (d1 := Is (.int 1)) (d2 := MaxD1 w) ev_c.p hmax) H2 e2 Q fun vs G2 H3 r2 ⟨a, b, evs, ea, m, hm, hle, eb⟩ => q vs G2 H3 r2 ⟨m + 1, ⟨m, hm, hle, rfl⟩, by rw [evs, ea, eb]⟩) (by omega)
    (fun n ⟨m, hm, _, en⟩ => by have := hw.nn m hm; have := hw.le m hm; omega) fun n H2 ⟨m, hm, hle, en⟩ e2 => ?_
  subst en
  have hm1 := hle x0 hx0
  have hm2 := hw.le m hm
  have gm : gcdL w ≤ m := Int.le_trans (Int.le_of_dvd hp0 (gcdL_dvd hx0)) hm1
  refine ⟨fun j σ' H' => ∃ (h : Int) (b : Option V), σ' = [some (.ref wp), some (.int h), b, none] ∧ Ex H H' ∧ 1 ≤ h ∧ (∀ x ∈ w, h ∣ x) ∧ ∀ d : Int, 1 ≤ d → d ≤ j → (∀ x ∈ w, d ∣ x) → d ≤ h,
    ⟨1, none, rfl, r1.k.trans e2, Int.le_refl 1, fun x _ => Int.one_dvd x, fun d h1 h2 => by omega⟩, ?_, ?_⟩
  · rintro j σ' H' hj ⟨h, b, rfl, e, h1, hd, hg⟩
    have hc := em_lcL (K := K) (tl := tVar 0) (j := 3) (σ := [some (.ref wp), some (.int h), some (.int (1 + (j : Int))), none]) (G := H') (te := tOp rEq (tOp rModI (tVar 3) (tVar 2)) (tC (.int 0))) (fun i => Is (.bl (decide (w.getD i 0 % (1 + (j : Int)) = 0)))) (ev_var rfl) (sq_of (e wp _ hwp)) (by rw [List.length_map]; omega) (fun x => rfl) fun i v G1 e1 hi => ?_
    · rw [List.length_map] at hc
      refine s_ifb (Ex.refl H') (et_B (ev_allB (K := K) hc.ls)) (fun hb H3 r3 => ?_) (fun hb H3 r3 => ?_)
      · have had := (all_dvd (w := w) (d := 1 + (j : Int)) (by omega)).mp hb
        refine s_asgV (Ex.refl H3) (ev_var rfl) fun H4 r4 => ⟨1 + (j : Int), some (.int (1 + (j : Int))), rfl, (e.trans r3.k).trans r4.k, by omega, had, fun d d1 d2 _ => by omega⟩
      · refine ⟨h, some (.int (1 + (j : Int))), rfl, e.trans r3.k, h1, hd, fun d d1 d2 d3 => ?_⟩
        by_cases c : d = 1 + (j : Int)
        · have := (all_dvd (w := w) (d := 1 + (j : Int)) (by omega)).mpr (by rw [← c]; exact d3)
          rw [this] at hb; cases hb
        · exact hg d d1 (by omega) d3
    · obtain ⟨n, hn, rfl⟩ := ints_at hi
      have en : w.getD i 0 = n := by rw [List.getD_eq_getElem?_getD, hn]; rfl
      rw [en]
      exact (ev_eqI (ev_mod (ev_var rfl) (ev_var rfl) (by omega)) ev_c).p
  · rintro σ' H' ⟨h, b, rfl, e, h1, hd, hg⟩
    have e1 : gcdL w ≤ h := hg _ (by omega) (by omega) fun x hx => gcdL_dvd hx
    have e2 : h ≤ gcdL w := Int.le_of_dvd g0 (gcdL_max hd)
    exact s_retV (Ex.refl H') (ev_int (ev_var rfl) (by omega)) (k.up e).ret
/-- the counts of all claimants as a list -/
def cntL (w lap : List Int) (t : Int) : List Int := (List.range w.length).map fun i => cntE lap (i : Nat) t
theorem cntL_len (w lap : List Int) (t : Int) : (cntL w lap t).length = w.length := by unfold cntL; simp
theorem cntL_at {w lap : List Int} {t : Int} {i : Nat} (h : i < w.length) : (cntL w lap t).getD i 0 = cntE lap i t := by
  unfold cntL
  rw [List.getD_eq_getElem?_getD, List.getElem?_map, List.getElem?_range h]
  rfl
theorem cntL_sum {w lap : List Int} {T : Nat} (g : GoodRow w T lap) (hT : 0 < T) {t : Int} (ht : 0 ≤ t) : (cntL w lap t).sum = t := by
  rw [sm_list, cntL_len, sm_eq fun i hi => cntL_at hi]
  exact cntE_sum g hT ht
theorem good_lap {w lap : List Int} {T : Nat} (hw : Wts w) (h : w.sum / gcdL w = (T : Int)) (g : GoodRow w T lap) : LapOk lap := by
  have a := round_pos hw h
  have l6 := hw.l6
  refine ⟨by rw [g.len]; exact a.1, by rw [g.len]; omega, fun x hx => ?_⟩
  have := g.cl x hx
  omega
theorem e10 : (10 : Int) ^ (40 : Int).toNat = FARI := by decide
theorem e109 : (10 : Int) ^ (9 : Int).toNat = 1000000000 := by decide
theorem pu__law_near (h : ∃ (w lap : List Int) (T : Nat) (c : Int), Wts w ∧ w.sum / gcdL w = (T : Int) ∧ GoodRow w T lap ∧ Ints w x H ∧ RunD K lap y H ∧ z = .int c ∧ RetV (.bl true) H Q) : t__law_near K (En Q) (start N__law_near [x, y, z]) H := by
  obtain ⟨w, lap, T, c, hw, hT, g, ⟨wp, rfl, hwp⟩, hy, rfl, k⟩ := h
  have l6 := hw.l6
  have ss := hw.ss
  have ps := hw.ps
  have lok := good_lap hw hT g
  have t0 := (round_pos hw hT).1
  have far : (1000000000 : Int) ≤ FARI := by decide
  refine q_forR1 (n := 4) (ea_cons ev_c ea_nil) (by omega) (fun i σ' H' => ∃ a b d e, σ' = [some (.ref wp), some y, some (.int c), a, b, d, e] ∧ Ex H H') (fun H1 e => ⟨none, none, none, none, rfl, e⟩) ?_ ?_
  · rintro j σ' H' hj ⟨a, b, d, e', rfl, e⟩
    have hdisp : EvP (tOp (rIxL K) (tLst (tCons (tOp rSubI (tOp rPowI (tC (.int 10)) (tC (.int 40))) (tCall sp__law_draw [] E0 (tCons (tVar 2) (tCons (tOp rAddI (tC (.int 4)) (tVar 3)) (tCons (tC (.int 1000)) tNil))))) (tCons (tCall sp__law_draw [] E0 (tCons (tVar 2) (tCons (tOp rAddI (tC (.int 4)) (tVar 3)) (tCons (tOp rPowI (tC (.int 10)) (tC (.int 9))) tNil)))) tNil))) (tOp rModI (tVar 3) (tC (.int 2)))) [some (.ref wp), some y, some (.int c), some (.int (j : Int)), b, d, e'] H' (Bt 0 (FARI + 1)) := by
      have d1 : EvP (tOp rSubI (tOp rPowI (tC (.int 10)) (tC (.int 40))) (tCall sp__law_draw [] E0 (tCons (tVar 2) (tCons (tOp rAddI (tC (.int 4)) (tVar 3)) (tCons (tC (.int 1000)) tNil))))) [some (.ref wp), some y, some (.int c), some (.int (j : Int)), b, d, e'] H' (Bt 0 (FARI + 1)) :=
        ep_op (d1 := Is (.int FARI)) (d2 := Bt 0 1000) (ev_int (ev_pow ev_c ev_c ⟨by decide, by decide, by decide⟩) e10).p (ep_draw (by omega) (by omega) (by omega) (by omega) (ev_var rfl) (ev_add ev_c (ev_var rfl)) ev_c) fun x1 y1 G1 H1 e1 e2 ex ⟨r, r0, r1, ey⟩ Q q => by
          cases ex
          exact ⟨FARI, r, rfl, ey, q _ G1 H1 (Gr.refl e2) ⟨FARI - r, by omega, by omega, rfl⟩⟩
      have d2 : EvP (tCall sp__law_draw [] E0 (tCons (tVar 2) (tCons (tOp rAddI (tC (.int 4)) (tVar 3)) (tCons (tOp rPowI (tC (.int 10)) (tC (.int 9))) tNil)))) [some (.ref wp), some y, some (.int c), some (.int (j : Int)), b, d, e'] H' (Bt 0 (FARI + 1)) :=
        (ep_draw (b := 1000000000) (by omega) (by omega) (by omega) (by omega) (ev_var rfl) (ev_add ev_c (ev_var rfl)) (ev_int (ev_pow ev_c ev_c ⟨by decide, by decide, by decide⟩) e109)).imp fun v G1 _ ⟨r, r0, r1, ev⟩ => ⟨r, r0, by omega, ev⟩
      have d3 : EvP (tOp rModI (tVar 3) (tC (.int 2))) [some (.ref wp), some y, some (.int c), some (.int (j : Int)), b, d, e'] H' (Bt 0 2) :=
        (ev_mod (ev_var rfl) ev_c (by decide)).p.imp fun v G1 _ ev => ⟨_, (mod_bd (by decide)).1, (mod_bd (by decide)).2, ev⟩
      refine ep_ixLs (K := K) (n := 2) (em_lst (f := fun _ => Bt 0 (FARI + 1)) (eap2 d1 d2) fun vs G1 ⟨a, b, evs, da, db⟩ => ⟨by rw [evs]; rfl, by decide, fun i x hi => ?_⟩).ls d3 (by omega) (by omega)
      rw [evs] at hi
      cases i with
      | zero => cases hi; exact da
      | succ i => cases i with
        | zero => cases hi; exact db
        | succ i => cases hi
    refine q_asgP (Ex.refl H') hdisp fun tv G1 H1 r1 ⟨t, t1, t2, etv⟩ => ?_
    subst etv
    have e1 := e.trans r1.k
    have hc := em_lcR (ta := tCons (tCB (rLenS K) (tCons (tVar 0) tNil)) tNil) (j := 6) (n := (w.length : Int)) (σ := [some (.ref wp), some y, some (.int c), some (.int (j : Int)), some (.int t), d, e']) (G := H1) (te := tCall (sp_count_at K) [] E0 (tCons (tVar 1) (tCons (tVar 6) (tCons (tVar 4) tNil)))) (fun i => Is (.int ((cntL w lap t).getD i 0))) (ea_cons (ev_lenE (K := K) (ev_var rfl) (sq_of (e1 wp _ hwp)) (len_i w)) ea_nil) (by omega) (fun x => rfl) fun i G2 e2 hi => ?_
    · rw [Int.toNat_natCast, ← cntL_len w lap t] at hc
      refine q_asgP (Ex.refl H1) (ls_to_ints hc.ls) fun fv G2 H2 r2 df => ?_
      have e2 := e1.trans r2.k
      obtain ⟨fp, rfl, hfp⟩ := up_ df r2.s
      refine q_skip (Ex.refl H2) (et_test (ev_bl (ev_neI (ev_sum (K := K) (ev_var rfl) (sq_of hfp)) (ev_var rfl)) (by rw [cntL_sum g t0 t1, decide_eq_true rfl]; rfl))) fun H3 r3 => ?_
      have e3 := e2.trans r3.k
      refine s_forR1 (n := (w.length : Int)) (ea_cons (ev_lenE (K := K) (ev_var rfl) (sq_of (e3 wp _ hwp)) (len_i w)) ea_nil) (by omega) (fun i σ' H' => ∃ wh, σ' = [some (.ref wp), some y, some (.int c), some (.int (j : Int)), some (.int t), some (.ref fp), wh] ∧ Ex H3 H') (fun H4 e4 => ⟨_, rfl, e4⟩) ?_ ?_
      · rintro i σ' H4 hi ⟨wh, rfl, e4⟩
        have hi' : i < w.length := by omega
        have wb := wt_bd hw hi'
        have nr := cntE_near hw hT g t1 hi'
        have e34 := e3.trans e4
        refine s_skip (Ex.refl H4) (et_test (ev_bl (ev_ge (ev_abs (ev_sub (ev_mul (ev_var rfl) (ev_ixL (K := K) (ev_var rfl) (ev_var rfl) (sq_of (e34 wp _ hwp)) (wt_get hi')) (cmul_r (by omega) (by omega))) (ev_mul (ev_ixL (K := K) (ev_var rfl) (ev_var rfl) (sq_of ((r3.k.trans e4) fp _ hfp)) (ints_get (by rw [cntL_len]; exact hi'))) (ev_sum (K := K) (ev_var rfl) (sq_of (e34 wp _ hwp))) (cmul_r (by omega) (by omega))))) (ev_sum (K := K) (ev_var rfl) (sq_of (e34 wp _ hwp)))) (decide_eq_false ?_))) fun H5 r5 => ⟨_, rfl, e4.trans r5.k⟩
        rw [cntL_at hi']
        split <;> omega
      · rintro σ' H4 ⟨wh, rfl, e4⟩
        exact ⟨_, _, _, _, rfl, e3.trans e4⟩
    · have hi' : i < w.length := by omega
      rw [cntL_at hi']
      exact (ev_call3 (d1 := RunD K lap) (ep_var (v := y) rfl (up_ hy (e1.trans e2))) (ev_var (v := .int (i : Int)) rfl).p (ev_var (v := .int t) rfl).p fun x1 y1 z1 G3 H3 a1 a2 d1 d2 d3 Q E q => ⟨x1, y1, z1, rfl, lap, i, t, lok, up_ d1 a2, d2, d3, by omega, by omega, t1, by omega, q⟩).p
  · rintro σ' H' ⟨a, b, d, e', rfl, e⟩
    exact s_retV (Ex.refl H') ev_c (k.up e).ret
end
end Dt
set_option Elab.async false
set_option linter.all false
set_option maxRecDepth 100000
set_option maxHeartbeats 4000000
/-! Readings: the law's look at the keeper. -/
namespace Dt
open PySem PySem.Spec PyProof.Rows L2 Evl DtM
section
variable {K : PySem.W.Frag} {x y z u v : V} {G G1 G2 H H' H1 H2 : Hp} {Q : VK} {σ : L2.St} {te ta tb tc td : TE} {E : XK} {D : Ends} {tu tz : TS} {p C dx : Addr} {fs : List (Str × V)} {f : Nat → Dsc} {d : Dsc} {o : HO} {t : TT}
/-- name = [e for x in range(n)], whatever e does -/
theorem q_lcRaw {ta : TA} {i j : Nat} {n : Int} (h : EvA ta σ H [.int n]) (hn : 0 ≤ n ∧ n ≤ 40000) (hw : ∀ x, wipe ((wipe σ [j]).set j (some x)) [j] = wipe σ [j])
    (k : ∀ H1 Dl, Ex H H1 → H1 Dl = none → ∃ Pv : Nat → Hp → Prop, Pv 0 (upd H1 Dl (.lst [])) ∧ (∀ (m : Nat) H', m < n.toNat → Pv m H' → te ((wipe σ [j]).set j (some (.int (m : Int)))) H' fun y H4 => ∃ acc, H4 Dl = some (.lst acc) ∧ acc.length < sizeLine ∧ Pv (m + 1) (upd H4 Dl (.lst (acc ++ [y])))) ∧
      ∀ H', Pv n.toNat H' → tz D (σ.set i (some (.ref Dl))) H') : tSeq (tAsg (tLc (iRng1 ta) (gName j) tYes te [j]) (gName i)) tz D σ H :=
  h H (Ex.refl H) _ fun H1 e1 => ⟨n, rfl, by omega, by omega, fun Dl hD => by
    obtain ⟨Pv, h0, hs, hd⟩ := k H1 Dl e1 hD
    refine lc_range (lo := 0) (n := n.toNat) Pv h0 (fun m H' hm p => ?_) hd
    have e0 : (0 : Int) + (m : Int) = (m : Int) := Int.zero_add _
    show wipe ((wipe σ [j]).set j (some (.int ((0 : Int) + (m : Int))))) [j] = wipe σ [j] ∧ te ((wipe σ [j]).set j (some (.int ((0 : Int) + (m : Int))))) H' fun y H4 => ∃ acc, H4 Dl = some (.lst acc) ∧ acc.length < sizeLine ∧ Pv (m + 1) (upd H4 Dl (.lst (acc ++ [y])))
    rw [e0]
    exact ⟨hw _, hs m H' hm p⟩⟩
theorem sqT_updL {a l : Addr} {xs ys : List V} (h : H l = some (.lst ys)) (s : SqT K H a xs) : SqT K (upd H l o) a xs := by
  rcases s with (s | ⟨u, s⟩) | s
  · exact .inl (.inl (by rw [upd_ne (ne_of s h (by intro z; cases z))]; exact s))
  · exact .inl (.inr ⟨u, by rw [upd_ne (ne_of s h (by intro z; cases z))]; exact s⟩)
  · exact .inr s
theorem keeper_upd {w c row : List Int} {p rl dl l : Addr} {ys : List V} (k : KeeperAt K C w c row p rl dl H) (h : H l = some (.lst ys)) (h1 : rl ≠ l) (h2 : dl ≠ l) : KeeperAt K C w c row p rl dl (upd H l o) := by
  obtain ⟨dx, nw, ow, dv, hp, ⟨_, en, hn⟩, ⟨_, xs, eo, ho, hl, hf⟩, hr, hd, hdv, rd⟩ := k
  refine ⟨dx, nw, ow, dv, ?_, ⟨_, en, sqT_updL h hn⟩, ⟨_, xs, eo, sqT_updL h ho, hl, fun i x hi => ?_⟩, ?_, ?_, hdv, rd⟩
  · rw [upd_ne (ne_of hp h (by intro z; cases z))]; exact hp
  · obtain ⟨q, e, hq⟩ := hf i x hi
    exact ⟨q, e, sqT_updL h hq⟩
  · rw [upd_ne h1]; exact hr
  · rw [upd_ne h2]; exact hd
theorem keeper_ex {w c row : List Int} {p rl dl : Addr} (k : KeeperAt K C w c row p rl dl H) (e : Ex H H1) : KeeperAt K C w c row p rl dl H1 := by
  obtain ⟨dx, nw, ow, dv, hp, hn, ho, hr, hd, hdv, rd⟩ := k
  exact ⟨dx, nw, ow, dv, e p _ hp, up_ hn e, up_ ho e, e rl _ hr, e dl _ hd, hdv, rd⟩
theorem lap_krow {w : List Int} (hw : Wts w) {n : Nat} (h0 : 0 < n) (h1 : n ≤ 10000) : LapOk (krow w n) := by
  have l6 := hw.l6
  refine ⟨by rw [krow_len]; exact h0, by rw [krow_len]; exact h1, fun a ha => ?_⟩
  have := krow_mem hw ha
  omega
theorem within_tests {S a b m : Int} (hS : 0 < S) (h1 : -S < a) (h2 : b < m * S) : ¬ ((fr a S).1 + (fr a S).2 ≤ 0) ∧ ¬ (m * (fr b S).2 ≤ (fr b S).1) := by
  have pa := fr_pos (a := a) hS
  have pb := fr_pos (a := b) hS
  have ma := fr_mul (a := a) hS
  have mb := fr_mul (a := b) hS
  constructor
  · intro c
    have := Int.mul_le_mul_of_nonneg_right c (Int.le_of_lt hS)
    rw [Int.add_mul, ma, Int.zero_mul, Int.mul_comm _ S, ← Int.add_mul] at this
    have := Int.mul_pos (show 0 < a + S by omega) pa
    omega
  · intro c
    have := Int.mul_le_mul_of_nonneg_right c (Int.le_of_lt hS)
    rw [mb] at this
    have e : m * (fr b S).2 * S = m * S * (fr b S).2 := by rw [Int.mul_assoc, Int.mul_comm (fr b S).2, ← Int.mul_assoc]
    rw [e] at this
    have := Int.mul_lt_mul_of_pos_right h2 pb
    omega
theorem pu__law_keeper_right (h : ∃ (w : List Int) (T : Nat), Wts w ∧ w.sum / gcdL w = (T : Int) ∧ Ints w x H ∧ y = .int T ∧ RetV (.bl true) H Q) : t__law_keeper_right K C (En Q) (start N__law_keeper_right [x, y]) H := by
  obtain ⟨w, T, hw, hT, hx, rfl, k⟩ := h
  obtain ⟨wp, rfl, hwp⟩ := id hx
  have hS := wts_sm hw
  have s0 := hS.1
  have l6 := hw.l6
  have l2 := hw.l2
  obtain ⟨t0, t1⟩ := round_pos hw hT
  -- keeper = Credits(list(weights))
  refine el_list (K := K) (ev_var rfl) (sq_of hwp) H (Ex.refl H) _ fun q H1 n1 e1 hq => fun p dx np ndx nex => ⟨.ref p, .ref q, rfl, p, dx, w, rfl, upd_same, hw, ⟨q, rfl, ?_⟩, fun H2 rl dl nrl ndl rd but kp => ⟨rfl, ?_⟩⟩
  · rw [upd_ne (ne_of_none hq np), upd_ne (ne_of_none hq ndx)]; exact hq
  have eH2 : Ex H H2 := fun b o hb => by
    have hb1 := e1 b o hb
    refine but b o ?_ (ne_of_none hb1 np)
    rw [upd_ne (ne_of_none hb1 np), upd_ne (ne_of_none hb1 ndx)]; exact hb1
  have nH : ∀ l, (upd (upd H1 dx (.own p)) p (.ins C dx [])) l = none → H l = none := fun l hl => by
    by_cases c : l = p
    · rw [c, upd_same] at hl; cases hl
    · rw [upd_ne c] at hl
      by_cases c2 : l = dx
      · rw [c2, upd_same] at hl; cases hl
      · rw [upd_ne c2] at hl
        exact none_back e1 hl
  have hp0 : H p = none := none_back e1 np
  have hrl0 : H rl = none := nH rl nrl
  have hdl0 : H dl = none := nH dl ndl
  -- row = [keeper.step() for turn in range(2 * turns)]
  have h2T : (2 : Int) * (T : Int) = ((2 * T : Nat) : Int) := by omega
  refine q_lcRaw (n := (2 : Int) * (T : Int)) (ea_cons (ev_mul ev_c (ev_var rfl) (cmul_l (by omega) (by omega))) ea_nil) (by omega) (fun x => rfl) fun H3 Dl e3 hD => ?_
  have kp3 := keeper_ex kp e3
  have hD2 : H Dl = none := none_back (eH2.trans e3) hD
  obtain ⟨_, _, _, _, hp3, _, _, hrl3, hdl3, _, _⟩ := id kp3
  have cp : p ≠ Dl := ne_of_none hp3 hD
  have crl : rl ≠ Dl := ne_of_none hrl3 hD
  have cdl : dl ≠ Dl := ne_of_none hdl3 hD
  refine ⟨fun i H' => Ex H H' ∧ KeeperAt K C w (kcred w i) (krow w i) p rl dl H' ∧ H' Dl = some (.lst ((krow w i).map V.int)), ⟨ex_upd (eH2.trans e3) hD2, ?_, upd_same⟩, (fun i H' hi ⟨e, kk, hl⟩ => ?_), fun H4 ⟨e4, kk, hl⟩ => ?_⟩
  · obtain ⟨dx', nw, ow, dv, hp, hn, ho, hr, hd, hdv, rd'⟩ := kp3
    exact ⟨dx', nw, ow, dv, by rw [upd_ne cp]; exact hp, up_ hn (ex_new hD), up_ ho (ex_new hD), by rw [upd_ne crl]; exact hr, by rw [upd_ne cdl]; exact hd, hdv, rd'⟩
  · obtain ⟨dx', nw, ow, dv, hp', _⟩ := id kk
    refine ⟨.ref p, rfl, p, dx', _, rfl, hp', kfs_step, .ref p, rfl, p, rl, dl, w, kcred w i, krow w i, rfl, hw, (ki_k hw i).len, by rw [krow_len]; omega, kk, fun H5 but5 kk5 => ⟨(krow w i).map V.int, but5 Dl _ hl (fun e => cp e.symm) (fun e => crl e.symm) (fun e => cdl e.symm), sz_lt (by rw [List.length_map, krow_len]; omega), ?_, ?_, ?_⟩⟩
    · exact fun b o hb => by
        rw [upd_ne (ne_of_none hb hD2)]
        exact but5 b o (e b o hb) (ne_of_none hb hp0) (ne_of_none hb hrl0) (ne_of_none hb hdl0)
    · refine keeper_upd ?_ (but5 Dl _ hl (fun e => cp e.symm) (fun e => crl e.symm) (fun e => cdl e.symm)) crl cdl
      rw [krow_succ]
      exact kk5
    · rw [upd_same, krow_succ, List.map_append]
      rfl
  rw [show ((2 : Int) * (T : Int)).toNat = 2 * T by omega] at hl
  -- most = len(weights) - 1
  have hwp4 := e4 wp _ hwp
  refine q_asgV (Ex.refl H4) (ev_sub (ev_lenE (K := K) (ev_var rfl) (sq_of hwp4) (len_i w)) ev_c) fun H5 r5 => ?_
  have hl5 := r5.k Dl _ hl
  have e5 := e4.trans r5.k
  have lagT : ∀ i, i < w.length → lagN w (krow w T) i (krow w T).length = 0 := fun i hi => by
    rw [krow_len, krow_lag hw hi (Nat.le_refl T), kcred_round hw hT, getD_rep]
  have lag2T : ∀ i, i < w.length → lagN w (krow w (2 * T)) i (krow w (2 * T)).length = 0 := fun i hi => by
    rw [krow_len, krow_lag hw hi (Nat.le_refl _), show 2 * T = T + T by omega, kcred_again hw hT, kcred_round hw hT, getD_rep]
  have lagB : ∀ n i t, i < w.length → t < (krow w n).length → -w.sum < lagN w (krow w n) i t ∧ lagN w (krow w n) i t < ((w.length : Int) - 1) * w.sum := fun n i t hi ht => by
    rw [krow_len] at ht
    rw [krow_lag hw hi (by omega)]
    exact ⟨(ki_k hw t).lo i hi, ki_hi hw (ki_k hw t) hi⟩
  have mS : w.sum ≤ ((w.length : Int) - 1) * w.sum := by
    have := Int.mul_le_mul_of_nonneg_right (a := 1) (b := (w.length : Int) - 1) (c := w.sum) (by omega) (by omega)
    omega
  have mS2 : ((w.length : Int) - 1) * w.sum ≤ 300 * w.sum := Int.mul_le_mul_of_nonneg_right (by omega) (by omega)
  have hmem : ∀ n, ∀ a ∈ krow w n, a < w.length := fun n a ha => (krow_mem hw ha).2
  refine q_skip (Ex.refl H5) (et_is (et_or (a := false) (b := false) (et_test (ev_bl (ev_opLL (el_take (K := K) (ev_var rfl) (sq_of hl5) (ev_var rfl)) (el_drop (K := K) (ev_var rfl) (sq_of hl5) (ev_var rfl)) fun q1 q2 H6 h1 h2 _ => rv_neL (K := K) (sq_of h1) (sq_of h2)) ?_)) fun _ => et_test (ev_bl (ev_notN (x := .non)
    (ev_call3 (d1 := Ints w) (d2 := RunD K (krow w (2 * T))) (d3 := Bd K w.sum (((w.length : Int) - 1) * w.sum)) (ep_var (v := .ref wp) rfl (up_ hx e5)) (en_pr el_nil.p (ep_var (v := .ref Dl) rfl ⟨Dl, rfl, hl5⟩)) (en_pr (ep_k1 (K := K) hS (ev_var rfl)) ev_c.p) fun x1 y1 z1 G3 H3 a1 a2 d1 d2 d3 Q E q => ⟨x1, y1, z1, rfl, w, krow w (2 * T), _, hw, lap_krow hw (by omega) (by omega), hmem _, up_ d1 a2, up_ d2 a2, by omega, mS2, up_ d3 a2, lag2T, fun i t hi ht => by have := lagB (2 * T) i t hi ht; omega, q⟩)) (by rw [decide_eq_true rfl]; rfl))) rfl) fun H6 r6 => ?_
  · rw [krow_take w (by omega), krow_again hw hT, decide_eq_true rfl]; rfl
  have e6 := e5.trans r6.k
  have hl6 := r6.k Dl _ hl5
  -- for ends in lags_of(weights, ([], row[:turns]))
  have htake : EvP (tTup (tCons (tLst tNil) (tCons (tSl (rSlL K) (tVar 3) tNoPart (tPart (tVar 1))) tNil))) [some (.ref wp), some (.int (T : Nat)), some (.ref p), some (.ref Dl), some (.int ((w.length : Int) - 1)), none, none] H6 (RunD K (krow w T)) := by
    have := (el_take (K := K) (σ := [some (.ref wp), some (.int (T : Nat)), some (.ref p), some (.ref Dl), some (.int ((w.length : Int) - 1)), none, none]) (G := H6) (ta := tVar 3) (tb := tVar 1) (ev_var rfl) (sq_of hl6) (ev_var rfl)).p
    rw [krow_take w (show T ≤ 2 * T by omega)] at this
    exact en_pr el_nil.p this
  have hlags : EvP (tCall (sp_lags_of K) [] E0 (tCons (tVar 0) (tCons (tTup (tCons (tLst tNil) (tCons (tSl (rSlL K) (tVar 3) tNoPart (tPart (tVar 1))) tNil))) tNil))) [some (.ref wp), some (.int (T : Nat)), some (.ref p), some (.ref Dl), some (.int ((w.length : Int) - 1)), none, none] H6 (Ls w.length fun _ => WithinD K w.sum (-w.sum) (((w.length : Int) - 1) * w.sum)) :=
    ep_call2 (d1 := Ints w) (d2 := RunD K (krow w T)) (ep_var (v := .ref wp) rfl (up_ hx e6)) htake fun x1 y1 G3 H3 a1 a2 d1 d2 Q E q => ⟨x1, y1, rfl, G3, w, krow w T, _, _, a2, hw, lap_krow hw t0 (by omega), hmem _, d1, d2, by omega, by omega, lagT, fun i t hi ht => lagB T i t hi ht, q⟩
  refine hlags H6 (Ex.refl H6) _ fun lv G7 H7 r7 ⟨lp, xs, elv, hlp, hln, hxs⟩ => ?_
  refine ⟨lp, elv, ⟨xs, sq_of (r7.s lp _ hlp)⟩, for_list (K := K) (a := lp) (xs := xs) (fun i σ' H' => ∃ ev, σ' = [some (.ref wp), some (.int (T : Nat)), some (.ref p), some (.ref Dl), some (.int ((w.length : Int) - 1)), ev, none] ∧ Ex H7 H') ⟨none, rfl, Ex.refl H7⟩ (fun i σ' H' _ ⟨_, _, e⟩ => sq_of (e lp _ (r7.s lp _ hlp))) ?_ ?_⟩
  · rintro i v σ' H' hi ⟨ev, rfl, e⟩
    obtain ⟨q, a, b, v1, v2, v3, v4, rfl, hq, ⟨fa, rfl, hfa⟩, ⟨fb, rfl, hfb⟩, al, bh⟩ := up_ (hxs i v hi) (r7.s.trans e)
    have wt := within_tests (S := w.sum) (a := a) (b := b) (m := (w.length : Int) - 1) s0 al bh
    have sb := sm_2 (a := b) hS
    refine s_skip (Ex.refl H') (et_is (et_or (a := false) (b := false) (et_test (ev_bl (ev_neS (ev_ixT0 (K := K) (ev_var rfl) hq) ev_c) (by rw [decide_eq_true rfl]; rfl))) fun _ => et_is (et_or (a := false) (b := false) (et_test (ev_bl (ev_le (ev_add (ev_ixT0 (K := K) (ev_ixT1 (K := K) (ev_var rfl) hq) hfa) (ev_ixT1 (K := K) (ev_ixT1 (K := K) (ev_var rfl) hq) hfa)) ev_c) (decide_eq_false wt.1))) fun _ => et_test (ev_bl (ev_ge (ev_ixT0 (K := K) (ev_ixT (K := K) (j := 3) (ev_var rfl) ev_c hq rfl) hfb) (ev_mul (ev_var rfl) (ev_ixT1 (K := K) (ev_ixT (K := K) (j := 3) (ev_var rfl) ev_c hq rfl) hfb) (cmul_r (by omega) (by omega)))) (decide_eq_false wt.2))) rfl) rfl) fun H8 r8 => ⟨_, rfl, e.trans r8.k⟩
  · rintro σ' H' ⟨ev, rfl, e⟩
    show tRet (tC (.bl true)) (En Q) ([] : L2.St) H'
    exact s_retV (Ex.refl H') ev_c (k.up ((e6.trans r7.k).trans e)).ret
end
end Dt
set_option Elab.async false
set_option linter.all false
set_option maxRecDepth 100000
set_option maxHeartbeats 4000000
/-! Readings: the law. -/
namespace Dt
open PySem PySem.Spec PyProof.Rows L2 Evl DtM
def IntD : Dsc := fun v _ => ∃ z : Int, v = .int z
instance : Up IntD := ⟨fun _ _ _ _ h => h⟩
def LenD (p : List Int → Prop) : Dsc := fun v _ => ∃ row, p row ∧ v = .int row.length
instance (p : List Int → Prop) : Up (LenD p) := ⟨fun _ _ _ _ h => h⟩
section
variable {K : PySem.W.Frag} {x y z u v : V} {G G1 G2 H H' H1 H2 : Hp} {Q : VK} {σ : L2.St} {te ta tb tc td : TE} {E : XK} {D : Ends} {tu tz : TS} {p C dx : Addr} {fs : List (Str × V)} {f : Nat → Dsc} {d d1 d2 : Dsc} {o : HO} {t : TT}
theorem ep_pr0 [Up d1] [Up d2] (h : EvP te σ G (Pr K d1 d2)) : EvP (tOp (rIxT K) te (tC (.int 0))) σ G d1 :=
  ep_op h ev_c.p fun x y G1 H1 e1 e2 ⟨p, a, b, ex, hp, da, db⟩ ey Q q => ⟨p, _, 0, a, ex, ey, ex_t e2 hp, rfl, q a G1 H1 (Gr.refl e2) da⟩
theorem ep_pr1 [Up d1] [Up d2] (h : EvP te σ G (Pr K d1 d2)) : EvP (tOp (rIxT K) te (tC (.int 1))) σ G d2 :=
  ep_op h ev_c.p fun x y G1 H1 e1 e2 ⟨p, a, b, ex, hp, da, db⟩ ey Q q => ⟨p, _, 1, b, ex, ey, ex_t e2 hp, rfl, q b G1 H1 (Gr.refl e2) db⟩
theorem ep_len {P : List Int → Prop} (h : EvP te σ G (ExI P)) : EvP (tCB (rLenS K) (tCons te tNil)) σ G (LenD P) :=
  ep_cb (eap1 h) fun vs G1 H1 e1 e2 ⟨x, ev, row, hr, p, ex, hp⟩ Q q => ⟨p, row.map V.int, by rw [ev, ex], Or.inl (sq_of (e2 p _ hp)), by rw [len_i]; exact q _ G1 H1 (Gr.refl e2) ⟨row, hr, rfl⟩⟩
theorem ep_neNil (h : EvP te σ G (Ints [])) : Ev (tOp (rNeD K) te (tLst tNil)) σ G (.bl false) :=
  (ep_op (d := Is (.bl false)) h el_nil.p fun x y G1 H1 e1 e2 ⟨p, ex, hp⟩ ⟨q, ey, hq⟩ Q k => by
    rw [ex, ey]
    refine rv_neL (K := K) (ns := []) (ms := []) (sq_of (e2 p _ hp)) (sq_of (e2 q _ hq)) H1 (Ex.refl H1) Q fun H2 e3 => k _ G1 H2 (Gr.of e2 e3) ?_
    show _ = _
    rfl).val
theorem q_setX {l : Addr} {xs : List V} {n : Int} [Up d] (e : Ex G H) (hl : H l = some (.lst xs)) (h : EvP te σ G d) (ho : Ev ta σ H (.ref l)) (hi : EvP tb σ G (Bt 0 n)) (hn : n ≤ xs.length) (k : ∀ v (j : Nat) G1 H1, j < xs.length → Gr G H G1 H1 → d v G1 → tz D σ (upd H1 l (.lst (xs.set j v)))) :
    tSeq (tAsg te (gSub ta tb rSetL)) tz D σ H := h H e _ fun v G1 H1 r1 dv => ho H1 r1.k _ fun H2 e2 => (hi.mono r1.g) H2 (r1.s.trans e2) _ fun iv G3 H3 r3 ⟨r, r0, r9, ei⟩ =>
  ⟨l, xs, r, r.toNat, rfl, ei, ((r1.k.trans e2).trans r3.k) l _ hl, by
    have er : r = ((r.toNat : Nat) : Int) := by omega
    conv => lhs; rw [er]
    exact ixN_nat (by omega), k v r.toNat G3 H3 (by omega) ((r1.trans (Gr.of r1.s e2)).trans r3) (up_ dv r3.g)⟩
theorem ep_cell {a : Addr} {ns : List Int} {k : Int} (hs : SqL K G a (ns.map V.int)) (hl : ns.length ≤ 63) (hk : 0 ≤ k) (h1 : Ev ta σ G (.ref a)) (h2 : Ev tb σ G (.int k)) : EvP (tCall (sp__law_cell_at K) [] E (tCons ta (tCons tb tNil))) σ G IntD :=
  ep_call2 h1.p h2.p fun x y G1 H1 e1 e2 d1 d2 Q E q => ⟨x, y, rfl, a, ns, k, d1, ex_l (e1.trans e2) hs, hl, d2, hk, fun z H2 e3 => q _ G1 H2 (Gr.of e2 e3) ⟨z, rfl⟩⟩
/-- a list of ints of a range -/
theorem bts_ints {l h : Int} : ∀ {xs : List V}, (∀ (i : Nat) (x : V), xs[i]? = some x → ∃ r : Int, l ≤ r ∧ r < h ∧ x = V.int r) → ∃ ws : List Int, xs = ws.map V.int ∧ ∀ r ∈ ws, l ≤ r ∧ r < h
  | [], _ => ⟨[], rfl, fun r h => by cases h⟩
  | x :: xs, hx => by
    obtain ⟨ws, e, hw⟩ := bts_ints (xs := xs) fun i y hy => hx (i + 1) y hy
    obtain ⟨r, r0, r1, ex⟩ := hx 0 x rfl
    refine ⟨r :: ws, by rw [ex, e]; rfl, fun s hs => ?_⟩
    rcases List.mem_cons.mp hs with rfl | hs
    · exact ⟨r0, r1⟩
    · exact hw s hs
theorem sum_le_n {ws : List Int} {m : Int} (h : ∀ r ∈ ws, r ≤ m) : ws.sum ≤ ws.length * m := by
  induction ws with
  | nil => simp
  | cons a ws ih =>
    have := ih fun r hr => h r (List.mem_cons_of_mem _ hr)
    have := h a List.mem_cons_self
    rw [List.sum_cons, List.length_cons, Int.natCast_succ, Int.add_mul]
    omega
theorem wts_make {ws : List Int} {j : Nat} {v : Int} (h2 : 2 ≤ ws.length) (h6 : ws.length ≤ 6) (hr : ∀ r ∈ ws, 0 ≤ r ∧ r < 30) (hj : j < ws.length) (v1 : 1 ≤ v) (v2 : v < 10) : Wts (ws.set j v) := by
  have hm : ∀ r ∈ ws.set j v, 0 ≤ r ∧ r < 30 := fun r hr' => by
    rcases List.mem_or_eq_of_mem_set hr' with h | h
    · exact hr r h
    · omega
  have hv : v ∈ ws.set j v := List.mem_set hj v
  refine ⟨by rw [List.length_set]; exact h2, by rw [List.length_set]; exact h6, fun r hr => (hm r hr).1, fun r hr => by have := hm r hr; omega, ?_, ?_⟩
  · have : ∀ l : List Int, (∀ x ∈ l, 0 ≤ x) → v ∈ l → v ≤ l.sum := fun l => by
      induction l with
      | nil => intro _ h; cases h
      | cons a l ih =>
        intro h hv
        rw [List.sum_cons]
        have a0 := h a List.mem_cons_self
        rcases List.mem_cons.mp hv with rfl | hv
        · have := sum_nn fun x hx => h x (List.mem_cons_of_mem _ hx)
          omega
        · have := ih (fun x hx => h x (List.mem_cons_of_mem _ hx)) hv
          omega
    have := this _ (fun r hr => (hm r hr).1) hv
    omega
  · have := sum_le_n (ws := ws.set j v) (m := 29) fun r hr => by have := hm r hr; omega
    rw [List.length_set] at this
    omega
theorem cut_one (xs : List V) : cutV xs none (some (1 : Int)) = xs.take 1 := cut_take xs 1
theorem pu_law (h : ∃ (a : Addr) (ns : List Int), x = .ref a ∧ SqL K H a (ns.map V.int) ∧ ns.length ≤ 63 ∧ ∀ H', Q (.bl true) H') : t_law K (En Q) (start N_law [x]) H := by
  obtain ⟨a, ns, rfl, hs, hl, k⟩ := h
  refine q_asgH (Ex.refl H) el_nil fun al H1 n1 r1 hal => ?_
  -- the two weights
  refine q_forR1 (n := 2) (ea_cons ev_c ea_nil) (by omega)
    (fun j σ' H' => ∃ G' xs s2 s3 s4 s5 s6, Gr H H G' H' ∧ σ' = [some (.ref a), some (.ref al), s2, s3, s4, s5, s6, none, none, none, none] ∧ G' al = none ∧ H' al = some (.lst xs) ∧ xs.length = j ∧ ∀ (i : Nat) (v : V), xs[i]? = some v → Pr K (ExI Wts) IntD v G')
    (fun H2 e2 => ⟨H, [], none, none, none, none, none, r1.trans (Gr.of r1.s e2), rfl, n1, e2 al _ hal, rfl, fun i v h => by cases h⟩) ?_ ?_
  · rintro j σ' H' hj ⟨G', xs, s2, s3, s4, s5, s6, r, rfl, ma, ha, hlx, hxs⟩
    refine q_asgP r.s (ep_cell (K := K) (k := 2 * (j : Int)) (ex_l r.g hs) hl (by omega) (ev_var rfl) (ev_mul ev_c (ev_var rfl) (cmul_l (by omega) (by omega)))) fun cv G2 H2 r2 ⟨cz, ecv⟩ => ?_
    subst ecv
    refine q_asgP r2.s (ep_addB (i := 2) ev_c (ep_draw (k := 1) (b := 5) (by omega) (by omega) (by omega) (by omega) (ev_var rfl) ev_c ev_c)) fun mv G3 H3 r3 ⟨m, m0, m1, emv⟩ => ?_
    subst emv
    have hmost : EvP (tOp (rIxL K) (tLst (tCons (tC (.int 4)) (tCons (tC (.int 10)) (tCons (tC (.int 30)) tNil)))) (tCall sp__law_draw [] E0 (tCons (tVar 3) (tCons (tC (.int 2)) (tCons (tC (.int 3)) tNil))))) [some (.ref a), some (.ref al), some (.int (j : Int)), some (.int cz), some (.int m), s5, s6, none, none, none, none] G3 (Bt 1 31) := by
      have h3 : EvP (tLst (tCons (tC (.int 4)) (tCons (tC (.int 10)) (tCons (tC (.int 30)) tNil)))) [some (.ref a), some (.ref al), some (.int (j : Int)), some (.int cz), some (.int m), s5, s6, none, none, none, none] G3 (Ls 3 fun _ => Bt 1 31) := by
        refine (el_lst (ea_cons ev_c (ea_cons ev_c (ea_cons ev_c ea_nil))) (by show 3 ≤ 100000; decide)).p.imp fun v G4 _ ⟨p, ev, hp⟩ => ⟨p, _, ev, hp, rfl, fun i x hi => ?_⟩
        match i, hi with
        | 0, hi => cases hi; exact ⟨4, by decide, by decide, rfl⟩
        | 1, hi => cases hi; exact ⟨10, by decide, by decide, rfl⟩
        | 2, hi => cases hi; exact ⟨30, by decide, by decide, rfl⟩
        | i + 3, hi => cases hi
      exact ep_ixLs (K := K) (n := 3) (l := 0) (h := 3) h3 (ep_draw (by omega) (by omega) (by omega) (by omega) (ev_var rfl) ev_c ev_c) (by omega) (by omega)
    refine q_asgP r3.s hmost fun ov G4 H4 r4 ⟨mo, mo0, mo1, eov⟩ => ?_
    subst eov
    have r04 := ((r.trans r2).trans r3).trans r4
    have m4 := (r2.trans (r3.trans r4)).hidd ha ma
    -- weights
    have hc := em_lcR (ta := tCons (tVar 4) tNil) (j := 10) (n := m) (σ := [some (.ref a), some (.ref al), some (.int (j : Int)), some (.int cz), some (.int m), some (.int mo), s6, none, none, none, none]) (G := G4) (te := tCall sp__law_draw [] E0 (tCons (tVar 3) (tCons (tOp rAddI (tC (.int 5)) (tVar 10)) (tCons (tVar 5) tNil)))) (fun _ => Bt 0 30) (ea_cons (ev_var rfl) ea_nil) (by omega) (fun x => rfl) fun i G5 e5 hi => ?_
    · refine q_asgM r4.s hc fun wl ws0 G5 H5 n5 r5 m5 hwl hln hws0 => ?_
      obtain ⟨ws, ews, hws⟩ := bts_ints (l := 0) (h := 30) hws0
      subst ews
      rw [List.length_map] at hln
      have r05 := r04.trans r5
      have ha5 := (r2.trans (r3.trans (r4.trans r5))).k al _ ha
      have m5a := r5.hidd ((r2.trans (r3.trans r4)).k al _ ha) m4
      have nwl : H wl = none := none_back r04.k n5
      -- one weight above nought
      refine q_setX (n := m) r5.s hwl (ep_addB (i := 1) ev_c (ep_draw (k := 4) (b := 9) (by omega) (by omega) (by omega) (by omega) (ev_var rfl) ev_c ev_c)) (ev_var rfl)
        (ep_op (d := Bt 0 m) (d1 := Bt 0 720) (d2 := Is (.int m)) (ep_draw (by omega) (by omega) (by omega) (by omega) (ev_var rfl) ev_c ev_c) (ev_var rfl).p fun x1 y1 G6 H6 e1 e2 ⟨r, r0, r1, ex⟩ ey Q q => by
          cases ey
          exact ⟨r, m, ex, rfl, by omega, q _ G6 H6 (Gr.refl e2) ⟨r % m, (mod_bd (by omega)).1, (mod_bd (by omega)).2, rfl⟩⟩) (by rw [List.length_map]; omega) fun v jj G6 H6 hjj r6 ⟨vz, v1, v2, ev⟩ => ?_
      subst ev
      rw [List.length_map] at hjj
      rw [← List.map_set]
      have hW : Wts (ws.set jj vz) := wts_make (by omega) (by omega) hws hjj (by omega) (by omega)
      have m6 := r6.hidd hwl m5
      have m6a := r6.hidd ha5 m5a
      have wal : al ≠ wl := ne_of_none ((r2.trans (r3.trans r4)).k al _ ha) n5
      have r07 := ((r05.trans r6).mut (o := .lst ((ws.set jj vz).map V.int)) nwl m6).add nwl upd_same
      have ha7 : (upd H6 wl (.lst ((ws.set jj vz).map V.int))) al = some (.lst xs) := by rw [upd_ne wal]; exact r6.k al _ ha5
      have hg7 : (upd G6 wl (.lst ((ws.set jj vz).map V.int))) wl = some (.lst ((ws.set jj vz).map V.int)) := upd_same
      have ma7 : (upd G6 wl (.lst ((ws.set jj vz).map V.int))) al = none := by rw [upd_ne wal]; exact m6a
      have e67 := ex_new (G := G6) (p := wl) (o := .lst ((ws.set jj vz).map V.int)) m6
      have hxs7 : ∀ (i : Nat) (v : V), xs[i]? = some v → Pr K (ExI Wts) IntD v (upd G6 wl (.lst ((ws.set jj vz).map V.int))) := fun i v hi => up_ (hxs i v hi) ((r2.trans (r3.trans (r4.trans (r5.trans r6)))).g.trans e67)
      generalize upd H6 wl (.lst ((ws.set jj vz).map V.int)) = H7 at *
      generalize upd G6 wl (.lst ((ws.set jj vz).map V.int)) = G7 at *
      -- asked.append((weights, cell))
      refine s_appP (K := K) r07.s ha7 (ev_var rfl) (en_pr (K := K) (d1 := ExI Wts) (d2 := IntD) (ep_var (v := .ref wl) rfl ⟨_, hW, wl, rfl, hg7⟩) (ep_cell (K := K) (k := 2 * (j : Int) + 1) (ex_l r07.g hs) hl (by omega) (ev_var rfl) (ev_add (ev_mul ev_c (ev_var rfl) (cmul_l (by omega) (by omega))) ev_c))) (by omega) fun v G8 H8 r8 dv => ?_
      have m8 := r8.hidd ha7 ma7
      refine ⟨G8, xs ++ [v], _, _, _, _, _, (r07.trans r8).mut n1 m8, rfl, m8, upd_same, by rw [List.length_append, hlx]; rfl, fun i x hi => ?_⟩
      by_cases c : i < xs.length
      · rw [List.getElem?_append_left c] at hi
        exact up_ (hxs7 i x hi) r8.g
      · rw [List.getElem?_append_right (by omega)] at hi
        cases q0 : i - xs.length with
        | zero => rw [q0] at hi; have ev := Option.some.inj hi; subst ev; exact dv
        | succ n => rw [q0] at hi; cases hi
    · exact (ep_draw (b := mo) (by omega) (by omega) (by omega) (by omega) (ev_var rfl) (ev_add ev_c (ev_var rfl)) (ev_var rfl)).imp fun v G6 _ ⟨r, r0, r1, ev⟩ => ⟨r, r0, by omega, ev⟩
  · rintro σ' H' ⟨G', xs, s2, s3, s4, s5, s6, r, rfl, ma, ha, hlx, hxs⟩
    have hlx2 : xs.length = 2 := hlx
    have hone : EvL (tSl (rSlL K) (tVar 1) tNoPart (tPart (tC (.int 1)))) [some (.ref a), some (.ref al), s2, s3, s4, s5, s6, none, none, none, none] H' (xs.take 1) := by
      have := el_sl (K := K) (σ := [some (.ref a), some (.ref al), s2, s3, s4, s5, s6, none, none, none, none]) (H := H') (te := tVar 1) (ev_var rfl) eo_none (eo_some (te := tC (.int 1)) ev_c) (sq_of ha)
      rw [cut_one] at this
      exact this
    have hcat : EvL (tOp rCat (tVar 1) (tSl (rSlL K) (tVar 1) tNoPart (tPart (tC (.int 1))))) [some (.ref a), some (.ref al), s2, s3, s4, s5, s6, none, none, none, none] H' (xs ++ xs.take 1) := fun H1 e1 Q q =>
      (ev_var (v := .ref al) rfl) H1 e1 _ fun H2 e2 => hone H2 (e1.trans e2) _ fun p H3 _ e3 hp => ⟨al, p, xs, _, rfl, rfl, ((e1.trans e2).trans e3) al _ ha, hp, by rw [List.length_take]; show _ ≤ sizeLine; exact sz_of (by omega), fun l hl => q l _ (none_back (e2.trans e3) hl) ((e2.trans e3).trans (Ex.new hl)) upd_same⟩
    refine q_forNL (K := K) hcat (fun lp i σ' H2 => ∃ b2 b3 b4 b5 b6 b7 b8 b9 b10, σ' = [some (.ref a), some (.ref al), b2, b3, b4, b5, b6, b7, b8, b9, b10] ∧ Ex G' H2 ∧ H2 lp = some (.lst (xs ++ xs.take 1)))
      (fun lp H2 _ e2 hp => ⟨_, _, _, _, _, _, _, _, _, rfl, r.s.trans e2, hp⟩) (fun lp i σ' H2 _ ⟨_, _, _, _, _, _, _, _, _, _, _, hp⟩ => sq_of hp) ?_ ?_
    · rintro lp i iv σ' H2 hi ⟨b2, b3, b4, b5, b6, b7, b8, b9, b10, rfl, e2, hlp⟩
      have hin : ∃ i' : Nat, xs[i']? = some iv := by
        have := List.mem_of_getElem? hi
        rcases List.mem_append.mp this with h | h
        · exact List.getElem?_of_mem h
        · exact List.getElem?_of_mem (List.mem_of_mem_take h)
      obtain ⟨i', hi'⟩ := hin
      obtain ⟨ip, wv, cv, rfl, hip, ⟨w, hw, hwv⟩, ⟨cz, rfl⟩⟩ := up_ (hxs i' iv hi') e2
      refine ⟨ip, [wv, .int cz], rfl, hip, rfl, _, [_], rfl, _, [], rfl, rfl, ?_⟩
      obtain ⟨wp, rfl, hwp⟩ := id hwv
      have hS := wts_sm hw
      have g0 := gcdL_pos hw
      have g1 := gcdL_le hw
      have ss := hw.ss
      obtain ⟨T, hT⟩ : ∃ T : Nat, w.sum / gcdL w = (T : Int) := ⟨(w.sum / gcdL w).toNat, by have := Int.ediv_nonneg (Int.le_of_lt hw.ps) (Int.le_of_lt g0); omega⟩
      obtain ⟨t0, t1⟩ := round_pos hw hT
      -- turns
      refine q_asgV (Ex.refl H2) (ev_int (ev_div (ev_sum (K := K) (ev_var rfl) (sq_of hwp)) (ev_call1 (ep_var (v := .ref wp) rfl hwv) fun x1 G3 H3 a1 a2 d1 Q E q => ⟨x1, rfl, w, hw, up_ d1 a2, q⟩) g0 (by omega)) hT) fun H3 r3 => ?_
      have hw3 := up_ hwv r3.k
      -- word, running = dealt_for_ever(weights, ((1, 1), True))
      have hbnd : ∀ {σ : L2.St} {G : Hp}, EvP (tTup (tCons (tTup (tCons (tC (.int 1)) (tCons (tC (.int 1)) tNil))) (tCons (tC (.bl true)) tNil))) σ G (Bd K w.sum w.sum) := fun {σ G} => en_pr (ep_k1' (K := K) hS (by omega) ev_c) ev_c.p
      have hdeal : EvP (tCall (sp_dealt_for_ever K) [] E0 (tCons (tVar 6) (tCons (tTup (tCons (tTup (tCons (tC (.int 1)) (tCons (tC (.int 1)) tNil))) (tCons (tC (.bl true)) tNil))) tNil))) [some (.ref a), some (.ref al), b2, some (.int cz), b4, b5, some (.ref wp), some (.int (T : Int)), b8, b9, b10] H3 (Pr K (Is (.str "running")) (Pr K (Ints []) (ExI (GoodRow w T)))) :=
        ep_call2 (d1 := Ints w) (d2 := Bd K w.sum w.sum) (ep_var (v := .ref wp) rfl hw3) hbnd fun x1 y1 G4 H4 a1 a2 d1 d2 Q E q => ⟨x1, y1, rfl, G4, w, T, a2, hw, hT, d1, d2, q⟩
      refine hdeal H3 (Ex.refl H3) _ fun dv G4 H4 r4 ⟨dp, w0, rv, edv, hdp, ew0, drv⟩ => ?_
      cases ew0
      refine ⟨dp, [_, rv], edv, ex_t r4.s hdp, rfl, _, [rv], rfl, rv, [], rfl, rfl, ?_⟩
      obtain ⟨rp, hv, lv, rfl, hrp, dh, ⟨lap, good, dlap⟩⟩ := up_ drv r4.s
      have lok := good_lap hw hT good
      have hrun : RunD K lap (.ref rp) H4 := ⟨rp, hv, lv, rfl, hrp, dh, dlap⟩
      obtain ⟨lq, rfl, hlq⟩ := id dlap
      have hw4 := up_ hw3 r4.k
      have e4 := r3.k.trans r4.k
      have hmem : ∀ a ∈ lap, a < w.length := fun a ha => (good.cl a ha).2
      have lagT : ∀ i, i < w.length → lagN w lap i lap.length = 0 := fun i hi => by rw [good.len]; exact good_whole hw hT good hi
      have lagB : ∀ i t, i < w.length → t < lap.length → -w.sum < lagN w lap i t ∧ lagN w lap i t < w.sum := fun i t hi ht => good.lag t i (by have := good.len; omega) hi
      refine q_skip (Ex.refl H4) (et_is (et_or (a := false) (b := false) (et_test (ev_bl (ev_neS (ev_var rfl) ev_c) (by rw [decide_eq_true rfl]; rfl))) fun _ => et_is (et_or (a := false) (b := false) (et_test (ev_bl (ev_neI (ev_lenE (K := K) (ev_ixT1 (K := K) (ev_var rfl) hrp) (sq_of hlq) (len_i lap)) (ev_var rfl)) (by rw [good.len, decide_eq_true rfl]; rfl))) fun _ => et_not (a := true) (et_B
        (ev_call3 (d1 := Ints w) (d2 := RunD K lap) (ep_var (v := .ref wp) rfl hw4) (ep_var (v := .ref rp) rfl hrun) (ev_var (v := .int cz) rfl).p fun x1 y1 z1 G5 H5 a1 a2 d1 d2 d3 Q E q => ⟨x1, y1, z1, rfl, w, lap, T, cz, hw, hT, good, up_ d1 a2, up_ d2 a2, d3, q⟩))) rfl) rfl) fun H5 r5 => ?_
      have hw5 := up_ hw4 r5.k
      have hrun5 := up_ hrun r5.k
      have hleast : ∀ {G : Hp} {σ : L2.St}, σ[9]? = some (some (.ref rp)) → Ex H5 G → EvP (tCall (sp_least_of K) [] E0 (tCons (tVar 9) tNil)) σ G (Pr K (Ints []) (ExI (RootP lap))) := fun h9 e => ep_call1 (d1 := RunD K lap) (ep_var h9 (up_ hrun5 e)) fun x1 G6 H6 a1 a2 d1 Q E q => ⟨x1, rfl, G6, lap, a2, lok, d1, q⟩
      refine q_skip (Ex.refl H5) (et_is (et_or (a := false) (b := false) (et_test (ev_bl (ev_notN (x := .non) (ev_call3 (d1 := Ints w) (d2 := RunD K lap) (d3 := Bd K w.sum w.sum) (ep_var (v := .ref wp) rfl hw5) (ep_var (v := .ref rp) rfl hrun5) hbnd fun x1 y1 z1 G6 H6 a1 a2 d1 d2 d3 Q E q => ⟨x1, y1, z1, rfl, w, lap, w.sum, hw, lok, hmem, up_ d1 a2, up_ d2 a2, by have := hw.ps; omega, by have := hw.ps; omega, up_ d3 a2, lagT, lagB, q⟩)) (by rw [decide_eq_true rfl]; rfl))) fun _ => et_test (ep_neNil (K := K) (ep_pr0 (K := K) (hleast rfl (Ex.refl H5))))) rfl) fun H6 r6 => ?_
      have hw6 := up_ hw5 r6.k
      refine s_skip (Ex.refl H6) (et_is (et_or (a := false) (b := false) (et_test (ev_bl (ev_neI (EvP.val (v := .int 0) (ep_op (d1 := Is (.int (T : Int))) (d2 := LenD (RootP lap)) (ev_var rfl).p (ep_len (K := K) (ep_pr1 (K := K) (hleast rfl r6.k))) fun x1 y1 G7 H7 a1 a2 ex ⟨row, ⟨n, n0, nd, er⟩, ey⟩ Q q => ?_)) ev_c) (by rw [decide_eq_true rfl]; rfl))) fun _ => et_not (a := true) (et_B
        (ev_call2 (d1 := Ints w) (ep_var (v := .ref wp) rfl hw6) (ev_var (v := .int (T : Int)) rfl).p fun x1 y1 G7 H7 a1 a2 d1 d2 Q E q => ⟨x1, y1, rfl, w, T, hw, hT, up_ d1 a2, d2, q⟩))) rfl) fun H7 r7 => ⟨_, _, _, _, _, _, _, _, _, rfl, ((e2.trans e4).trans (r5.k.trans r6.k)).trans r7.k, ((e4.trans (r5.k.trans r6.k)).trans r7.k) lp _ hlp⟩
      cases ex
      subst ey er
      have nl : n ≤ lap.length := Nat.le_of_dvd lok.1 nd
      have el : (lap.take n).length = n := by rw [List.length_take, Nat.min_eq_left nl]
      refine ⟨_, _, rfl, rfl, by rw [el]; omega, ?_⟩
      refine q _ G7 H7 (Gr.refl a2) ?_
      show V.int _ = V.int 0
      rw [el, ← good.len]
      have := Nat.mod_eq_zero_of_dvd nd
      congr 1
      omega
    · rintro lp σ' H2 ⟨b2, b3, b4, b5, b6, b7, b8, b9, b10, rfl, e2, hlp⟩
      exact s_retV (Ex.refl H2) ev_c fun v G2 H3 _ ev => by
        cases ev
        exact k H3
end
end Dt
set_option Elab.async false
set_option linter.all false
set_option maxRecDepth 100000
set_option maxHeartbeats 4000000
/-! Printed by gen2.py: each def keeps its promise. -/
namespace Dt
open PySem PySem.Spec PyProof.Rows L2 Evl DtM
section
variable {P : Program} {w : World} {K : PySem.W.Frag} {mg : Str → Option Value} {base : Heap} {aNOUGHT aONE cPlan cCredits : Addr}
/-! ### common -/
theorem ok_common (T : Txt K mg aNOUGHT aONE)  {f : Addr} {fd : FuncData} (F : FnD K "common" "common" st_common f fd) : FnOk P w K mg base CX0 1 f fd ["one", "other"] (sp_common) :=
  F.ok sc_common len2 (fun cdv A outer s H vs Q E hr h => ⟨_, PSs.nox (dv_common T hr), by
    obtain ⟨_, _, rfl, h⟩ := h
    exact pu_common h⟩)
theorem cal_common (T : Txt K mg aNOUGHT aONE)  {f : Addr} (D : ∃ fd, FnD K "common" "common" st_common f fd) (hm : mg "common" = some (.ref f)) : Cal P w K mg base 1 "common" ["one", "other"] (sp_common) := by
  obtain ⟨fd, F⟩ := D
  exact ⟨⟨f, fd, ok_common T F, hm, F.kp, F.bindsN fun _ _ _ _ _ _ us hl => match us, hl with | [_, _], _ => rfl⟩⟩
/-! ### is_whole -/
theorem ok_is_whole (T : Txt K mg aNOUGHT aONE)  {f : Addr} {fd : FuncData} (F : FnD K "is_whole" "is_whole" st_is_whole f fd) : FnOk P w K mg base CX0 1 f fd ["thing"] (sp_is_whole) :=
  F.ok sc_is_whole len1 (fun cdv A outer s H vs Q E hr h => ⟨_, PSs.nox (dv_is_whole T hr), by
    obtain ⟨_, rfl, h⟩ := h
    exact pu_is_whole h⟩)
theorem cal_is_whole (T : Txt K mg aNOUGHT aONE)  {f : Addr} (D : ∃ fd, FnD K "is_whole" "is_whole" st_is_whole f fd) (hm : mg "is_whole" = some (.ref f)) : Cal P w K mg base 1 "is_whole" ["thing"] (sp_is_whole) := by
  obtain ⟨fd, F⟩ := D
  exact ⟨⟨f, fd, ok_is_whole T F, hm, F.kp, F.bindsN fun _ _ _ _ _ _ us hl => match us, hl with | [_], _ => rfl⟩⟩
/-! ### is_fraction -/
theorem ok_is_fraction (T : Txt K mg aNOUGHT aONE) (c_common : Cal P w K mg base 1 "common" ["one", "other"] (sp_common)) (c_is_whole : Cal P w K mg base 1 "is_whole" ["thing"] (sp_is_whole)) {f : Addr} {fd : FuncData} (F : FnD K "is_fraction" "is_fraction" st_is_fraction f fd) : FnOk P w K mg base CX0 2 f fd ["thing"] (sp_is_fraction K) :=
  F.ok sc_is_fraction len1 (fun cdv A outer s H vs Q E hr h => ⟨_, PSs.nox (dv_is_fraction T c_common c_is_whole hr), by
    obtain ⟨_, rfl, h⟩ := h
    exact pu_is_fraction h⟩)
theorem cal_is_fraction (T : Txt K mg aNOUGHT aONE) (c_common : Cal P w K mg base 1 "common" ["one", "other"] (sp_common)) (c_is_whole : Cal P w K mg base 1 "is_whole" ["thing"] (sp_is_whole)) {f : Addr} (D : ∃ fd, FnD K "is_fraction" "is_fraction" st_is_fraction f fd) (hm : mg "is_fraction" = some (.ref f)) : Cal P w K mg base 2 "is_fraction" ["thing"] (sp_is_fraction K) := by
  obtain ⟨fd, F⟩ := D
  exact ⟨⟨f, fd, ok_is_fraction T c_common c_is_whole F, hm, F.kp, F.bindsN fun _ _ _ _ _ _ us hl => match us, hl with | [_], _ => rfl⟩⟩
/-! ### made -/
theorem ok_made (T : Txt K mg aNOUGHT aONE) (c_common : Cal P w K mg base 1 "common" ["one", "other"] (sp_common)) {f : Addr} {fd : FuncData} (F : FnD K "made" "made" st_made f fd) : FnOk P w K mg base CX0 2 f fd ["top", "bottom"] (sp_made K) :=
  F.ok sc_made len2 (fun cdv A outer s H vs Q E hr h => ⟨_, PSs.nox (dv_made T c_common hr), by
    obtain ⟨_, _, rfl, h⟩ := h
    exact pu_made h⟩)
theorem cal_made (T : Txt K mg aNOUGHT aONE) (c_common : Cal P w K mg base 1 "common" ["one", "other"] (sp_common)) {f : Addr} (D : ∃ fd, FnD K "made" "made" st_made f fd) (hm : mg "made" = some (.ref f)) : Cal P w K mg base 2 "made" ["top", "bottom"] (sp_made K) := by
  obtain ⟨fd, F⟩ := D
  exact ⟨⟨f, fd, ok_made T c_common F, hm, F.kp, F.bindsN fun _ _ _ _ _ _ us hl => match us, hl with | [_, _], _ => rfl⟩⟩
/-! ### plus -/
theorem ok_plus (T : Txt K mg aNOUGHT aONE) (c_made : Cal P w K mg base 2 "made" ["top", "bottom"] (sp_made K)) {f : Addr} {fd : FuncData} (F : FnD K "plus" "plus" st_plus f fd) : FnOk P w K mg base CX0 3 f fd ["one", "other"] (sp_plus K) :=
  F.ok sc_plus len2 (fun cdv A outer s H vs Q E hr h => ⟨_, PSs.nox (dv_plus T c_made hr), by
    obtain ⟨_, _, rfl, h⟩ := h
    exact pu_plus h⟩)
theorem cal_plus (T : Txt K mg aNOUGHT aONE) (c_made : Cal P w K mg base 2 "made" ["top", "bottom"] (sp_made K)) {f : Addr} (D : ∃ fd, FnD K "plus" "plus" st_plus f fd) (hm : mg "plus" = some (.ref f)) : Cal P w K mg base 3 "plus" ["one", "other"] (sp_plus K) := by
  obtain ⟨fd, F⟩ := D
  exact ⟨⟨f, fd, ok_plus T c_made F, hm, F.kp, F.bindsN fun _ _ _ _ _ _ us hl => match us, hl with | [_, _], _ => rfl⟩⟩
/-! ### minus -/
theorem ok_minus (T : Txt K mg aNOUGHT aONE) (c_made : Cal P w K mg base 2 "made" ["top", "bottom"] (sp_made K)) {f : Addr} {fd : FuncData} (F : FnD K "minus" "minus" st_minus f fd) : FnOk P w K mg base CX0 3 f fd ["one", "other"] (sp_minus K) :=
  F.ok sc_minus len2 (fun cdv A outer s H vs Q E hr h => ⟨_, PSs.nox (dv_minus T c_made hr), by
    obtain ⟨_, _, rfl, h⟩ := h
    exact pu_minus h⟩)
theorem cal_minus (T : Txt K mg aNOUGHT aONE) (c_made : Cal P w K mg base 2 "made" ["top", "bottom"] (sp_made K)) {f : Addr} (D : ∃ fd, FnD K "minus" "minus" st_minus f fd) (hm : mg "minus" = some (.ref f)) : Cal P w K mg base 3 "minus" ["one", "other"] (sp_minus K) := by
  obtain ⟨fd, F⟩ := D
  exact ⟨⟨f, fd, ok_minus T c_made F, hm, F.kp, F.bindsN fun _ _ _ _ _ _ us hl => match us, hl with | [_, _], _ => rfl⟩⟩
/-! ### less -/
theorem ok_less (T : Txt K mg aNOUGHT aONE)  {f : Addr} {fd : FuncData} (F : FnD K "less" "less" st_less f fd) : FnOk P w K mg base CX0 1 f fd ["one", "other"] (sp_less K) :=
  F.ok sc_less len2 (fun cdv A outer s H vs Q E hr h => ⟨_, PSs.nox (dv_less T hr), by
    obtain ⟨_, _, rfl, h⟩ := h
    exact pu_less h⟩)
theorem cal_less (T : Txt K mg aNOUGHT aONE)  {f : Addr} (D : ∃ fd, FnD K "less" "less" st_less f fd) (hm : mg "less" = some (.ref f)) : Cal P w K mg base 1 "less" ["one", "other"] (sp_less K) := by
  obtain ⟨fd, F⟩ := D
  exact ⟨⟨f, fd, ok_less T F, hm, F.kp, F.bindsN fun _ _ _ _ _ _ us hl => match us, hl with | [_, _], _ => rfl⟩⟩
/-! ### unsigned -/
theorem ok_unsigned (T : Txt K mg aNOUGHT aONE)  {f : Addr} {fd : FuncData} (F : FnD K "unsigned" "unsigned" st_unsigned f fd) : FnOk P w K mg base CX0 1 f fd ["one"] (sp_unsigned K) :=
  F.ok sc_unsigned len1 (fun cdv A outer s H vs Q E hr h => ⟨_, PSs.nox (dv_unsigned T hr), by
    obtain ⟨_, rfl, h⟩ := h
    exact pu_unsigned h⟩)
theorem cal_unsigned (T : Txt K mg aNOUGHT aONE)  {f : Addr} (D : ∃ fd, FnD K "unsigned" "unsigned" st_unsigned f fd) (hm : mg "unsigned" = some (.ref f)) : Cal P w K mg base 1 "unsigned" ["one"] (sp_unsigned K) := by
  obtain ⟨fd, F⟩ := D
  exact ⟨⟨f, fd, ok_unsigned T F, hm, F.kp, F.bindsN fun _ _ _ _ _ _ us hl => match us, hl with | [_], _ => rfl⟩⟩
/-! ### floor_of -/
theorem ok_floor_of (T : Txt K mg aNOUGHT aONE)  {f : Addr} {fd : FuncData} (F : FnD K "floor_of" "floor_of" st_floor_of f fd) : FnOk P w K mg base CX0 1 f fd ["one"] (sp_floor_of K) :=
  F.ok sc_floor_of len1 (fun cdv A outer s H vs Q E hr h => ⟨_, PSs.nox (dv_floor_of T hr), by
    obtain ⟨_, rfl, h⟩ := h
    exact pu_floor_of h⟩)
theorem cal_floor_of (T : Txt K mg aNOUGHT aONE)  {f : Addr} (D : ∃ fd, FnD K "floor_of" "floor_of" st_floor_of f fd) (hm : mg "floor_of" = some (.ref f)) : Cal P w K mg base 1 "floor_of" ["one"] (sp_floor_of K) := by
  obtain ⟨fd, F⟩ := D
  exact ⟨⟨f, fd, ok_floor_of T F, hm, F.kp, F.bindsN fun _ _ _ _ _ _ us hl => match us, hl with | [_], _ => rfl⟩⟩
/-! ### ceiling_of -/
theorem ok_ceiling_of (T : Txt K mg aNOUGHT aONE)  {f : Addr} {fd : FuncData} (F : FnD K "ceiling_of" "ceiling_of" st_ceiling_of f fd) : FnOk P w K mg base CX0 1 f fd ["one"] (sp_ceiling_of K) :=
  F.ok sc_ceiling_of len1 (fun cdv A outer s H vs Q E hr h => ⟨_, PSs.nox (dv_ceiling_of T hr), by
    obtain ⟨_, rfl, h⟩ := h
    exact pu_ceiling_of h⟩)
theorem cal_ceiling_of (T : Txt K mg aNOUGHT aONE)  {f : Addr} (D : ∃ fd, FnD K "ceiling_of" "ceiling_of" st_ceiling_of f fd) (hm : mg "ceiling_of" = some (.ref f)) : Cal P w K mg base 1 "ceiling_of" ["one"] (sp_ceiling_of K) := by
  obtain ⟨fd, F⟩ := D
  exact ⟨⟨f, fd, ok_ceiling_of T F, hm, F.kp, F.bindsN fun _ _ _ _ _ _ us hl => match us, hl with | [_], _ => rfl⟩⟩
/-! ### are_weights -/
theorem ok_are_weights (T : Txt K mg aNOUGHT aONE) (c_is_whole : Cal P w K mg base 1 "is_whole" ["thing"] (sp_is_whole)) {f : Addr} {fd : FuncData} (F : FnD K "are_weights" "are_weights" st_are_weights f fd) : FnOk P w K mg base CX0 2 f fd ["thing"] (sp_are_weights) :=
  F.ok sc_are_weights len1 (fun cdv A outer s H vs Q E hr h => ⟨_, PSs.nox (dv_are_weights T c_is_whole hr), by
    obtain ⟨_, rfl, h⟩ := h
    exact pu_are_weights h⟩)
theorem cal_are_weights (T : Txt K mg aNOUGHT aONE) (c_is_whole : Cal P w K mg base 1 "is_whole" ["thing"] (sp_is_whole)) {f : Addr} (D : ∃ fd, FnD K "are_weights" "are_weights" st_are_weights f fd) (hm : mg "are_weights" = some (.ref f)) : Cal P w K mg base 2 "are_weights" ["thing"] (sp_are_weights) := by
  obtain ⟨fd, F⟩ := D
  exact ⟨⟨f, fd, ok_are_weights T c_is_whole F, hm, F.kp, F.bindsN fun _ _ _ _ _ _ us hl => match us, hl with | [_], _ => rfl⟩⟩
/-! ### is_spell -/
theorem ok_is_spell (T : Txt K mg aNOUGHT aONE) (c_are_weights : Cal P w K mg base 2 "are_weights" ["thing"] (sp_are_weights)) (c_is_whole : Cal P w K mg base 1 "is_whole" ["thing"] (sp_is_whole)) {f : Addr} {fd : FuncData} (F : FnD K "is_spell" "is_spell" st_is_spell f fd) : FnOk P w K mg base CX0 3 f fd ["thing"] (sp_is_spell K) :=
  F.ok sc_is_spell len1 (fun cdv A outer s H vs Q E hr h => ⟨_, PSs.nox (dv_is_spell T c_are_weights c_is_whole hr), by
    obtain ⟨_, rfl, h⟩ := h
    exact pu_is_spell h⟩)
theorem cal_is_spell (T : Txt K mg aNOUGHT aONE) (c_are_weights : Cal P w K mg base 2 "are_weights" ["thing"] (sp_are_weights)) (c_is_whole : Cal P w K mg base 1 "is_whole" ["thing"] (sp_is_whole)) {f : Addr} (D : ∃ fd, FnD K "is_spell" "is_spell" st_is_spell f fd) (hm : mg "is_spell" = some (.ref f)) : Cal P w K mg base 3 "is_spell" ["thing"] (sp_is_spell K) := by
  obtain ⟨fd, F⟩ := D
  exact ⟨⟨f, fd, ok_is_spell T c_are_weights c_is_whole F, hm, F.kp, F.bindsN fun _ _ _ _ _ _ us hl => match us, hl with | [_], _ => rfl⟩⟩
/-! ### check_spells -/
theorem ok_check_spells (T : Txt K mg aNOUGHT aONE) (c_is_spell : Cal P w K mg base 3 "is_spell" ["thing"] (sp_is_spell K)) {f : Addr} {fd : FuncData} (F : FnD K "check_spells" "check_spells" st_check_spells f fd) : FnOk P w K mg base CX0 4 f fd ["thing"] (sp_check_spells K) :=
  F.ok sc_check_spells len1 (fun cdv A outer s H vs Q E hr h => ⟨_, PSs.nox (dv_check_spells T c_is_spell hr), by
    obtain ⟨_, rfl, h⟩ := h
    exact pu_check_spells h⟩)
theorem cal_check_spells (T : Txt K mg aNOUGHT aONE) (c_is_spell : Cal P w K mg base 3 "is_spell" ["thing"] (sp_is_spell K)) {f : Addr} (D : ∃ fd, FnD K "check_spells" "check_spells" st_check_spells f fd) (hm : mg "check_spells" = some (.ref f)) : Cal P w K mg base 4 "check_spells" ["thing"] (sp_check_spells K) := by
  obtain ⟨fd, F⟩ := D
  exact ⟨⟨f, fd, ok_check_spells T c_is_spell F, hm, F.kp, F.bindsN fun _ _ _ _ _ _ us hl => match us, hl with | [_], _ => rfl⟩⟩
/-! ### Plan.many -/
theorem ok_Plan_many (T : Txt K mg aNOUGHT aONE) (PC : PlanC K cPlan)  {f : Addr} {fd : FuncData} (F : FnD K "many" "Plan.many" st_Plan_many f fd) : FnOk P w K mg base CX0 1 f fd ["self"] (sp_Plan_many K cPlan) :=
  F.ok sc_Plan_many len1 (fun cdv A outer s H vs Q E hr h => ⟨_, PSs.nox (dv_Plan_many T hr), by
    obtain ⟨_, rfl, h⟩ := h
    exact pu_Plan_many PC h⟩)
theorem cal_Plan_many (T : Txt K mg aNOUGHT aONE) (PC : PlanC K cPlan)  {f : Addr} (D : ∃ fd, FnD K "many" "Plan.many" st_Plan_many f fd) (cl : Cls K cPlan) (M : Meth K cPlan "many" f) : MCal P w K mg base cPlan 1 "many" ["self"] (sp_Plan_many K cPlan) := by
  obtain ⟨fd, F⟩ := D
  exact ⟨cl, ⟨f, fd, ok_Plan_many T PC F, M, F.bindsN fun _ _ _ _ _ _ us hl => match us, hl with | [_], _ => rfl⟩⟩
/-! ### Plan.dues_by_turns -/
theorem ok_Plan_dues_by_turns (T : Txt K mg aNOUGHT aONE) (PC : PlanC K cPlan) (c_made : Cal P w K mg base 2 "made" ["top", "bottom"] (sp_made K)) (c_plus : Cal P w K mg base 3 "plus" ["one", "other"] (sp_plus K)) (c_Plan_many : MCal P w K mg base cPlan 1 "many" ["self"] (sp_Plan_many K cPlan)) {f : Addr} {fd : FuncData} (F : FnD K "dues_by_turns" "Plan.dues_by_turns" st_Plan_dues_by_turns f fd) : FnOk P w K mg base CX0 4 f fd ["self"] (sp_Plan_dues_by_turns K cPlan) :=
  F.ok sc_Plan_dues_by_turns len1 (fun cdv A outer s H vs Q E hr h => ⟨_, PSs.nox (dv_Plan_dues_by_turns T c_made c_plus c_Plan_many hr), by
    obtain ⟨_, rfl, h⟩ := h
    exact pu_Plan_dues_by_turns T PC h⟩)
theorem cal_Plan_dues_by_turns (T : Txt K mg aNOUGHT aONE) (PC : PlanC K cPlan) (c_made : Cal P w K mg base 2 "made" ["top", "bottom"] (sp_made K)) (c_plus : Cal P w K mg base 3 "plus" ["one", "other"] (sp_plus K)) (c_Plan_many : MCal P w K mg base cPlan 1 "many" ["self"] (sp_Plan_many K cPlan)) {f : Addr} (D : ∃ fd, FnD K "dues_by_turns" "Plan.dues_by_turns" st_Plan_dues_by_turns f fd) (cl : Cls K cPlan) (M : Meth K cPlan "dues_by_turns" f) : MCal P w K mg base cPlan 4 "dues_by_turns" ["self"] (sp_Plan_dues_by_turns K cPlan) := by
  obtain ⟨fd, F⟩ := D
  exact ⟨cl, ⟨f, fd, ok_Plan_dues_by_turns T PC c_made c_plus c_Plan_many F, M, F.bindsN fun _ _ _ _ _ _ us hl => match us, hl with | [_], _ => rfl⟩⟩
/-! ### Plan.__init__ -/
theorem ok_Plan_init (T : Txt K mg aNOUGHT aONE) (PC : PlanC K cPlan) (c_Plan_dues_by_turns : MCal P w K mg base cPlan 4 "dues_by_turns" ["self"] (sp_Plan_dues_by_turns K cPlan)) (c_check_spells : Cal P w K mg base 4 "check_spells" ["thing"] (sp_check_spells K)) {f : Addr} {fd : FuncData} (F : FnD K "__init__" "Plan.__init__" st_Plan_init f fd) : FnOk P w K mg base CX0 5 f fd ["self", "spells"] (sp_Plan_init K cPlan) :=
  F.ok sc_Plan_init len2 (fun cdv A outer s H vs Q E hr h => ⟨_, PSs.nox (dv_Plan_init T c_Plan_dues_by_turns c_check_spells hr), by
    obtain ⟨_, _, rfl, h⟩ := h
    exact pu_Plan_init PC h⟩)
theorem cal_Plan_init (T : Txt K mg aNOUGHT aONE) (PC : PlanC K cPlan) (c_Plan_dues_by_turns : MCal P w K mg base cPlan 4 "dues_by_turns" ["self"] (sp_Plan_dues_by_turns K cPlan)) (c_check_spells : Cal P w K mg base 4 "check_spells" ["thing"] (sp_check_spells K)) {f : Addr} (D : ∃ fd, FnD K "__init__" "Plan.__init__" st_Plan_init f fd) (M : Mk K cPlan f) (hm : mg "Plan" = some (.ref cPlan)) : KCal P w K mg base cPlan 5 "Plan" ["self", "spells"] (sp_Plan_init K cPlan) := by
  obtain ⟨fd, F⟩ := D
  exact ⟨⟨f, fd, ok_Plan_init T PC c_Plan_dues_by_turns c_check_spells F, M, hm, F.bindsN fun _ _ _ _ _ _ us hl => match us, hl with | [_, _], _ => rfl⟩⟩
/-! ### Credits.__init__ -/
theorem ok_Credits_init (T : Txt K mg aNOUGHT aONE) (CC : CredC K cCredits) (c_are_weights : Cal P w K mg base 2 "are_weights" ["thing"] (sp_are_weights)) {f : Addr} {fd : FuncData} (F : FnD K "__init__" "Credits.__init__" st_Credits_init f fd) : FnOk P w K mg base CX0 3 f fd ["self", "weights"] (sp_Credits_init K cCredits) :=
  F.ok sc_Credits_init len2 (fun cdv A outer s H vs Q E hr h => ⟨_, PSs.nox (dv_Credits_init T c_are_weights hr), by
    obtain ⟨_, _, rfl, h⟩ := h
    exact pu_Credits_init T CC h⟩)
theorem cal_Credits_init (T : Txt K mg aNOUGHT aONE) (CC : CredC K cCredits) (c_are_weights : Cal P w K mg base 2 "are_weights" ["thing"] (sp_are_weights)) {f : Addr} (D : ∃ fd, FnD K "__init__" "Credits.__init__" st_Credits_init f fd) (M : Mk K cCredits f) (hm : mg "Credits" = some (.ref cCredits)) : KCal P w K mg base cCredits 3 "Credits" ["self", "weights"] (sp_Credits_init K cCredits) := by
  obtain ⟨fd, F⟩ := D
  exact ⟨⟨f, fd, ok_Credits_init T CC c_are_weights F, M, hm, F.bindsN fun _ _ _ _ _ _ us hl => match us, hl with | [_, _], _ => rfl⟩⟩
/-! ### Credits.step -/
theorem ok_Credits_step (T : Txt K mg aNOUGHT aONE) (CC : CredC K cCredits) (c_minus : Cal P w K mg base 3 "minus" ["one", "other"] (sp_minus K)) (c_less : Cal P w K mg base 1 "less" ["one", "other"] (sp_less K)) (c_made : Cal P w K mg base 2 "made" ["top", "bottom"] (sp_made K)) (c_plus : Cal P w K mg base 3 "plus" ["one", "other"] (sp_plus K)) {f : Addr} {fd : FuncData} (F : FnD K "step" "Credits.step" st_Credits_step f fd) : FnOk P w K mg base CX0 4 f fd ["self"] (sp_Credits_step K cCredits) :=
  F.ok sc_Credits_step len1 (fun cdv A outer s H vs Q E hr h => ⟨_, PSs.nox (dv_Credits_step T c_minus c_less c_made c_plus hr), by
    obtain ⟨_, rfl, h⟩ := h
    exact pu_Credits_step CC h⟩)
theorem cal_Credits_step (T : Txt K mg aNOUGHT aONE) (CC : CredC K cCredits) (c_minus : Cal P w K mg base 3 "minus" ["one", "other"] (sp_minus K)) (c_less : Cal P w K mg base 1 "less" ["one", "other"] (sp_less K)) (c_made : Cal P w K mg base 2 "made" ["top", "bottom"] (sp_made K)) (c_plus : Cal P w K mg base 3 "plus" ["one", "other"] (sp_plus K)) {f : Addr} (D : ∃ fd, FnD K "step" "Credits.step" st_Credits_step f fd) (cl : Cls K cCredits) (M : Meth K cCredits "step" f) : MCal P w K mg base cCredits 4 "step" ["self"] (sp_Credits_step K cCredits) := by
  obtain ⟨fd, F⟩ := D
  exact ⟨cl, ⟨f, fd, ok_Credits_step T CC c_minus c_less c_made c_plus F, M, F.bindsN fun _ _ _ _ _ _ us hl => match us, hl with | [_], _ => rfl⟩⟩
/-! ### check_bound -/
theorem ok_check_bound (T : Txt K mg aNOUGHT aONE) (c_is_fraction : Cal P w K mg base 2 "is_fraction" ["thing"] (sp_is_fraction K)) (c_less : Cal P w K mg base 1 "less" ["one", "other"] (sp_less K)) {f : Addr} {fd : FuncData} (F : FnD K "check_bound" "check_bound" st_check_bound f fd) : FnOk P w K mg base CX0 3 f fd ["bound"] (sp_check_bound K) :=
  F.ok sc_check_bound len1 (fun cdv A outer s H vs Q E hr h => ⟨_, PSs.nox (dv_check_bound T c_is_fraction c_less hr), by
    obtain ⟨_, rfl, h⟩ := h
    exact pu_check_bound h⟩)
theorem cal_check_bound (T : Txt K mg aNOUGHT aONE) (c_is_fraction : Cal P w K mg base 2 "is_fraction" ["thing"] (sp_is_fraction K)) (c_less : Cal P w K mg base 1 "less" ["one", "other"] (sp_less K)) {f : Addr} (D : ∃ fd, FnD K "check_bound" "check_bound" st_check_bound f fd) (hm : mg "check_bound" = some (.ref f)) : Cal P w K mg base 3 "check_bound" ["bound"] (sp_check_bound K) := by
  obtain ⟨fd, F⟩ := D
  exact ⟨⟨f, fd, ok_check_bound T c_is_fraction c_less F, hm, F.kp, F.bindsN fun _ _ _ _ _ _ us hl => match us, hl with | [_], _ => rfl⟩⟩
/-! ### lag_keeps -/
theorem ok_lag_keeps (T : Txt K mg aNOUGHT aONE) (c_unsigned : Cal P w K mg base 1 "unsigned" ["one"] (sp_unsigned K)) (c_less : Cal P w K mg base 1 "less" ["one", "other"] (sp_less K)) {f : Addr} {fd : FuncData} (F : FnD K "lag_keeps" "lag_keeps" st_lag_keeps f fd) : FnOk P w K mg base CX0 2 f fd ["bound", "far"] (sp_lag_keeps K) :=
  F.ok sc_lag_keeps len2 (fun cdv A outer s H vs Q E hr h => ⟨_, PSs.nox (dv_lag_keeps T c_unsigned c_less hr), by
    obtain ⟨_, _, rfl, h⟩ := h
    exact pu_lag_keeps h⟩)
theorem cal_lag_keeps (T : Txt K mg aNOUGHT aONE) (c_unsigned : Cal P w K mg base 1 "unsigned" ["one"] (sp_unsigned K)) (c_less : Cal P w K mg base 1 "less" ["one", "other"] (sp_less K)) {f : Addr} (D : ∃ fd, FnD K "lag_keeps" "lag_keeps" st_lag_keeps f fd) (hm : mg "lag_keeps" = some (.ref f)) : Cal P w K mg base 2 "lag_keeps" ["bound", "far"] (sp_lag_keeps K) := by
  obtain ⟨fd, F⟩ := D
  exact ⟨⟨f, fd, ok_lag_keeps T c_unsigned c_less F, hm, F.kp, F.bindsN fun _ _ _ _ _ _ us hl => match us, hl with | [_, _], _ => rfl⟩⟩
/-! ### low_of -/
theorem ok_low_of (T : Txt K mg aNOUGHT aONE) (c_minus : Cal P w K mg base 3 "minus" ["one", "other"] (sp_minus K)) (c_floor_of : Cal P w K mg base 1 "floor_of" ["one"] (sp_floor_of K)) {f : Addr} {fd : FuncData} (F : FnD K "low_of" "low_of" st_low_of f fd) : FnOk P w K mg base CX0 4 f fd ["bound", "due"] (sp_low_of K) :=
  F.ok sc_low_of len2 (fun cdv A outer s H vs Q E hr h => ⟨_, PSs.nox (dv_low_of T c_minus c_floor_of hr), by
    obtain ⟨_, _, rfl, h⟩ := h
    exact pu_low_of h⟩)
theorem cal_low_of (T : Txt K mg aNOUGHT aONE) (c_minus : Cal P w K mg base 3 "minus" ["one", "other"] (sp_minus K)) (c_floor_of : Cal P w K mg base 1 "floor_of" ["one"] (sp_floor_of K)) {f : Addr} (D : ∃ fd, FnD K "low_of" "low_of" st_low_of f fd) (hm : mg "low_of" = some (.ref f)) : Cal P w K mg base 4 "low_of" ["bound", "due"] (sp_low_of K) := by
  obtain ⟨fd, F⟩ := D
  exact ⟨⟨f, fd, ok_low_of T c_minus c_floor_of F, hm, F.kp, F.bindsN fun _ _ _ _ _ _ us hl => match us, hl with | [_, _], _ => rfl⟩⟩
/-! ### high_of -/
theorem ok_high_of (T : Txt K mg aNOUGHT aONE) (c_plus : Cal P w K mg base 3 "plus" ["one", "other"] (sp_plus K)) (c_ceiling_of : Cal P w K mg base 1 "ceiling_of" ["one"] (sp_ceiling_of K)) {f : Addr} {fd : FuncData} (F : FnD K "high_of" "high_of" st_high_of f fd) : FnOk P w K mg base CX0 4 f fd ["bound", "due"] (sp_high_of K) :=
  F.ok sc_high_of len2 (fun cdv A outer s H vs Q E hr h => ⟨_, PSs.nox (dv_high_of T c_plus c_ceiling_of hr), by
    obtain ⟨_, _, rfl, h⟩ := h
    exact pu_high_of h⟩)
theorem cal_high_of (T : Txt K mg aNOUGHT aONE) (c_plus : Cal P w K mg base 3 "plus" ["one", "other"] (sp_plus K)) (c_ceiling_of : Cal P w K mg base 1 "ceiling_of" ["one"] (sp_ceiling_of K)) {f : Addr} (D : ∃ fd, FnD K "high_of" "high_of" st_high_of f fd) (hm : mg "high_of" = some (.ref f)) : Cal P w K mg base 4 "high_of" ["bound", "due"] (sp_high_of K) := by
  obtain ⟨fd, F⟩ := D
  exact ⟨⟨f, fd, ok_high_of T c_plus c_ceiling_of F, hm, F.kp, F.bindsN fun _ _ _ _ _ _ us hl => match us, hl with | [_, _], _ => rfl⟩⟩
/-! ### ranges_by_turns -/
theorem ok_ranges_by_turns (T : Txt K mg aNOUGHT aONE) (PC : PlanC K cPlan) (c_high_of : Cal P w K mg base 4 "high_of" ["bound", "due"] (sp_high_of K)) (c_low_of : Cal P w K mg base 4 "low_of" ["bound", "due"] (sp_low_of K)) {f : Addr} {fd : FuncData} (F : FnD K "ranges_by_turns" "ranges_by_turns" st_ranges_by_turns f fd) : FnOk P w K mg base CX0 5 f fd ["plan", "bound"] (sp_ranges_by_turns K cPlan) :=
  F.ok sc_ranges_by_turns len2 (fun cdv A outer s H vs Q E hr h => ⟨_, PSs.nox (dv_ranges_by_turns T c_high_of c_low_of hr), by
    obtain ⟨_, _, rfl, h⟩ := h
    exact pu_ranges_by_turns PC h⟩)
theorem cal_ranges_by_turns (T : Txt K mg aNOUGHT aONE) (PC : PlanC K cPlan) (c_high_of : Cal P w K mg base 4 "high_of" ["bound", "due"] (sp_high_of K)) (c_low_of : Cal P w K mg base 4 "low_of" ["bound", "due"] (sp_low_of K)) {f : Addr} (D : ∃ fd, FnD K "ranges_by_turns" "ranges_by_turns" st_ranges_by_turns f fd) (hm : mg "ranges_by_turns" = some (.ref f)) : Cal P w K mg base 5 "ranges_by_turns" ["plan", "bound"] (sp_ranges_by_turns K cPlan) := by
  obtain ⟨fd, F⟩ := D
  exact ⟨⟨f, fd, ok_ranges_by_turns T PC c_high_of c_low_of F, hm, F.kp, F.bindsN fun _ _ _ _ _ _ us hl => match us, hl with | [_, _], _ => rfl⟩⟩
/-! ### must_by -/
theorem ok_must_by (T : Txt K mg aNOUGHT aONE)  {f : Addr} {fd : FuncData} (F : FnD K "must_by" "must_by" st_must_by f fd) : FnOk P w K mg base CX0 1 f fd ["table", "at", "who", "count"] (sp_must_by K) :=
  F.ok sc_must_by len4 (fun cdv A outer s H vs Q E hr h => ⟨_, PSs.nox (dv_must_by T hr), by
    obtain ⟨_, _, _, _, rfl, h⟩ := h
    exact pu_must_by h⟩)
theorem cal_must_by (T : Txt K mg aNOUGHT aONE)  {f : Addr} (D : ∃ fd, FnD K "must_by" "must_by" st_must_by f fd) (hm : mg "must_by" = some (.ref f)) : Cal P w K mg base 1 "must_by" ["table", "at", "who", "count"] (sp_must_by K) := by
  obtain ⟨fd, F⟩ := D
  exact ⟨⟨f, fd, ok_must_by T F, hm, F.kp, F.bindsN fun _ _ _ _ _ _ us hl => match us, hl with | [_, _, _, _], _ => rfl⟩⟩
/-! ### soonest -/
theorem ok_soonest (T : Txt K mg aNOUGHT aONE) (c_must_by : Cal P w K mg base 1 "must_by" ["table", "at", "who", "count"] (sp_must_by K)) {f : Addr} {fd : FuncData} (F : FnD K "soonest" "soonest" st_soonest f fd) : FnOk P w K mg base CX0 2 f fd ["table", "at", "counts"] (sp_soonest K) :=
  F.ok sc_soonest len3 (fun cdv A outer s H vs Q E hr h => ⟨_, PSs.nox (dv_soonest T c_must_by hr), by
    obtain ⟨_, _, _, rfl, h⟩ := h
    exact pu_soonest h⟩)
theorem cal_soonest (T : Txt K mg aNOUGHT aONE) (c_must_by : Cal P w K mg base 1 "must_by" ["table", "at", "who", "count"] (sp_must_by K)) {f : Addr} (D : ∃ fd, FnD K "soonest" "soonest" st_soonest f fd) (hm : mg "soonest" = some (.ref f)) : Cal P w K mg base 2 "soonest" ["table", "at", "counts"] (sp_soonest K) := by
  obtain ⟨fd, F⟩ := D
  exact ⟨⟨f, fd, ok_soonest T c_must_by F, hm, F.kp, F.bindsN fun _ _ _ _ _ _ us hl => match us, hl with | [_, _, _], _ => rfl⟩⟩
/-! ### too_far -/
theorem ok_too_far (T : Txt K mg aNOUGHT aONE)  {f : Addr} {fd : FuncData} (F : FnD K "too_far" "too_far" st_too_far f fd) : FnOk P w K mg base CX0 1 f fd ["table", "at", "counts"] (sp_too_far K) :=
  F.ok sc_too_far len3 (fun cdv A outer s H vs Q E hr h => ⟨_, PSs.nox (dv_too_far T hr), by
    obtain ⟨_, _, _, rfl, h⟩ := h
    exact pu_too_far h⟩)
theorem cal_too_far (T : Txt K mg aNOUGHT aONE)  {f : Addr} (D : ∃ fd, FnD K "too_far" "too_far" st_too_far f fd) (hm : mg "too_far" = some (.ref f)) : Cal P w K mg base 1 "too_far" ["table", "at", "counts"] (sp_too_far K) := by
  obtain ⟨fd, F⟩ := D
  exact ⟨⟨f, fd, ok_too_far T F, hm, F.kp, F.bindsN fun _ _ _ _ _ _ us hl => match us, hl with | [_, _, _], _ => rfl⟩⟩
/-! ### too_few -/
theorem ok_too_few (T : Txt K mg aNOUGHT aONE)  {f : Addr} {fd : FuncData} (F : FnD K "too_few" "too_few" st_too_few f fd) : FnOk P w K mg base CX0 1 f fd ["table", "at", "counts"] (sp_too_few K) :=
  F.ok sc_too_few len3 (fun cdv A outer s H vs Q E hr h => ⟨_, PSs.nox (dv_too_few T hr), by
    obtain ⟨_, _, _, rfl, h⟩ := h
    exact pu_too_few h⟩)
theorem cal_too_few (T : Txt K mg aNOUGHT aONE)  {f : Addr} (D : ∃ fd, FnD K "too_few" "too_few" st_too_few f fd) (hm : mg "too_few" = some (.ref f)) : Cal P w K mg base 1 "too_few" ["table", "at", "counts"] (sp_too_few K) := by
  obtain ⟨fd, F⟩ := D
  exact ⟨⟨f, fd, ok_too_few T F, hm, F.kp, F.bindsN fun _ _ _ _ _ _ us hl => match us, hl with | [_, _, _], _ => rfl⟩⟩
/-! ### dealt -/
theorem ok_dealt (T : Txt K mg aNOUGHT aONE) (c_too_few : Cal P w K mg base 1 "too_few" ["table", "at", "counts"] (sp_too_few K)) (c_soonest : Cal P w K mg base 2 "soonest" ["table", "at", "counts"] (sp_soonest K)) (c_too_far : Cal P w K mg base 1 "too_far" ["table", "at", "counts"] (sp_too_far K)) {f : Addr} {fd : FuncData} (F : FnD K "dealt" "dealt" st_dealt f fd) : FnOk P w K mg base CX0 3 f fd ["table", "first", "start"] (sp_dealt K) :=
  F.ok sc_dealt len3 (fun cdv A outer s H vs Q E hr h => ⟨_, PSs.nox (dv_dealt T c_too_few c_soonest c_too_far hr), by
    obtain ⟨_, _, _, rfl, h⟩ := h
    exact pu_dealt h⟩)
theorem cal_dealt (T : Txt K mg aNOUGHT aONE) (c_too_few : Cal P w K mg base 1 "too_few" ["table", "at", "counts"] (sp_too_few K)) (c_soonest : Cal P w K mg base 2 "soonest" ["table", "at", "counts"] (sp_soonest K)) (c_too_far : Cal P w K mg base 1 "too_far" ["table", "at", "counts"] (sp_too_far K)) {f : Addr} (D : ∃ fd, FnD K "dealt" "dealt" st_dealt f fd) (hm : mg "dealt" = some (.ref f)) : Cal P w K mg base 3 "dealt" ["table", "first", "start"] (sp_dealt K) := by
  obtain ⟨fd, F⟩ := D
  exact ⟨⟨f, fd, ok_dealt T c_too_few c_soonest c_too_far F, hm, F.kp, F.bindsN fun _ _ _ _ _ _ us hl => match us, hl with | [_, _, _], _ => rfl⟩⟩
/-! ### kept_by -/
theorem ok_kept_by (T : Txt K mg aNOUGHT aONE) (PC : PlanC K cPlan) (c_Plan_many : MCal P w K mg base cPlan 1 "many" ["self"] (sp_Plan_many K cPlan)) (c_ranges_by_turns : Cal P w K mg base 5 "ranges_by_turns" ["plan", "bound"] (sp_ranges_by_turns K cPlan)) (c_dealt : Cal P w K mg base 3 "dealt" ["table", "first", "start"] (sp_dealt K)) (c_check_bound : Cal P w K mg base 3 "check_bound" ["bound"] (sp_check_bound K)) {f : Addr} {fd : FuncData} (F : FnD K "kept_by" "kept_by" st_kept_by f fd) : FnOk P w K mg base CX0 6 f fd ["plan", "bound"] (sp_kept_by K cPlan) :=
  F.ok sc_kept_by len2 (fun cdv A outer s H vs Q E hr h => ⟨_, PSs.nox (dv_kept_by T c_Plan_many c_ranges_by_turns c_dealt c_check_bound hr), by
    obtain ⟨_, _, rfl, h⟩ := h
    exact pu_kept_by PC h⟩)
theorem cal_kept_by (T : Txt K mg aNOUGHT aONE) (PC : PlanC K cPlan) (c_Plan_many : MCal P w K mg base cPlan 1 "many" ["self"] (sp_Plan_many K cPlan)) (c_ranges_by_turns : Cal P w K mg base 5 "ranges_by_turns" ["plan", "bound"] (sp_ranges_by_turns K cPlan)) (c_dealt : Cal P w K mg base 3 "dealt" ["table", "first", "start"] (sp_dealt K)) (c_check_bound : Cal P w K mg base 3 "check_bound" ["bound"] (sp_check_bound K)) {f : Addr} (D : ∃ fd, FnD K "kept_by" "kept_by" st_kept_by f fd) (hm : mg "kept_by" = some (.ref f)) : Cal P w K mg base 6 "kept_by" ["plan", "bound"] (sp_kept_by K cPlan) := by
  obtain ⟨fd, F⟩ := D
  exact ⟨⟨f, fd, ok_kept_by T PC c_Plan_many c_ranges_by_turns c_dealt c_check_bound F, hm, F.kp, F.bindsN fun _ _ _ _ _ _ us hl => match us, hl with | [_, _], _ => rfl⟩⟩
/-! ### is_within -/
theorem ok_is_within (T : Txt K mg aNOUGHT aONE) (c_is_whole : Cal P w K mg base 1 "is_whole" ["thing"] (sp_is_whole)) {f : Addr} {fd : FuncData} (F : FnD K "is_within" "is_within" st_is_within f fd) : FnOk P w K mg base CX0 2 f fd ["thing", "low", "high"] (sp_is_within) :=
  F.ok sc_is_within len3 (fun cdv A outer s H vs Q E hr h => ⟨_, PSs.nox (dv_is_within T c_is_whole hr), by
    obtain ⟨_, _, _, rfl, h⟩ := h
    exact pu_is_within h⟩)
theorem cal_is_within (T : Txt K mg aNOUGHT aONE) (c_is_whole : Cal P w K mg base 1 "is_whole" ["thing"] (sp_is_whole)) {f : Addr} (D : ∃ fd, FnD K "is_within" "is_within" st_is_within f fd) (hm : mg "is_within" = some (.ref f)) : Cal P w K mg base 2 "is_within" ["thing", "low", "high"] (sp_is_within) := by
  obtain ⟨fd, F⟩ := D
  exact ⟨⟨f, fd, ok_is_within T c_is_whole F, hm, F.kp, F.bindsN fun _ _ _ _ _ _ us hl => match us, hl with | [_, _, _], _ => rfl⟩⟩
/-! ### are_claimants -/
theorem ok_are_claimants (T : Txt K mg aNOUGHT aONE) (c_is_within : Cal P w K mg base 2 "is_within" ["thing", "low", "high"] (sp_is_within)) {f : Addr} {fd : FuncData} (F : FnD K "are_claimants" "are_claimants" st_are_claimants f fd) : FnOk P w K mg base CX0 3 f fd ["thing", "many"] (sp_are_claimants) :=
  F.ok sc_are_claimants len2 (fun cdv A outer s H vs Q E hr h => ⟨_, PSs.nox (dv_are_claimants T c_is_within hr), by
    obtain ⟨_, _, rfl, h⟩ := h
    exact pu_are_claimants h⟩)
theorem cal_are_claimants (T : Txt K mg aNOUGHT aONE) (c_is_within : Cal P w K mg base 2 "is_within" ["thing", "low", "high"] (sp_is_within)) {f : Addr} (D : ∃ fd, FnD K "are_claimants" "are_claimants" st_are_claimants f fd) (hm : mg "are_claimants" = some (.ref f)) : Cal P w K mg base 3 "are_claimants" ["thing", "many"] (sp_are_claimants) := by
  obtain ⟨fd, F⟩ := D
  exact ⟨⟨f, fd, ok_are_claimants T c_is_within F, hm, F.kp, F.bindsN fun _ _ _ _ _ _ us hl => match us, hl with | [_, _], _ => rfl⟩⟩
/-! ### is_running -/
theorem ok_is_running (T : Txt K mg aNOUGHT aONE) (c_are_claimants : Cal P w K mg base 3 "are_claimants" ["thing", "many"] (sp_are_claimants)) {f : Addr} {fd : FuncData} (F : FnD K "is_running" "is_running" st_is_running f fd) : FnOk P w K mg base CX0 4 f fd ["thing"] (sp_is_running K) :=
  F.ok sc_is_running len1 (fun cdv A outer s H vs Q E hr h => ⟨_, PSs.nox (dv_is_running T c_are_claimants hr), by
    obtain ⟨_, rfl, h⟩ := h
    exact pu_is_running h⟩)
theorem cal_is_running (T : Txt K mg aNOUGHT aONE) (c_are_claimants : Cal P w K mg base 3 "are_claimants" ["thing", "many"] (sp_are_claimants)) {f : Addr} (D : ∃ fd, FnD K "is_running" "is_running" st_is_running f fd) (hm : mg "is_running" = some (.ref f)) : Cal P w K mg base 4 "is_running" ["thing"] (sp_is_running K) := by
  obtain ⟨fd, F⟩ := D
  exact ⟨⟨f, fd, ok_is_running T c_are_claimants F, hm, F.kp, F.bindsN fun _ _ _ _ _ _ us hl => match us, hl with | [_], _ => rfl⟩⟩
/-! ### check_running -/
theorem ok_check_running (T : Txt K mg aNOUGHT aONE) (c_is_running : Cal P w K mg base 4 "is_running" ["thing"] (sp_is_running K)) {f : Addr} {fd : FuncData} (F : FnD K "check_running" "check_running" st_check_running f fd) : FnOk P w K mg base CX0 5 f fd ["thing"] (sp_check_running K) :=
  F.ok sc_check_running len1 (fun cdv A outer s H vs Q E hr h => ⟨_, PSs.nox (dv_check_running T c_is_running hr), by
    obtain ⟨_, rfl, h⟩ := h
    exact pu_check_running h⟩)
theorem cal_check_running (T : Txt K mg aNOUGHT aONE) (c_is_running : Cal P w K mg base 4 "is_running" ["thing"] (sp_is_running K)) {f : Addr} (D : ∃ fd, FnD K "check_running" "check_running" st_check_running f fd) (hm : mg "check_running" = some (.ref f)) : Cal P w K mg base 5 "check_running" ["thing"] (sp_check_running K) := by
  obtain ⟨fd, F⟩ := D
  exact ⟨⟨f, fd, ok_check_running T c_is_running F, hm, F.kp, F.bindsN fun _ _ _ _ _ _ us hl => match us, hl with | [_], _ => rfl⟩⟩
/-! ### check_claimant -/
theorem ok_check_claimant (T : Txt K mg aNOUGHT aONE) (c_is_within : Cal P w K mg base 2 "is_within" ["thing", "low", "high"] (sp_is_within)) {f : Addr} {fd : FuncData} (F : FnD K "check_claimant" "check_claimant" st_check_claimant f fd) : FnOk P w K mg base CX0 3 f fd ["thing", "many"] (sp_check_claimant) :=
  F.ok sc_check_claimant len2 (fun cdv A outer s H vs Q E hr h => ⟨_, PSs.nox (dv_check_claimant T c_is_within hr), by
    obtain ⟨_, _, rfl, h⟩ := h
    exact pu_check_claimant h⟩)
theorem cal_check_claimant (T : Txt K mg aNOUGHT aONE) (c_is_within : Cal P w K mg base 2 "is_within" ["thing", "low", "high"] (sp_is_within)) {f : Addr} (D : ∃ fd, FnD K "check_claimant" "check_claimant" st_check_claimant f fd) (hm : mg "check_claimant" = some (.ref f)) : Cal P w K mg base 3 "check_claimant" ["thing", "many"] (sp_check_claimant) := by
  obtain ⟨fd, F⟩ := D
  exact ⟨⟨f, fd, ok_check_claimant T c_is_within F, hm, F.kp, F.bindsN fun _ _ _ _ _ _ us hl => match us, hl with | [_, _], _ => rfl⟩⟩
/-! ### check_number -/
theorem ok_check_number (T : Txt K mg aNOUGHT aONE) (c_is_within : Cal P w K mg base 2 "is_within" ["thing", "low", "high"] (sp_is_within)) {f : Addr} {fd : FuncData} (F : FnD K "check_number" "check_number" st_check_number f fd) : FnOk P w K mg base CX0 3 f fd ["thing", "low"] (sp_check_number) :=
  F.ok sc_check_number len2 (fun cdv A outer s H vs Q E hr h => ⟨_, PSs.nox (dv_check_number T c_is_within hr), by
    obtain ⟨_, _, rfl, h⟩ := h
    exact pu_check_number h⟩)
theorem cal_check_number (T : Txt K mg aNOUGHT aONE) (c_is_within : Cal P w K mg base 2 "is_within" ["thing", "low", "high"] (sp_is_within)) {f : Addr} (D : ∃ fd, FnD K "check_number" "check_number" st_check_number f fd) (hm : mg "check_number" = some (.ref f)) : Cal P w K mg base 3 "check_number" ["thing", "low"] (sp_check_number) := by
  obtain ⟨fd, F⟩ := D
  exact ⟨⟨f, fd, ok_check_number T c_is_within F, hm, F.kp, F.bindsN fun _ _ _ _ _ _ us hl => match us, hl with | [_, _], _ => rfl⟩⟩
/-! ### count_in -/
theorem ok_count_in (T : Txt K mg aNOUGHT aONE)  {f : Addr} {fd : FuncData} (F : FnD K "count_in" "count_in" st_count_in f fd) : FnOk P w K mg base CX0 1 f fd ["running", "one", "turns"] (sp_count_in K) :=
  F.ok sc_count_in len3 (fun cdv A outer s H vs Q E hr h => ⟨_, PSs.nox (dv_count_in T hr), by
    obtain ⟨_, _, _, rfl, h⟩ := h
    exact pu_count_in h⟩)
theorem cal_count_in (T : Txt K mg aNOUGHT aONE)  {f : Addr} (D : ∃ fd, FnD K "count_in" "count_in" st_count_in f fd) (hm : mg "count_in" = some (.ref f)) : Cal P w K mg base 1 "count_in" ["running", "one", "turns"] (sp_count_in K) := by
  obtain ⟨fd, F⟩ := D
  exact ⟨⟨f, fd, ok_count_in T F, hm, F.kp, F.bindsN fun _ _ _ _ _ _ us hl => match us, hl with | [_, _, _], _ => rfl⟩⟩
/-! ### count_at -/
theorem ok_count_at (T : Txt K mg aNOUGHT aONE) (c_count_in : Cal P w K mg base 1 "count_in" ["running", "one", "turns"] (sp_count_in K)) (c_check_number : Cal P w K mg base 3 "check_number" ["thing", "low"] (sp_check_number)) (c_check_claimant : Cal P w K mg base 3 "check_claimant" ["thing", "many"] (sp_check_claimant)) (c_check_running : Cal P w K mg base 5 "check_running" ["thing"] (sp_check_running K)) {f : Addr} {fd : FuncData} (F : FnD K "count_at" "count_at" st_count_at f fd) : FnOk P w K mg base CX0 6 f fd ["running", "one", "turns"] (sp_count_at K) :=
  F.ok sc_count_at len3 (fun cdv A outer s H vs Q E hr h => ⟨_, PSs.nox (dv_count_at T c_count_in c_check_number c_check_claimant c_check_running hr), by
    obtain ⟨_, _, _, rfl, h⟩ := h
    exact pu_count_at h⟩)
theorem cal_count_at (T : Txt K mg aNOUGHT aONE) (c_count_in : Cal P w K mg base 1 "count_in" ["running", "one", "turns"] (sp_count_in K)) (c_check_number : Cal P w K mg base 3 "check_number" ["thing", "low"] (sp_check_number)) (c_check_claimant : Cal P w K mg base 3 "check_claimant" ["thing", "many"] (sp_check_claimant)) (c_check_running : Cal P w K mg base 5 "check_running" ["thing"] (sp_check_running K)) {f : Addr} (D : ∃ fd, FnD K "count_at" "count_at" st_count_at f fd) (hm : mg "count_at" = some (.ref f)) : Cal P w K mg base 6 "count_at" ["running", "one", "turns"] (sp_count_at K) := by
  obtain ⟨fd, F⟩ := D
  exact ⟨⟨f, fd, ok_count_at T c_count_in c_check_number c_check_claimant c_check_running F, hm, F.kp, F.bindsN fun _ _ _ _ _ _ us hl => match us, hl with | [_, _, _], _ => rfl⟩⟩
/-! ### root_of -/
theorem ok_root_of (T : Txt K mg aNOUGHT aONE)  {f : Addr} {fd : FuncData} (F : FnD K "root_of" "root_of" st_root_of f fd) : FnOk P w K mg base CX0 1 f fd ["lap"] (sp_root_of) :=
  F.ok sc_root_of len1 (fun cdv A outer s H vs Q E hr h => ⟨_, PSs.nox (dv_root_of T hr), by
    obtain ⟨_, rfl, h⟩ := h
    exact pu_root_of h⟩)
theorem cal_root_of (T : Txt K mg aNOUGHT aONE)  {f : Addr} (D : ∃ fd, FnD K "root_of" "root_of" st_root_of f fd) (hm : mg "root_of" = some (.ref f)) : Cal P w K mg base 1 "root_of" ["lap"] (sp_root_of) := by
  obtain ⟨fd, F⟩ := D
  exact ⟨⟨f, fd, ok_root_of T F, hm, F.kp, F.bindsN fun _ _ _ _ _ _ us hl => match us, hl with | [_], _ => rfl⟩⟩
/-! ### least_of -/
theorem ok_least_of (T : Txt K mg aNOUGHT aONE) (c_root_of : Cal P w K mg base 1 "root_of" ["lap"] (sp_root_of)) (c_check_running : Cal P w K mg base 5 "check_running" ["thing"] (sp_check_running K)) {f : Addr} {fd : FuncData} (F : FnD K "least_of" "least_of" st_least_of f fd) : FnOk P w K mg base CX0 6 f fd ["running"] (sp_least_of K) :=
  F.ok sc_least_of len1 (fun cdv A outer s H vs Q E hr h => ⟨_, PSs.nox (dv_least_of T c_root_of c_check_running hr), by
    obtain ⟨_, rfl, h⟩ := h
    exact pu_least_of h⟩)
theorem cal_least_of (T : Txt K mg aNOUGHT aONE) (c_root_of : Cal P w K mg base 1 "root_of" ["lap"] (sp_root_of)) (c_check_running : Cal P w K mg base 5 "check_running" ["thing"] (sp_check_running K)) {f : Addr} (D : ∃ fd, FnD K "least_of" "least_of" st_least_of f fd) (hm : mg "least_of" = some (.ref f)) : Cal P w K mg base 6 "least_of" ["running"] (sp_least_of K) := by
  obtain ⟨fd, F⟩ := D
  exact ⟨⟨f, fd, ok_least_of T c_root_of c_check_running F, hm, F.kp, F.bindsN fun _ _ _ _ _ _ us hl => match us, hl with | [_], _ => rfl⟩⟩
/-! ### check_weights -/
theorem ok_check_weights (T : Txt K mg aNOUGHT aONE) (c_are_weights : Cal P w K mg base 2 "are_weights" ["thing"] (sp_are_weights)) {f : Addr} {fd : FuncData} (F : FnD K "check_weights" "check_weights" st_check_weights f fd) : FnOk P w K mg base CX0 3 f fd ["thing"] (sp_check_weights) :=
  F.ok sc_check_weights len1 (fun cdv A outer s H vs Q E hr h => ⟨_, PSs.nox (dv_check_weights T c_are_weights hr), by
    obtain ⟨_, rfl, h⟩ := h
    exact pu_check_weights h⟩)
theorem cal_check_weights (T : Txt K mg aNOUGHT aONE) (c_are_weights : Cal P w K mg base 2 "are_weights" ["thing"] (sp_are_weights)) {f : Addr} (D : ∃ fd, FnD K "check_weights" "check_weights" st_check_weights f fd) (hm : mg "check_weights" = some (.ref f)) : Cal P w K mg base 3 "check_weights" ["thing"] (sp_check_weights) := by
  obtain ⟨fd, F⟩ := D
  exact ⟨⟨f, fd, ok_check_weights T c_are_weights F, hm, F.kp, F.bindsN fun _ _ _ _ _ _ us hl => match us, hl with | [_], _ => rfl⟩⟩
/-! ### check_among -/
theorem ok_check_among (T : Txt K mg aNOUGHT aONE) (c_check_running : Cal P w K mg base 5 "check_running" ["thing"] (sp_check_running K)) (c_check_weights : Cal P w K mg base 3 "check_weights" ["thing"] (sp_check_weights)) {f : Addr} {fd : FuncData} (F : FnD K "check_among" "check_among" st_check_among f fd) : FnOk P w K mg base CX0 6 f fd ["weights", "running"] (sp_check_among K) :=
  F.ok sc_check_among len2 (fun cdv A outer s H vs Q E hr h => ⟨_, PSs.nox (dv_check_among T c_check_running c_check_weights hr), by
    obtain ⟨_, _, rfl, h⟩ := h
    exact pu_check_among h⟩)
theorem cal_check_among (T : Txt K mg aNOUGHT aONE) (c_check_running : Cal P w K mg base 5 "check_running" ["thing"] (sp_check_running K)) (c_check_weights : Cal P w K mg base 3 "check_weights" ["thing"] (sp_check_weights)) {f : Addr} (D : ∃ fd, FnD K "check_among" "check_among" st_check_among f fd) (hm : mg "check_among" = some (.ref f)) : Cal P w K mg base 6 "check_among" ["weights", "running"] (sp_check_among K) := by
  obtain ⟨fd, F⟩ := D
  exact ⟨⟨f, fd, ok_check_among T c_check_running c_check_weights F, hm, F.kp, F.bindsN fun _ _ _ _ _ _ us hl => match us, hl with | [_, _], _ => rfl⟩⟩
/-! ### lag_of -/
theorem ok_lag_of (T : Txt K mg aNOUGHT aONE) (c_count_in : Cal P w K mg base 1 "count_in" ["running", "one", "turns"] (sp_count_in K)) (c_made : Cal P w K mg base 2 "made" ["top", "bottom"] (sp_made K)) (c_minus : Cal P w K mg base 3 "minus" ["one", "other"] (sp_minus K)) {f : Addr} {fd : FuncData} (F : FnD K "lag_of" "lag_of" st_lag_of f fd) : FnOk P w K mg base CX0 4 f fd ["weights", "running", "who", "turns"] (sp_lag_of K) :=
  F.ok sc_lag_of len4 (fun cdv A outer s H vs Q E hr h => ⟨_, PSs.nox (dv_lag_of T c_count_in c_made c_minus hr), by
    obtain ⟨_, _, _, _, rfl, h⟩ := h
    exact pu_lag_of h⟩)
theorem cal_lag_of (T : Txt K mg aNOUGHT aONE) (c_count_in : Cal P w K mg base 1 "count_in" ["running", "one", "turns"] (sp_count_in K)) (c_made : Cal P w K mg base 2 "made" ["top", "bottom"] (sp_made K)) (c_minus : Cal P w K mg base 3 "minus" ["one", "other"] (sp_minus K)) {f : Addr} (D : ∃ fd, FnD K "lag_of" "lag_of" st_lag_of f fd) (hm : mg "lag_of" = some (.ref f)) : Cal P w K mg base 4 "lag_of" ["weights", "running", "who", "turns"] (sp_lag_of K) := by
  obtain ⟨fd, F⟩ := D
  exact ⟨⟨f, fd, ok_lag_of T c_count_in c_made c_minus F, hm, F.kp, F.bindsN fun _ _ _ _ _ _ us hl => match us, hl with | [_, _, _, _], _ => rfl⟩⟩
/-! ### drift_of -/
theorem ok_drift_of (T : Txt K mg aNOUGHT aONE) (c_made : Cal P w K mg base 2 "made" ["top", "bottom"] (sp_made K)) (c_minus : Cal P w K mg base 3 "minus" ["one", "other"] (sp_minus K)) {f : Addr} {fd : FuncData} (F : FnD K "drift_of" "drift_of" st_drift_of f fd) : FnOk P w K mg base CX0 4 f fd ["weights", "running", "who"] (sp_drift_of K) :=
  F.ok sc_drift_of len3 (fun cdv A outer s H vs Q E hr h => ⟨_, PSs.nox (dv_drift_of T c_made c_minus hr), by
    obtain ⟨_, _, _, rfl, h⟩ := h
    exact pu_drift_of h⟩)
theorem cal_drift_of (T : Txt K mg aNOUGHT aONE) (c_made : Cal P w K mg base 2 "made" ["top", "bottom"] (sp_made K)) (c_minus : Cal P w K mg base 3 "minus" ["one", "other"] (sp_minus K)) {f : Addr} (D : ∃ fd, FnD K "drift_of" "drift_of" st_drift_of f fd) (hm : mg "drift_of" = some (.ref f)) : Cal P w K mg base 4 "drift_of" ["weights", "running", "who"] (sp_drift_of K) := by
  obtain ⟨fd, F⟩ := D
  exact ⟨⟨f, fd, ok_drift_of T c_made c_minus F, hm, F.kp, F.bindsN fun _ _ _ _ _ _ us hl => match us, hl with | [_, _, _], _ => rfl⟩⟩
/-! ### ends_of -/
theorem ok_ends_of (T : Txt K mg aNOUGHT aONE) (c_less : Cal P w K mg base 1 "less" ["one", "other"] (sp_less K)) (c_lag_of : Cal P w K mg base 4 "lag_of" ["weights", "running", "who", "turns"] (sp_lag_of K)) {f : Addr} {fd : FuncData} (F : FnD K "ends_of" "ends_of" st_ends_of f fd) : FnOk P w K mg base CX0 5 f fd ["weights", "running", "who"] (sp_ends_of K) :=
  F.ok sc_ends_of len3 (fun cdv A outer s H vs Q E hr h => ⟨_, PSs.nox (dv_ends_of T c_less c_lag_of hr), by
    obtain ⟨_, _, _, rfl, h⟩ := h
    exact pu_ends_of T h⟩)
theorem cal_ends_of (T : Txt K mg aNOUGHT aONE) (c_less : Cal P w K mg base 1 "less" ["one", "other"] (sp_less K)) (c_lag_of : Cal P w K mg base 4 "lag_of" ["weights", "running", "who", "turns"] (sp_lag_of K)) {f : Addr} (D : ∃ fd, FnD K "ends_of" "ends_of" st_ends_of f fd) (hm : mg "ends_of" = some (.ref f)) : Cal P w K mg base 5 "ends_of" ["weights", "running", "who"] (sp_ends_of K) := by
  obtain ⟨fd, F⟩ := D
  exact ⟨⟨f, fd, ok_ends_of T c_less c_lag_of F, hm, F.kp, F.bindsN fun _ _ _ _ _ _ us hl => match us, hl with | [_, _, _], _ => rfl⟩⟩
/-! ### lags_of -/
theorem ok_lags_of (T : Txt K mg aNOUGHT aONE) (c_ends_of : Cal P w K mg base 5 "ends_of" ["weights", "running", "who"] (sp_ends_of K)) (c_drift_of : Cal P w K mg base 4 "drift_of" ["weights", "running", "who"] (sp_drift_of K)) (c_check_among : Cal P w K mg base 6 "check_among" ["weights", "running"] (sp_check_among K)) {f : Addr} {fd : FuncData} (F : FnD K "lags_of" "lags_of" st_lags_of f fd) : FnOk P w K mg base CX0 7 f fd ["weights", "running"] (sp_lags_of K) :=
  F.ok sc_lags_of len2 (fun cdv A outer s H vs Q E hr h => ⟨_, PSs.nox (dv_lags_of T c_ends_of c_drift_of c_check_among hr), by
    obtain ⟨_, _, rfl, h⟩ := h
    exact pu_lags_of T h⟩)
theorem cal_lags_of (T : Txt K mg aNOUGHT aONE) (c_ends_of : Cal P w K mg base 5 "ends_of" ["weights", "running", "who"] (sp_ends_of K)) (c_drift_of : Cal P w K mg base 4 "drift_of" ["weights", "running", "who"] (sp_drift_of K)) (c_check_among : Cal P w K mg base 6 "check_among" ["weights", "running"] (sp_check_among K)) {f : Addr} (D : ∃ fd, FnD K "lags_of" "lags_of" st_lags_of f fd) (hm : mg "lags_of" = some (.ref f)) : Cal P w K mg base 7 "lags_of" ["weights", "running"] (sp_lags_of K) := by
  obtain ⟨fd, F⟩ := D
  exact ⟨⟨f, fd, ok_lags_of T c_ends_of c_drift_of c_check_among F, hm, F.kp, F.bindsN fun _ _ _ _ _ _ us hl => match us, hl with | [_, _], _ => rfl⟩⟩
/-! ### first_out -/
theorem ok_first_out (T : Txt K mg aNOUGHT aONE) (c_lag_keeps : Cal P w K mg base 2 "lag_keeps" ["bound", "far"] (sp_lag_keeps K)) (c_lag_of : Cal P w K mg base 4 "lag_of" ["weights", "running", "who", "turns"] (sp_lag_of K)) (c_drift_of : Cal P w K mg base 4 "drift_of" ["weights", "running", "who"] (sp_drift_of K)) {f : Addr} {fd : FuncData} (F : FnD K "first_out" "first_out" st_first_out f fd) : FnOk P w K mg base CX0 5 f fd ["weights", "running", "who", "bound"] (sp_first_out K) :=
  F.ok sc_first_out len4 (fun cdv A outer s H vs Q E hr h => ⟨_, PSs.nox (dv_first_out T c_lag_keeps c_lag_of c_drift_of hr), by
    obtain ⟨_, _, _, _, rfl, h⟩ := h
    exact pu_first_out T h⟩)
theorem cal_first_out (T : Txt K mg aNOUGHT aONE) (c_lag_keeps : Cal P w K mg base 2 "lag_keeps" ["bound", "far"] (sp_lag_keeps K)) (c_lag_of : Cal P w K mg base 4 "lag_of" ["weights", "running", "who", "turns"] (sp_lag_of K)) (c_drift_of : Cal P w K mg base 4 "drift_of" ["weights", "running", "who"] (sp_drift_of K)) {f : Addr} (D : ∃ fd, FnD K "first_out" "first_out" st_first_out f fd) (hm : mg "first_out" = some (.ref f)) : Cal P w K mg base 5 "first_out" ["weights", "running", "who", "bound"] (sp_first_out K) := by
  obtain ⟨fd, F⟩ := D
  exact ⟨⟨f, fd, ok_first_out T c_lag_keeps c_lag_of c_drift_of F, hm, F.kp, F.bindsN fun _ _ _ _ _ _ us hl => match us, hl with | [_, _, _, _], _ => rfl⟩⟩
/-! ### broken_at -/
theorem ok_broken_at (T : Txt K mg aNOUGHT aONE) (c_first_out : Cal P w K mg base 5 "first_out" ["weights", "running", "who", "bound"] (sp_first_out K)) (c_check_bound : Cal P w K mg base 3 "check_bound" ["bound"] (sp_check_bound K)) (c_check_among : Cal P w K mg base 6 "check_among" ["weights", "running"] (sp_check_among K)) {f : Addr} {fd : FuncData} (F : FnD K "broken_at" "broken_at" st_broken_at f fd) : FnOk P w K mg base CX0 7 f fd ["weights", "running", "bound"] (sp_broken_at K) :=
  F.ok sc_broken_at len3 (fun cdv A outer s H vs Q E hr h => ⟨_, PSs.nox (dv_broken_at T c_first_out c_check_bound c_check_among hr), by
    obtain ⟨_, _, _, rfl, h⟩ := h
    exact pu_broken_at h⟩)
theorem cal_broken_at (T : Txt K mg aNOUGHT aONE) (c_first_out : Cal P w K mg base 5 "first_out" ["weights", "running", "who", "bound"] (sp_first_out K)) (c_check_bound : Cal P w K mg base 3 "check_bound" ["bound"] (sp_check_bound K)) (c_check_among : Cal P w K mg base 6 "check_among" ["weights", "running"] (sp_check_among K)) {f : Addr} (D : ∃ fd, FnD K "broken_at" "broken_at" st_broken_at f fd) (hm : mg "broken_at" = some (.ref f)) : Cal P w K mg base 7 "broken_at" ["weights", "running", "bound"] (sp_broken_at K) := by
  obtain ⟨fd, F⟩ := D
  exact ⟨⟨f, fd, ok_broken_at T c_first_out c_check_bound c_check_among F, hm, F.kp, F.bindsN fun _ _ _ _ _ _ us hl => match us, hl with | [_, _, _], _ => rfl⟩⟩
/-! ### round_of -/
theorem ok_round_of (T : Txt K mg aNOUGHT aONE) (c_common : Cal P w K mg base 1 "common" ["one", "other"] (sp_common)) {f : Addr} {fd : FuncData} (F : FnD K "round_of" "round_of" st_round_of f fd) : FnOk P w K mg base CX0 2 f fd ["weights"] (sp_round_of) :=
  F.ok sc_round_of len1 (fun cdv A outer s H vs Q E hr h => ⟨_, PSs.nox (dv_round_of T c_common hr), by
    obtain ⟨_, rfl, h⟩ := h
    exact pu_round_of h⟩)
theorem cal_round_of (T : Txt K mg aNOUGHT aONE) (c_common : Cal P w K mg base 1 "common" ["one", "other"] (sp_common)) {f : Addr} (D : ∃ fd, FnD K "round_of" "round_of" st_round_of f fd) (hm : mg "round_of" = some (.ref f)) : Cal P w K mg base 2 "round_of" ["weights"] (sp_round_of) := by
  obtain ⟨fd, F⟩ := D
  exact ⟨⟨f, fd, ok_round_of T c_common F, hm, F.kp, F.bindsN fun _ _ _ _ _ _ us hl => match us, hl with | [_], _ => rfl⟩⟩
/-! ### dealt_for_ever -/
theorem ok_dealt_for_ever (T : Txt K mg aNOUGHT aONE) (c_Plan_init : KCal P w K mg base cPlan 5 "Plan" ["self", "spells"] (sp_Plan_init K cPlan)) (c_kept_by : Cal P w K mg base 6 "kept_by" ["plan", "bound"] (sp_kept_by K cPlan)) (c_less : Cal P w K mg base 1 "less" ["one", "other"] (sp_less K)) (c_round_of : Cal P w K mg base 2 "round_of" ["weights"] (sp_round_of)) (c_check_bound : Cal P w K mg base 3 "check_bound" ["bound"] (sp_check_bound K)) (c_check_weights : Cal P w K mg base 3 "check_weights" ["thing"] (sp_check_weights)) {f : Addr} {fd : FuncData} (F : FnD K "dealt_for_ever" "dealt_for_ever" st_dealt_for_ever f fd) : FnOk P w K mg base CX0 7 f fd ["weights", "bound"] (sp_dealt_for_ever K) :=
  F.ok sc_dealt_for_ever len2 (fun cdv A outer s H vs Q E hr h => ⟨_, PSs.nox (dv_dealt_for_ever T c_Plan_init c_kept_by c_less c_round_of c_check_bound c_check_weights hr), by
    obtain ⟨_, _, rfl, h⟩ := h
    exact pu_dealt_for_ever T h⟩)
theorem cal_dealt_for_ever (T : Txt K mg aNOUGHT aONE) (c_Plan_init : KCal P w K mg base cPlan 5 "Plan" ["self", "spells"] (sp_Plan_init K cPlan)) (c_kept_by : Cal P w K mg base 6 "kept_by" ["plan", "bound"] (sp_kept_by K cPlan)) (c_less : Cal P w K mg base 1 "less" ["one", "other"] (sp_less K)) (c_round_of : Cal P w K mg base 2 "round_of" ["weights"] (sp_round_of)) (c_check_bound : Cal P w K mg base 3 "check_bound" ["bound"] (sp_check_bound K)) (c_check_weights : Cal P w K mg base 3 "check_weights" ["thing"] (sp_check_weights)) {f : Addr} (D : ∃ fd, FnD K "dealt_for_ever" "dealt_for_ever" st_dealt_for_ever f fd) (hm : mg "dealt_for_ever" = some (.ref f)) : Cal P w K mg base 7 "dealt_for_ever" ["weights", "bound"] (sp_dealt_for_ever K) := by
  obtain ⟨fd, F⟩ := D
  exact ⟨⟨f, fd, ok_dealt_for_ever T c_Plan_init c_kept_by c_less c_round_of c_check_bound c_check_weights F, hm, F.kp, F.bindsN fun _ _ _ _ _ _ us hl => match us, hl with | [_, _], _ => rfl⟩⟩
/-! ### _law_cell_at -/
theorem ok__law_cell_at (T : Txt K mg aNOUGHT aONE)  {f : Addr} {fd : FuncData} (F : FnD K "_law_cell_at" "_law_cell_at" st__law_cell_at f fd) : FnOk P w K mg base CX0 1 f fd ["_law_script", "_law_k"] (sp__law_cell_at K) :=
  F.ok sc__law_cell_at len2 (fun cdv A outer s H vs Q E hr h => ⟨_, PSs.nox (dv__law_cell_at T hr), by
    obtain ⟨_, _, rfl, h⟩ := h
    exact pu__law_cell_at h⟩)
theorem cal__law_cell_at (T : Txt K mg aNOUGHT aONE)  {f : Addr} (D : ∃ fd, FnD K "_law_cell_at" "_law_cell_at" st__law_cell_at f fd) (hm : mg "_law_cell_at" = some (.ref f)) : Cal P w K mg base 1 "_law_cell_at" ["_law_script", "_law_k"] (sp__law_cell_at K) := by
  obtain ⟨fd, F⟩ := D
  exact ⟨⟨f, fd, ok__law_cell_at T F, hm, F.kp, F.bindsN fun _ _ _ _ _ _ us hl => match us, hl with | [_, _], _ => rfl⟩⟩
/-! ### _law_draw -/
theorem ok__law_draw (T : Txt K mg aNOUGHT aONE)  {f : Addr} {fd : FuncData} (F : FnD K "_law_draw" "_law_draw" st__law_draw f fd) : FnOk P w K mg base CX0 1 f fd ["_law_cell", "_law_k", "_law_bound"] (sp__law_draw) :=
  F.ok sc__law_draw len3 (fun cdv A outer s H vs Q E hr h => ⟨_, PSs.nox (dv__law_draw T hr), by
    obtain ⟨_, _, _, rfl, h⟩ := h
    exact pu__law_draw h⟩)
theorem cal__law_draw (T : Txt K mg aNOUGHT aONE)  {f : Addr} (D : ∃ fd, FnD K "_law_draw" "_law_draw" st__law_draw f fd) (hm : mg "_law_draw" = some (.ref f)) : Cal P w K mg base 1 "_law_draw" ["_law_cell", "_law_k", "_law_bound"] (sp__law_draw) := by
  obtain ⟨fd, F⟩ := D
  exact ⟨⟨f, fd, ok__law_draw T F, hm, F.kp, F.bindsN fun _ _ _ _ _ _ us hl => match us, hl with | [_, _, _], _ => rfl⟩⟩
/-! ### _law_by -/
theorem ok__law_by (T : Txt K mg aNOUGHT aONE)  {f : Addr} {fd : FuncData} (F : FnD K "_law_by" "_law_by" st__law_by f fd) : FnOk P w K mg base CX0 1 f fd ["_law_weights"] (sp__law_by) :=
  F.ok sc__law_by len1 (fun cdv A outer s H vs Q E hr h => ⟨_, PSs.nox (dv__law_by T hr), by
    obtain ⟨_, rfl, h⟩ := h
    exact pu__law_by h⟩)
theorem cal__law_by (T : Txt K mg aNOUGHT aONE)  {f : Addr} (D : ∃ fd, FnD K "_law_by" "_law_by" st__law_by f fd) (hm : mg "_law_by" = some (.ref f)) : Cal P w K mg base 1 "_law_by" ["_law_weights"] (sp__law_by) := by
  obtain ⟨fd, F⟩ := D
  exact ⟨⟨f, fd, ok__law_by T F, hm, F.kp, F.bindsN fun _ _ _ _ _ _ us hl => match us, hl with | [_], _ => rfl⟩⟩
/-! ### _law_near -/
theorem ok__law_near (T : Txt K mg aNOUGHT aONE) (c_count_at : Cal P w K mg base 6 "count_at" ["running", "one", "turns"] (sp_count_at K)) (c__law_draw : Cal P w K mg base 1 "_law_draw" ["_law_cell", "_law_k", "_law_bound"] (sp__law_draw)) {f : Addr} {fd : FuncData} (F : FnD K "_law_near" "_law_near" st__law_near f fd) : FnOk P w K mg base CX0 7 f fd ["_law_weights", "_law_running", "_law_cell"] (sp__law_near K) :=
  F.ok sc__law_near len3 (fun cdv A outer s H vs Q E hr h => ⟨_, PSs.nox (dv__law_near T c_count_at c__law_draw hr), by
    obtain ⟨_, _, _, rfl, h⟩ := h
    exact pu__law_near h⟩)
theorem cal__law_near (T : Txt K mg aNOUGHT aONE) (c_count_at : Cal P w K mg base 6 "count_at" ["running", "one", "turns"] (sp_count_at K)) (c__law_draw : Cal P w K mg base 1 "_law_draw" ["_law_cell", "_law_k", "_law_bound"] (sp__law_draw)) {f : Addr} (D : ∃ fd, FnD K "_law_near" "_law_near" st__law_near f fd) (hm : mg "_law_near" = some (.ref f)) : Cal P w K mg base 7 "_law_near" ["_law_weights", "_law_running", "_law_cell"] (sp__law_near K) := by
  obtain ⟨fd, F⟩ := D
  exact ⟨⟨f, fd, ok__law_near T c_count_at c__law_draw F, hm, F.kp, F.bindsN fun _ _ _ _ _ _ us hl => match us, hl with | [_, _, _], _ => rfl⟩⟩
/-! ### _law_keeper_right -/
theorem ok__law_keeper_right (T : Txt K mg aNOUGHT aONE) (c_lags_of : Cal P w K mg base 7 "lags_of" ["weights", "running"] (sp_lags_of K)) (c_broken_at : Cal P w K mg base 7 "broken_at" ["weights", "running", "bound"] (sp_broken_at K)) (c_Credits_step : MCal P w K mg base cCredits 4 "step" ["self"] (sp_Credits_step K cCredits)) (c_Credits_init : KCal P w K mg base cCredits 3 "Credits" ["self", "weights"] (sp_Credits_init K cCredits)) {f : Addr} {fd : FuncData} (F : FnD K "_law_keeper_right" "_law_keeper_right" st__law_keeper_right f fd) : FnOk P w K mg base CX0 8 f fd ["_law_weights", "_law_turns"] (sp__law_keeper_right) :=
  F.ok sc__law_keeper_right len2 (fun cdv A outer s H vs Q E hr h => ⟨_, PSs.nox (dv__law_keeper_right T c_lags_of c_broken_at c_Credits_step c_Credits_init hr), by
    obtain ⟨_, _, rfl, h⟩ := h
    exact pu__law_keeper_right h⟩)
theorem cal__law_keeper_right (T : Txt K mg aNOUGHT aONE) (c_lags_of : Cal P w K mg base 7 "lags_of" ["weights", "running"] (sp_lags_of K)) (c_broken_at : Cal P w K mg base 7 "broken_at" ["weights", "running", "bound"] (sp_broken_at K)) (c_Credits_step : MCal P w K mg base cCredits 4 "step" ["self"] (sp_Credits_step K cCredits)) (c_Credits_init : KCal P w K mg base cCredits 3 "Credits" ["self", "weights"] (sp_Credits_init K cCredits)) {f : Addr} (D : ∃ fd, FnD K "_law_keeper_right" "_law_keeper_right" st__law_keeper_right f fd) (hm : mg "_law_keeper_right" = some (.ref f)) : Cal P w K mg base 8 "_law_keeper_right" ["_law_weights", "_law_turns"] (sp__law_keeper_right) := by
  obtain ⟨fd, F⟩ := D
  exact ⟨⟨f, fd, ok__law_keeper_right T c_lags_of c_broken_at c_Credits_step c_Credits_init F, hm, F.kp, F.bindsN fun _ _ _ _ _ _ us hl => match us, hl with | [_, _], _ => rfl⟩⟩
/-! ### law -/
theorem ok_law (T : Txt K mg aNOUGHT aONE) (c_least_of : Cal P w K mg base 6 "least_of" ["running"] (sp_least_of K)) (c__law_keeper_right : Cal P w K mg base 8 "_law_keeper_right" ["_law_weights", "_law_turns"] (sp__law_keeper_right)) (c_broken_at : Cal P w K mg base 7 "broken_at" ["weights", "running", "bound"] (sp_broken_at K)) (c__law_near : Cal P w K mg base 7 "_law_near" ["_law_weights", "_law_running", "_law_cell"] (sp__law_near K)) (c_dealt_for_ever : Cal P w K mg base 7 "dealt_for_ever" ["weights", "bound"] (sp_dealt_for_ever K)) (c__law_by : Cal P w K mg base 1 "_law_by" ["_law_weights"] (sp__law_by)) (c__law_cell_at : Cal P w K mg base 1 "_law_cell_at" ["_law_script", "_law_k"] (sp__law_cell_at K)) (c__law_draw : Cal P w K mg base 1 "_law_draw" ["_law_cell", "_law_k", "_law_bound"] (sp__law_draw)) {f : Addr} {fd : FuncData} (F : FnD K "law" "law" st_law f fd) : FnOk P w K mg base CX0 9 f fd ["_law_script"] (sp_law K) :=
  F.ok sc_law len1 (fun cdv A outer s H vs Q E hr h => ⟨_, PSs.nox (dv_law T c_least_of c__law_keeper_right c_broken_at c__law_near c_dealt_for_ever c__law_by c__law_cell_at c__law_draw hr), by
    obtain ⟨_, rfl, h⟩ := h
    exact pu_law h⟩)
end
end Dt
set_option Elab.async false
set_option linter.all false
set_option maxRecDepth 100000
set_option maxHeartbeats 0
/-! Printed by gen2.py: the top's run. -/
namespace Dt
open PySem PySem.Spec PyProof.Rows L2
def mkF (x : Str) (st : Stmt) : He.DefD := ⟨(x, none), x, x, defArgs st, defBody st, defScope st, [], []⟩
def mkM (c m q : Str) (st : Stmt) : He.DefD := ⟨(c, some m), m, q, defArgs st, defBody st, defScope st, [], []⟩
def hfn0 : List He.DefD := [mkF "common" st_common, mkF "is_whole" st_is_whole, mkF "is_fraction" st_is_fraction, mkF "made" st_made, mkF "plus" st_plus, mkF "minus" st_minus, mkF "less" st_less, mkF "unsigned" st_unsigned, mkF "floor_of" st_floor_of, mkF "ceiling_of" st_ceiling_of, mkF "are_weights" st_are_weights, mkF "is_spell" st_is_spell, mkF "check_spells" st_check_spells, mkM "Plan" "many" "Plan.many" st_Plan_many, mkM "Plan" "dues_by_turns" "Plan.dues_by_turns" st_Plan_dues_by_turns, mkM "Plan" "__init__" "Plan.__init__" st_Plan_init, mkM "Credits" "__init__" "Credits.__init__" st_Credits_init, mkM "Credits" "step" "Credits.step" st_Credits_step, mkF "check_bound" st_check_bound, mkF "lag_keeps" st_lag_keeps, mkF "low_of" st_low_of, mkF "high_of" st_high_of, mkF "ranges_by_turns" st_ranges_by_turns, mkF "must_by" st_must_by, mkF "soonest" st_soonest, mkF "too_far" st_too_far, mkF "too_few" st_too_few, mkF "dealt" st_dealt, mkF "kept_by" st_kept_by, mkF "is_within" st_is_within]
def hfn1 : List He.DefD := [mkF "are_claimants" st_are_claimants, mkF "is_running" st_is_running, mkF "check_running" st_check_running, mkF "check_claimant" st_check_claimant, mkF "check_number" st_check_number, mkF "count_in" st_count_in, mkF "count_at" st_count_at, mkF "root_of" st_root_of, mkF "least_of" st_least_of, mkF "check_weights" st_check_weights, mkF "check_among" st_check_among, mkF "lag_of" st_lag_of, mkF "drift_of" st_drift_of, mkF "ends_of" st_ends_of, mkF "lags_of" st_lags_of, mkF "first_out" st_first_out, mkF "broken_at" st_broken_at, mkF "round_of" st_round_of, mkF "dealt_for_ever" st_dealt_for_ever, mkF "_law_cell_at" st__law_cell_at, mkF "_law_draw" st__law_draw, mkF "_law_by" st__law_by, mkF "_law_near" st__law_near, mkF "_law_keeper_right" st__law_keeper_right, mkF "law" st_law]
def hfn : List He.DefD := hfn0 ++ hfn1
def hfa0 : List He.Fa := [.int "MOST_SPELLS" 8, .int "MOST_TURNS" 240, .int "MOST_IN_SPELL" 60, .int "MOST_CLAIMANTS" 6, .int "MOST_WEIGHT" 1000, .int "MOST_BOUND" 300, .int "FAR" FARI, .glo "NOUGHT", .glo "ONE", .free "len", .free "sum", .free "max", .free "abs", .free "all", .free "range", .free "isinstance", .free "list", .free "tuple", .free "int", .free "bool", .cls "Plan", .noat "Plan" "kept", .noat "Plan" "table", .cls "Credits", .noat "Credits" "now", .noat "Credits" "owed", .noat "Credits" "row", .noat "Credits" "deeds", .glo "Plan", .glo "Credits"]
def hfa1 : List He.Fa := [.mkr "Plan", .mkr "Credits", .meth "Plan" "many", .meth "Plan" "dues_by_turns", .meth "Credits" "step", .glo "common", .glo "is_whole", .glo "is_fraction", .glo "made", .glo "plus", .glo "minus", .glo "less", .glo "unsigned", .glo "floor_of", .glo "ceiling_of", .glo "are_weights", .glo "is_spell", .glo "check_spells", .glo "check_bound", .glo "lag_keeps", .glo "low_of", .glo "high_of", .glo "ranges_by_turns", .glo "must_by", .glo "soonest", .glo "too_far", .glo "too_few", .glo "dealt", .glo "kept_by", .glo "is_within"]
def hfa2 : List He.Fa := [.glo "are_claimants", .glo "is_running", .glo "check_running", .glo "check_claimant", .glo "check_number", .glo "count_in", .glo "count_at", .glo "root_of", .glo "least_of", .glo "check_weights", .glo "check_among", .glo "lag_of", .glo "drift_of", .glo "ends_of", .glo "lags_of", .glo "first_out", .glo "broken_at", .glo "round_of", .glo "dealt_for_ever", .glo "_law_cell_at", .glo "_law_draw", .glo "_law_by", .glo "_law_near", .glo "_law_keeper_right", .glo "law"]
def hfa : List He.Fa := hfa0 ++ hfa1 ++ hfa2
def hloose0 : List PySem.Str := ["_wall", "DueError", "NoFraction", "NoPlan", "NoTurns", "NoClaimant", "NoBound", "NoNumber", "NoRunning", "TooMany", "NOUGHT", "ONE", "is_whole", "common", "is_fraction", "made", "plus", "minus", "times", "over", "less", "unsigned", "floor_of", "ceiling_of", "MOST_SPELLS", "MOST_TURNS", "MOST_IN_SPELL", "MOST_CLAIMANTS", "MOST_WEIGHT", "are_weights"]
def hloose1 : List PySem.Str := ["is_spell", "check_spells", "Plan", "Credits", "MOST_BOUND", "check_bound", "lag_keeps", "low_of", "high_of", "ranges_by_turns", "must_by", "soonest", "too_far", "too_few", "over_from", "dealt", "kept_by", "FAR", "is_within", "are_claimants", "is_running", "check_running", "check_claimant", "check_number", "count_in", "count_at", "root_of", "least_of", "check_weights", "check_among"]
def hloose2 : List PySem.Str := ["lag_of", "drift_of", "ends_of", "lags_of", "laps_till", "first_out", "broken_at", "round_of", "dealt_for_ever", "_law_cell_at", "_law_draw", "_law_by", "_law_near", "_law_keeper_right"]
def hloose : List PySem.Str := hloose0 ++ hloose1 ++ hloose2
abbrev hR : PySem.W.OpenRow := PySem.W.OpenLaw.row PySem.Challenge.rw_dueturns_k49_whole_kept_for_ever
def hTups (K : PySem.W.Frag) : Bool := He.tupB K "NOUGHT" [.int 0, .int 1] && He.tupB K "ONE" [.int 1, .int 1]
abbrev hAl : Type := Bool × He.AlD
def hObs (K : PySem.W.Frag) : hAl := (hTups K, He.obsD hfa hfn K)
def hVal : hAl := (true, He.valD hfn)
def hSays (K : PySem.W.Frag) : Prop := hObs K = hVal
def hObsG (g : Addr → Option Obj) : hAl := hObs (He.frG g (He.asD g 5))
def hHook : PySem.W.Hook where
  α := hAl
  obs := fun s => hObsG s.heap.get?
  val := fun _ => hVal
  says := fun _ h => ∃ K : PySem.W.Frag, K.In h ∧ hSays K
  of := fun _ _ e => ⟨_, He.frG_in, e⟩
  keeps := fun _ _ _ ⟨K, hK, c⟩ k => ⟨K, PySem.W.Frag.In.keeps hK k, c⟩
def hOb (s : PySem.W.SharedT) : hAl := hObsG (HandSHeadRun.getT s)
theorem hOb_eq (s : PySem.W.SharedT) : hOb s = hHook.obs s.abs := by
  have e : HandSHeadRun.getT s = s.abs.heap.get? := funext (HandSHeadRun.getT_eq s)
  show hObsG (HandSHeadRun.getT s) = hObsG s.abs.heap.get?
  rw [e]
theorem hRun (w : World) : HandSHeadRun.RunEq hR (PySem.W.view hR.prog [83]) hHook hOb 20000 hloose w := by
  intro os
  kernel_rfl
end Dt
set_option Elab.async false
set_option linter.all false
set_option maxRecDepth 100000
set_option maxHeartbeats 0
/-! Printed by gen2.py: what the top leaves, and the law. -/
namespace Dt
open PySem PySem.Spec PyProof.Rows L2
section
variable {K : PySem.W.Frag} {mg : Str → Option Value} {h : Heap}
theorem hSays.d (c : hSays K) : He.SaysD hfa hfn K := congrArg (fun z : hAl => z.2) c
theorem hSays.t (c : hSays K) : hTups K = true := congrArg (fun z : hAl => z.1) c
theorem hTxt (X : K.In h) (G : h.Ns mainGlobals mg) (s : hSays K) : Txt K mg (He.ga K "NOUGHT") (He.ga K "ONE") := by
  have c := s.d
  obtain ⟨tn, to⟩ := He.ba (show (He.tupB K "NOUGHT" [.int 0, .int 1] && He.tupB K "ONE" [.int 1, .int 1]) = true from s.t)
  exact {
    MOST_SPELLS := He.int_ok X G (c.fact 0 (f := .int "MOST_SPELLS" 8) rfl)
    MOST_TURNS := He.int_ok X G (c.fact 1 (f := .int "MOST_TURNS" 240) rfl)
    MOST_IN_SPELL := He.int_ok X G (c.fact 2 (f := .int "MOST_IN_SPELL" 60) rfl)
    MOST_CLAIMANTS := He.int_ok X G (c.fact 3 (f := .int "MOST_CLAIMANTS" 6) rfl)
    MOST_WEIGHT := He.int_ok X G (c.fact 4 (f := .int "MOST_WEIGHT" 1000) rfl)
    MOST_BOUND := He.int_ok X G (c.fact 5 (f := .int "MOST_BOUND" 300) rfl)
    FAR := He.int_ok X G (c.fact 6 (f := .int "FAR" FARI) rfl)
    NOUGHT := He.glo_ok X G (c.fact 7 (f := .glo "NOUGHT") rfl)
    ONE := He.glo_ok X G (c.fact 8 (f := .glo "ONE") rfl)
    tN := He.tupB_ok tn
    tO := He.tupB_ok to
    b_len := He.free_ok X G (c.fact 9 (f := .free "len") rfl)
    b_sum := He.free_ok X G (c.fact 10 (f := .free "sum") rfl)
    b_max := He.free_ok X G (c.fact 11 (f := .free "max") rfl)
    b_abs := He.free_ok X G (c.fact 12 (f := .free "abs") rfl)
    b_all := He.free_ok X G (c.fact 13 (f := .free "all") rfl)
    b_range := He.free_ok X G (c.fact 14 (f := .free "range") rfl)
    b_isinstance := He.free_ok X G (c.fact 15 (f := .free "isinstance") rfl)
    b_list := He.free_ok X G (c.fact 16 (f := .free "list") rfl)
    b_tuple := He.free_ok X G (c.fact 17 (f := .free "tuple") rfl)
    b_int := He.free_ok X G (c.fact 18 (f := .free "int") rfl)
    b_bool := He.free_ok X G (c.fact 19 (f := .free "bool") rfl)
  }
theorem hPlan (s : hSays K) : PlanC K (He.ga K "Plan") := by
  have c := s.d
  exact ⟨He.cls_ok (c.fact 20 (f := .cls "Plan") rfl), (He.noat_ok (c.fact 21 (f := .noat "Plan" "kept") rfl)), (He.noat_ok (c.fact 22 (f := .noat "Plan" "table") rfl))⟩
theorem hCredits (s : hSays K) : CredC K (He.ga K "Credits") := by
  have c := s.d
  exact ⟨He.cls_ok (c.fact 23 (f := .cls "Credits") rfl), (He.noat_ok (c.fact 24 (f := .noat "Credits" "now") rfl)), (He.noat_ok (c.fact 25 (f := .noat "Credits" "owed") rfl)), (He.noat_ok (c.fact 26 (f := .noat "Credits" "row") rfl)), (He.noat_ok (c.fact 27 (f := .noat "Credits" "deeds") rfl))⟩
theorem facts {P : Program} {w : World} {f : Addr} (X : K.In h) (G : h.Ns mainGlobals mg) (hfa : mg ("law" : Str) = some (.ref f)) (s : hSays K) :
    ∃ fd : FuncData, (∀ (s : Shared) (v : Value), BindsTo s fd ⟨[v], []⟩ [("_law_script", v)]) ∧ ∀ base : Heap, K.In base → base.Ns mainGlobals mg → FnOk P w K mg base CX0 9 f fd ["_law_script"] (sp_law K) := by
  have T := hTxt X G s
  have PC := hPlan s
  have CC := hCredits s
  have c := s.d
  obtain ⟨fd, F⟩ := c.def_ 54 (d := mkF "law" st_law) rfl
  have e := hfa.symm.trans (He.glo_ok X G (c.fact 84 (f := .glo "law") rfl))
  cases e
  have b := FunD.bindsA (ps := ["_law_script"]) F fun _ _ _ _ _ _ us hl => match us, hl with | [_], _ => rfl
  refine ⟨fd, fun s v => b s [v] rfl, fun base _ _ => ?_⟩
  have c_common := cal_common (P := P) (w := w) (base := base) T (c.def_ 0 (d := mkF "common" st_common) rfl) (He.glo_ok X G (c.fact 35 (f := .glo "common") rfl))
  have c_is_whole := cal_is_whole (P := P) (w := w) (base := base) T (c.def_ 1 (d := mkF "is_whole" st_is_whole) rfl) (He.glo_ok X G (c.fact 36 (f := .glo "is_whole") rfl))
  have c_is_fraction := cal_is_fraction (P := P) (w := w) (base := base) T c_common c_is_whole (c.def_ 2 (d := mkF "is_fraction" st_is_fraction) rfl) (He.glo_ok X G (c.fact 37 (f := .glo "is_fraction") rfl))
  have c_made := cal_made (P := P) (w := w) (base := base) T c_common (c.def_ 3 (d := mkF "made" st_made) rfl) (He.glo_ok X G (c.fact 38 (f := .glo "made") rfl))
  have c_plus := cal_plus (P := P) (w := w) (base := base) T c_made (c.def_ 4 (d := mkF "plus" st_plus) rfl) (He.glo_ok X G (c.fact 39 (f := .glo "plus") rfl))
  have c_minus := cal_minus (P := P) (w := w) (base := base) T c_made (c.def_ 5 (d := mkF "minus" st_minus) rfl) (He.glo_ok X G (c.fact 40 (f := .glo "minus") rfl))
  have c_less := cal_less (P := P) (w := w) (base := base) T (c.def_ 6 (d := mkF "less" st_less) rfl) (He.glo_ok X G (c.fact 41 (f := .glo "less") rfl))
  have c_unsigned := cal_unsigned (P := P) (w := w) (base := base) T (c.def_ 7 (d := mkF "unsigned" st_unsigned) rfl) (He.glo_ok X G (c.fact 42 (f := .glo "unsigned") rfl))
  have c_floor_of := cal_floor_of (P := P) (w := w) (base := base) T (c.def_ 8 (d := mkF "floor_of" st_floor_of) rfl) (He.glo_ok X G (c.fact 43 (f := .glo "floor_of") rfl))
  have c_ceiling_of := cal_ceiling_of (P := P) (w := w) (base := base) T (c.def_ 9 (d := mkF "ceiling_of" st_ceiling_of) rfl) (He.glo_ok X G (c.fact 44 (f := .glo "ceiling_of") rfl))
  have c_are_weights := cal_are_weights (P := P) (w := w) (base := base) T c_is_whole (c.def_ 10 (d := mkF "are_weights" st_are_weights) rfl) (He.glo_ok X G (c.fact 45 (f := .glo "are_weights") rfl))
  have c_is_spell := cal_is_spell (P := P) (w := w) (base := base) T c_are_weights c_is_whole (c.def_ 11 (d := mkF "is_spell" st_is_spell) rfl) (He.glo_ok X G (c.fact 46 (f := .glo "is_spell") rfl))
  have c_check_spells := cal_check_spells (P := P) (w := w) (base := base) T c_is_spell (c.def_ 12 (d := mkF "check_spells" st_check_spells) rfl) (He.glo_ok X G (c.fact 47 (f := .glo "check_spells") rfl))
  have c_Plan_many := cal_Plan_many (P := P) (w := w) (base := base) T PC (c.def_ 13 (d := mkM "Plan" "many" "Plan.many" st_Plan_many) rfl) PC.cl (He.meth_ok (c.fact 32 (f := .meth "Plan" "many") rfl))
  have c_Plan_dues_by_turns := cal_Plan_dues_by_turns (P := P) (w := w) (base := base) T PC c_made c_plus c_Plan_many (c.def_ 14 (d := mkM "Plan" "dues_by_turns" "Plan.dues_by_turns" st_Plan_dues_by_turns) rfl) PC.cl (He.meth_ok (c.fact 33 (f := .meth "Plan" "dues_by_turns") rfl))
  have c_Plan_init := cal_Plan_init (P := P) (w := w) (base := base) T PC c_Plan_dues_by_turns c_check_spells (c.def_ 15 (d := mkM "Plan" "__init__" "Plan.__init__" st_Plan_init) rfl) (He.mkr_ok (c.fact 30 (f := .mkr "Plan") rfl)) (He.glo_ok X G (c.fact 28 (f := .glo "Plan") rfl))
  have c_Credits_init := cal_Credits_init (P := P) (w := w) (base := base) T CC c_are_weights (c.def_ 16 (d := mkM "Credits" "__init__" "Credits.__init__" st_Credits_init) rfl) (He.mkr_ok (c.fact 31 (f := .mkr "Credits") rfl)) (He.glo_ok X G (c.fact 29 (f := .glo "Credits") rfl))
  have c_Credits_step := cal_Credits_step (P := P) (w := w) (base := base) T CC c_minus c_less c_made c_plus (c.def_ 17 (d := mkM "Credits" "step" "Credits.step" st_Credits_step) rfl) CC.cl (He.meth_ok (c.fact 34 (f := .meth "Credits" "step") rfl))
  have c_check_bound := cal_check_bound (P := P) (w := w) (base := base) T c_is_fraction c_less (c.def_ 18 (d := mkF "check_bound" st_check_bound) rfl) (He.glo_ok X G (c.fact 48 (f := .glo "check_bound") rfl))
  have c_lag_keeps := cal_lag_keeps (P := P) (w := w) (base := base) T c_unsigned c_less (c.def_ 19 (d := mkF "lag_keeps" st_lag_keeps) rfl) (He.glo_ok X G (c.fact 49 (f := .glo "lag_keeps") rfl))
  have c_low_of := cal_low_of (P := P) (w := w) (base := base) T c_minus c_floor_of (c.def_ 20 (d := mkF "low_of" st_low_of) rfl) (He.glo_ok X G (c.fact 50 (f := .glo "low_of") rfl))
  have c_high_of := cal_high_of (P := P) (w := w) (base := base) T c_plus c_ceiling_of (c.def_ 21 (d := mkF "high_of" st_high_of) rfl) (He.glo_ok X G (c.fact 51 (f := .glo "high_of") rfl))
  have c_ranges_by_turns := cal_ranges_by_turns (P := P) (w := w) (base := base) T PC c_high_of c_low_of (c.def_ 22 (d := mkF "ranges_by_turns" st_ranges_by_turns) rfl) (He.glo_ok X G (c.fact 52 (f := .glo "ranges_by_turns") rfl))
  have c_must_by := cal_must_by (P := P) (w := w) (base := base) T (c.def_ 23 (d := mkF "must_by" st_must_by) rfl) (He.glo_ok X G (c.fact 53 (f := .glo "must_by") rfl))
  have c_soonest := cal_soonest (P := P) (w := w) (base := base) T c_must_by (c.def_ 24 (d := mkF "soonest" st_soonest) rfl) (He.glo_ok X G (c.fact 54 (f := .glo "soonest") rfl))
  have c_too_far := cal_too_far (P := P) (w := w) (base := base) T (c.def_ 25 (d := mkF "too_far" st_too_far) rfl) (He.glo_ok X G (c.fact 55 (f := .glo "too_far") rfl))
  have c_too_few := cal_too_few (P := P) (w := w) (base := base) T (c.def_ 26 (d := mkF "too_few" st_too_few) rfl) (He.glo_ok X G (c.fact 56 (f := .glo "too_few") rfl))
  have c_dealt := cal_dealt (P := P) (w := w) (base := base) T c_too_few c_soonest c_too_far (c.def_ 27 (d := mkF "dealt" st_dealt) rfl) (He.glo_ok X G (c.fact 57 (f := .glo "dealt") rfl))
  have c_kept_by := cal_kept_by (P := P) (w := w) (base := base) T PC c_Plan_many c_ranges_by_turns c_dealt c_check_bound (c.def_ 28 (d := mkF "kept_by" st_kept_by) rfl) (He.glo_ok X G (c.fact 58 (f := .glo "kept_by") rfl))
  have c_is_within := cal_is_within (P := P) (w := w) (base := base) T c_is_whole (c.def_ 29 (d := mkF "is_within" st_is_within) rfl) (He.glo_ok X G (c.fact 59 (f := .glo "is_within") rfl))
  have c_are_claimants := cal_are_claimants (P := P) (w := w) (base := base) T c_is_within (c.def_ 30 (d := mkF "are_claimants" st_are_claimants) rfl) (He.glo_ok X G (c.fact 60 (f := .glo "are_claimants") rfl))
  have c_is_running := cal_is_running (P := P) (w := w) (base := base) T c_are_claimants (c.def_ 31 (d := mkF "is_running" st_is_running) rfl) (He.glo_ok X G (c.fact 61 (f := .glo "is_running") rfl))
  have c_check_running := cal_check_running (P := P) (w := w) (base := base) T c_is_running (c.def_ 32 (d := mkF "check_running" st_check_running) rfl) (He.glo_ok X G (c.fact 62 (f := .glo "check_running") rfl))
  have c_check_claimant := cal_check_claimant (P := P) (w := w) (base := base) T c_is_within (c.def_ 33 (d := mkF "check_claimant" st_check_claimant) rfl) (He.glo_ok X G (c.fact 63 (f := .glo "check_claimant") rfl))
  have c_check_number := cal_check_number (P := P) (w := w) (base := base) T c_is_within (c.def_ 34 (d := mkF "check_number" st_check_number) rfl) (He.glo_ok X G (c.fact 64 (f := .glo "check_number") rfl))
  have c_count_in := cal_count_in (P := P) (w := w) (base := base) T (c.def_ 35 (d := mkF "count_in" st_count_in) rfl) (He.glo_ok X G (c.fact 65 (f := .glo "count_in") rfl))
  have c_count_at := cal_count_at (P := P) (w := w) (base := base) T c_count_in c_check_number c_check_claimant c_check_running (c.def_ 36 (d := mkF "count_at" st_count_at) rfl) (He.glo_ok X G (c.fact 66 (f := .glo "count_at") rfl))
  have c_root_of := cal_root_of (P := P) (w := w) (base := base) T (c.def_ 37 (d := mkF "root_of" st_root_of) rfl) (He.glo_ok X G (c.fact 67 (f := .glo "root_of") rfl))
  have c_least_of := cal_least_of (P := P) (w := w) (base := base) T c_root_of c_check_running (c.def_ 38 (d := mkF "least_of" st_least_of) rfl) (He.glo_ok X G (c.fact 68 (f := .glo "least_of") rfl))
  have c_check_weights := cal_check_weights (P := P) (w := w) (base := base) T c_are_weights (c.def_ 39 (d := mkF "check_weights" st_check_weights) rfl) (He.glo_ok X G (c.fact 69 (f := .glo "check_weights") rfl))
  have c_check_among := cal_check_among (P := P) (w := w) (base := base) T c_check_running c_check_weights (c.def_ 40 (d := mkF "check_among" st_check_among) rfl) (He.glo_ok X G (c.fact 70 (f := .glo "check_among") rfl))
  have c_lag_of := cal_lag_of (P := P) (w := w) (base := base) T c_count_in c_made c_minus (c.def_ 41 (d := mkF "lag_of" st_lag_of) rfl) (He.glo_ok X G (c.fact 71 (f := .glo "lag_of") rfl))
  have c_drift_of := cal_drift_of (P := P) (w := w) (base := base) T c_made c_minus (c.def_ 42 (d := mkF "drift_of" st_drift_of) rfl) (He.glo_ok X G (c.fact 72 (f := .glo "drift_of") rfl))
  have c_ends_of := cal_ends_of (P := P) (w := w) (base := base) T c_less c_lag_of (c.def_ 43 (d := mkF "ends_of" st_ends_of) rfl) (He.glo_ok X G (c.fact 73 (f := .glo "ends_of") rfl))
  have c_lags_of := cal_lags_of (P := P) (w := w) (base := base) T c_ends_of c_drift_of c_check_among (c.def_ 44 (d := mkF "lags_of" st_lags_of) rfl) (He.glo_ok X G (c.fact 74 (f := .glo "lags_of") rfl))
  have c_first_out := cal_first_out (P := P) (w := w) (base := base) T c_lag_keeps c_lag_of c_drift_of (c.def_ 45 (d := mkF "first_out" st_first_out) rfl) (He.glo_ok X G (c.fact 75 (f := .glo "first_out") rfl))
  have c_broken_at := cal_broken_at (P := P) (w := w) (base := base) T c_first_out c_check_bound c_check_among (c.def_ 46 (d := mkF "broken_at" st_broken_at) rfl) (He.glo_ok X G (c.fact 76 (f := .glo "broken_at") rfl))
  have c_round_of := cal_round_of (P := P) (w := w) (base := base) T c_common (c.def_ 47 (d := mkF "round_of" st_round_of) rfl) (He.glo_ok X G (c.fact 77 (f := .glo "round_of") rfl))
  have c_dealt_for_ever := cal_dealt_for_ever (P := P) (w := w) (base := base) T c_Plan_init c_kept_by c_less c_round_of c_check_bound c_check_weights (c.def_ 48 (d := mkF "dealt_for_ever" st_dealt_for_ever) rfl) (He.glo_ok X G (c.fact 78 (f := .glo "dealt_for_ever") rfl))
  have c__law_cell_at := cal__law_cell_at (P := P) (w := w) (base := base) T (c.def_ 49 (d := mkF "_law_cell_at" st__law_cell_at) rfl) (He.glo_ok X G (c.fact 79 (f := .glo "_law_cell_at") rfl))
  have c__law_draw := cal__law_draw (P := P) (w := w) (base := base) T (c.def_ 50 (d := mkF "_law_draw" st__law_draw) rfl) (He.glo_ok X G (c.fact 80 (f := .glo "_law_draw") rfl))
  have c__law_by := cal__law_by (P := P) (w := w) (base := base) T (c.def_ 51 (d := mkF "_law_by" st__law_by) rfl) (He.glo_ok X G (c.fact 81 (f := .glo "_law_by") rfl))
  have c__law_near := cal__law_near (P := P) (w := w) (base := base) T c_count_at c__law_draw (c.def_ 52 (d := mkF "_law_near" st__law_near) rfl) (He.glo_ok X G (c.fact 82 (f := .glo "_law_near") rfl))
  have c__law_keeper_right := cal__law_keeper_right (P := P) (w := w) (base := base) T c_lags_of c_broken_at c_Credits_step c_Credits_init (c.def_ 53 (d := mkF "_law_keeper_right" st__law_keeper_right) rfl) (He.glo_ok X G (c.fact 83 (f := .glo "_law_keeper_right") rfl))
  exact ok_law T c_least_of c__law_keeper_right c_broken_at c__law_near c_dealt_for_ever c__law_by c__law_cell_at c__law_draw F
end
end Dt
open PySem PySem.W PySem.Calls PyProof.Rows
theorem PySem.Challenge.cw_dueturns_k49_whole_kept_for_ever_holds : PySem.Challenge.rw_dueturns_k49_whole_kept_for_ever.Holds := by
  w_on; o_law
  refine HandSHeadRun.head_any (r := OpenLaw.row PySem.Challenge.rw_dueturns_k49_whole_kept_for_ever) (q := view (OpenLaw.row PySem.Challenge.rw_dueturns_k49_whole_kept_for_ever).prog [83]) (H := Dt.hHook) (ob := Dt.hOb) (M := 20000) (loose := Dt.hloose)
    (d := HandSHeadRun.topDef (OpenLaw.row PySem.Challenge.rw_dueturns_k49_whole_kept_for_ever).prog 83) (kwd := []) Dt.hOb_eq
    (by kernel_rfl) (fun s => by kernel_rfl) Dt.hRun (by kernel_rfl) (by kernel_rfl) (by kernel_rfl) (by rfl) (by first | assumption | decide +kernel) (by decide +kernel) ⟨rfl, rfl, rfl, rfl, rfl, by decide +kernel⟩ ?hw ?hc
  case hw => w_witness2
  case hc =>
    refine L2.walk_ofE (l := PySem.Challenge.rw_dueturns_k49_whole_kept_for_ever) (n := 63) (k := 9) (x := "_law_script") (CX := L2.CX0) rfl (by decide) (by kernel_rfl) ⟨rfl, by decide, by decide⟩ ?F (fun _ _ _ _ z => z)
    intro w mg fa h Y G hmg0
    obtain ⟨K, KX, c⟩ := Y
    have hmg : mg ("law" : PySem.Str) = some (.ref fa) := by
      have e : (HandSHeadRun.topDef (OpenLaw.row PySem.Challenge.rw_dueturns_k49_whole_kept_for_ever).prog 83).name = ("law" : PySem.Str) := by kernel_rfl
      rw [← e]
      exact hmg0
    obtain ⟨fd, hb, hF⟩ := Dt.facts (P := (PySem.Challenge.rw_dueturns_k49_whole_kept_for_ever).prog) (w := w) KX G hmg c
    exact ⟨K, fd, Dt.sp_law K, KX, hb, fun H a ns hl _ hS => ⟨.ref a, rfl, a, ns, rfl, hS, hl, fun _ => rfl⟩, hF⟩
