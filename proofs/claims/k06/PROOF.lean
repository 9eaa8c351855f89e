import PyProof.Rows.All
import Wide.All
import OpenK.AllK
import Wide.FinOn
import HandS.ForMost
import HandS.Evl
import HandS.IsInst
import HandS.Wide
import HandS.TupAny
import HandS.Conv
import HandS.SortInts
import HandS.Deep
import HandS.Rev
import KE.SortData
import KE.SortKeyHeap
import HandS.SortKw
import PySem.Challenge.RW_shadowheaps_k06_first_sets
set_option Elab.async false
set_option linter.all false
set_option maxHeartbeats 4000000
set_option maxRecDepth 100000
/-! readings that end in a value of which something is said -/
namespace SH
open PySem PySem.Spec PyProof.Rows L2 Evl

def EvP (te : TE) (sg : L2.St) (H : Hp) (P : V → Hp → Prop) : Prop :=
  ∀ H1, Ex H H1 → ∀ Q : VK, (∀ v H2, Ex H1 H2 → P v H2 → Q v H2) → te sg H1 Q
def EvAP (ta : TA) (sg : L2.St) (H : Hp) (P : List V → Hp → Prop) : Prop :=
  ∀ H1, Ex H H1 → ∀ Q : List V → Hp → Prop, (∀ vs H2, Ex H1 H2 → P vs H2 → Q vs H2) → ta sg H1 Q
def RVP (r : R2) (x y : V) (H : Hp) (P : V → Hp → Prop) : Prop :=
  ∀ H1, Ex H H1 → ∀ Q : VK, (∀ v H2, Ex H1 H2 → P v H2 → Q v H2) → r x y H1 Q
def RCP (r : List V → Hp → VK → Prop) (vs : List V) (H : Hp) (P : V → Hp → Prop) : Prop :=
  ∀ H1, Ex H H1 → ∀ Q : VK, (∀ v H2, Ex H1 H2 → P v H2 → Q v H2) → r vs H1 Q
/-- a promise's end -/
def RetP (P : V → Hp → Prop) (H : Hp) (Q : VK) : Prop := ∀ v H2, Ex H H2 → P v H2 → Q v H2
def SpP (sp : Sp) (vs : List V) (H : Hp) (P : V → Hp → Prop) : Prop :=
  ∀ H1, Ex H H1 → ∀ Q : VK, RetP P H1 Q → ∀ E : XK, sp vs H1 Q E
def Mono (P : V → Hp → Prop) : Prop := ∀ v H H', Ex H H' → P v H → P v H'

section
variable {K : PySem.W.Frag} {sg : L2.St} {H H' : Hp} {ta tb te tx : TE} {t u : TT} {x y z v : V} {r : R2} {P A B : V → Hp → Prop} {D : Ends} {tu tw tz : TS}
theorem RetP.go {Q : VK} (k : RetP P H Q) (e : Ex H H') : RetP P H' Q := fun v H2 e2 p => k v H2 (e.trans e2) p
theorem EvP.mono (e : Ex H H') (h : EvP te sg H P) : EvP te sg H' P := fun H1 a Q q => h H1 (e.trans a) Q q
theorem EvP.imp (h : EvP te sg H A) (k : ∀ v H2, Ex H H2 → A v H2 → P v H2) : EvP te sg H P := fun H1 e Q q =>
  h H1 e Q fun v H2 e2 p => q v H2 e2 (k v H2 (e.trans e2) p)
theorem EvAP.mono {ta : TA} {A : List V → Hp → Prop} (e : Ex H H') (h : EvAP ta sg H A) : EvAP ta sg H' A := fun H1 a Q q => h H1 (e.trans a) Q q
theorem ev_P (h : Ev te sg H v) (k : ∀ H2, Ex H H2 → P v H2) : EvP te sg H P := fun H1 e Q q =>
  h H1 e Q fun H2 e2 => q v H2 e2 (k H2 (e.trans e2))
theorem ev_M (m : Mono P) (h : Ev te sg H v) (k : P v H) : EvP te sg H P := ev_P h fun H2 e => m v H H2 e k
theorem el_P {xs : List V} (h : EvL te sg H xs) (k : ∀ p H2, H p = none → Ex H H2 → H2 p = some (.lst xs) → P (.ref p) H2) : EvP te sg H P := fun H1 e Q q =>
  h H1 e Q fun p H2 hp e2 h2 => q _ H2 e2 (k p H2 (fresh_back e hp) (e.trans e2) h2)
theorem eu_P {xs : List V} (h : EvU te sg H xs) (k : ∀ p H2, H p = none → Ex H H2 → H2 p = some (.tup xs) → P (.ref p) H2) : EvP te sg H P := fun H1 e Q q =>
  h H1 e Q fun p H2 hp e2 h2 => q _ H2 e2 (k p H2 (fresh_back e hp) (e.trans e2) h2)
theorem P_ev (h : EvP te sg H (fun w _ => w = v)) : Ev te sg H v := fun H1 e Q q =>
  h H1 e Q fun w H2 e2 p => by rw [p]; exact q H2 e2
theorem RV.toP (h : RV r x y H z) (k : ∀ H2, Ex H H2 → P z H2) : RVP r x y H P := fun H1 e Q q => h H1 e Q fun H2 e2 => q z H2 e2 (k H2 (e.trans e2))
theorem RVP.mono (e : Ex H H') (h : RVP r x y H P) : RVP r x y H' P := fun H1 a Q q => h H1 (e.trans a) Q q
/-- two operands, something is known of each -/
theorem evp_op (mA : Mono A) (ha : EvP ta sg H A) (hb : EvP tb sg H B) (hr : ∀ x y H1, Ex H H1 → A x H1 → B y H1 → RVP r x y H1 P) : EvP (tOp r ta tb) sg H P := fun H1 e Q q =>
  ha H1 e _ fun x H2 e2 a => hb H2 (e.trans e2) _ fun y H3 e3 b =>
    hr x y H3 ((e.trans e2).trans e3) (mA x H2 H3 e3 a) b H3 (Ex.refl H3) Q fun v H4 e4 p => q v H4 ((e2.trans e3).trans e4) p
theorem evp_opV (ha : Ev ta sg H x) (hb : Ev tb sg H y) (hr : RVP r x y H P) : EvP (tOp r ta tb) sg H P := fun H1 e Q q =>
  ha H1 e _ fun H2 e2 => hb H2 (e.trans e2) _ fun H3 e3 => hr H3 ((e.trans e2).trans e3) Q fun v H4 e4 p => q v H4 ((e2.trans e3).trans e4) p
/-- the right operand's reading may lean on what the left one laid -/
theorem evp_opD (mA : Mono A) (ha : EvP ta sg H A) (hb : ∀ x H1, Ex H H1 → A x H1 → EvP tb sg H1 B) (hr : ∀ x y H1, Ex H H1 → A x H1 → B y H1 → RVP r x y H1 P) : EvP (tOp r ta tb) sg H P := fun H1 e Q q =>
  ha H1 e _ fun x H2 e2 a => hb x H2 (e.trans e2) a H2 (Ex.refl H2) _ fun y H3 e3 b =>
    hr x y H3 ((e.trans e2).trans e3) (mA x H2 H3 e3 a) b H3 (Ex.refl H3) Q fun v H4 e4 p => q v H4 ((e2.trans e3).trans e4) p
theorem eap_nil : EvAP tNil sg H (fun vs _ => vs = []) := fun H1 _ Q q => q [] H1 (Ex.refl H1) rfl
theorem eap_cons {tr : TA} {C : List V → Hp → Prop} (mA : Mono A) (h : EvP te sg H A) (hr : EvAP tr sg H C) : EvAP (tCons te tr) sg H (fun vs H2 => ∃ x ys, vs = x :: ys ∧ A x H2 ∧ C ys H2) := fun H1 e Q q =>
  h H1 e _ fun x H2 e2 a => hr H2 (e.trans e2) _ fun ys H3 e3 c => q (x :: ys) H3 (e2.trans e3) ⟨x, ys, rfl, mA x H2 H3 e3 a, c⟩
theorem ea_P {ta : TA} {vs : List V} {C : List V → Hp → Prop} (h : EvA ta sg H vs) (k : ∀ H2, Ex H H2 → C vs H2) : EvAP ta sg H C := fun H1 e Q q =>
  h H1 e Q fun H2 e2 => q vs H2 e2 (k H2 (e.trans e2))
/-- a call: exact arguments; arguments of which something is known -/
theorem evp_call {sp : Sp} {dvs vs : List V} {E : XK} {ta : TA} (h : EvA ta sg H vs) (hs : SpP sp (vs ++ dvs) H P) : EvP (tCall sp dvs E ta) sg H P := fun H1 e Q q =>
  h H1 e _ fun H2 e2 => hs H2 (e.trans e2) Q (fun v H3 e3 p => q v H3 (e2.trans e3) p) E
theorem evp_callP {sp : Sp} {dvs : List V} {E : XK} {ta : TA} {C : List V → Hp → Prop} (h : EvAP ta sg H C) (hs : ∀ vs H1, Ex H H1 → C vs H1 → SpP sp (vs ++ dvs) H1 P) : EvP (tCall sp dvs E ta) sg H P := fun H1 e Q q =>
  h H1 e _ fun vs H2 e2 c => hs vs H2 (e.trans e2) c H2 (Ex.refl H2) Q (fun v H3 e3 p => q v H3 (e2.trans e3) p) E
theorem evp_cb {r : List V → Hp → VK → Prop} {ta : TA} {vs : List V} (h : EvA ta sg H vs) (hr : RCP r vs H P) : EvP (tCB r ta) sg H P := fun H1 e Q q =>
  h H1 e _ fun H2 e2 => hr H2 (e.trans e2) Q fun v H3 e3 p => q v H3 (e2.trans e3) p
theorem evp_cbP {r : List V → Hp → VK → Prop} {ta : TA} {C : List V → Hp → Prop} (h : EvAP ta sg H C) (hr : ∀ vs H1, Ex H H1 → C vs H1 → RCP r vs H1 P) : EvP (tCB r ta) sg H P := fun H1 e Q q =>
  h H1 e _ fun vs H2 e2 c => hr vs H2 (e.trans e2) c H2 (Ex.refl H2) Q fun v H3 e3 p => q v H3 (e2.trans e3) p
theorem SpP.ev {sp : Sp} {vs : List V} (h : SpP sp vs H (fun w _ => w = v)) : SpV sp vs H v := fun H1 e Q q E =>
  h H1 e Q (fun w H2 e2 p => by rw [p]; exact q H2 e2) E
/-- statements -/
theorem s_asgP {i : Nat} (h : EvP te sg H P) (k : ∀ v H1, Ex H H1 → P v H1 → D.nx (sg.set i (some v)) H1) : tAsg te (gName i) D sg H := h H (Ex.refl H) _ k
theorem q_asgP {i : Nat} (h : EvP te sg H P) (k : ∀ v H1, Ex H H1 → P v H1 → tz D (sg.set i (some v)) H1) : tSeq (tAsg te (gName i)) tz D sg H := s_asgP (D := { D with nx := tz D }) h k
theorem s_retP (h : EvP te sg H P) (k : ∀ v H1, Ex H H1 → P v H1 → D.rt v H1) : tRet te D sg H := h H (Ex.refl H) _ k
theorem s_dropP (h : EvP te sg H P) (k : ∀ v H1, Ex H H1 → P v H1 → D.nx sg H1) : tDrop te D sg H := h H (Ex.refl H) _ k
theorem q_dropP (h : EvP te sg H P) (k : ∀ v H1, Ex H H1 → P v H1 → tz D sg H1) : tSeq (tDrop te) tz D sg H := s_dropP (D := { D with nx := tz D }) h k
theorem q_next (k : tz D sg H) : tSeq tNext tz D sg H := k
/-- a test of a value of which something is known -/
theorem et_testP {b : Bool} (h : EvP te sg H (fun w _ => w = .bl b)) : EvT (tTest te) sg H b := et_test (P_ev h)

/-! ### what stands where -/
def IT (K : PySem.W.Frag) (xs : List Int) : V → Hp → Prop := fun v H => ∃ a, v = .ref a ∧ SqT K H a (xs.map V.int)
def IL (K : PySem.W.Frag) (ns : List Int) : V → Hp → Prop := fun v H => ∃ a, v = .ref a ∧ SqL K H a (ns.map V.int)
def ITs (K : PySem.W.Frag) (H : Hp) : List V → List (List Int) → Prop := Paired (fun v xs => IT K xs v H)
def ILT (K : PySem.W.Frag) (ts : List (List Int)) : V → Hp → Prop := fun v H => ∃ a vs, v = .ref a ∧ SqL K H a vs ∧ ITs K H vs ts
/-- the same, the list to be changed -/
def LI (p : Addr) (ns : List Int) (H : Hp) : Prop := H p = some (.lst (ns.map V.int))
def LT (K : PySem.W.Frag) (p : Addr) (ts : List (List Int)) (H : Hp) : Prop := ∃ vs, H p = some (.lst vs) ∧ ITs K H vs ts
theorem mono_IT {xs : List Int} : Mono (IT K xs) := fun v H H' e ⟨a, h1, h2⟩ => ⟨a, h1, ex_t e h2⟩
theorem mono_IL {xs : List Int} : Mono (IL K xs) := fun v H H' e ⟨a, h1, h2⟩ => ⟨a, h1, ex_l e h2⟩
theorem ITs.mapR {H H' : Hp} (k : ∀ v xs, IT K xs v H → IT K xs v H') : ∀ {vs : List V} {ts : List (List Int)}, ITs K H vs ts → ITs K H' vs ts
  | _, _, .nil => .nil
  | _, _, .cons a b => .cons (k _ _ a) (ITs.mapR k b)
theorem ITs.ex {vs : List V} {ts : List (List Int)} (e : Ex H H') (h : ITs K H vs ts) : ITs K H' vs ts := h.mapR fun v xs => mono_IT v H H' e
theorem mono_ILT {ts : List (List Int)} : Mono (ILT K ts) := fun v H H' e ⟨a, vs, h1, h2, h3⟩ => ⟨a, vs, h1, ex_l e h2, h3.ex e⟩
theorem mono_is {w : V} : Mono (fun v _ => v = w) := fun v H H' e h => h
theorem LT.ex {p : Addr} {ts : List (List Int)} (e : Ex H H') (h : LT K p ts H) : LT K p ts H' := let ⟨vs, a, b⟩ := h; ⟨vs, e p _ a, b.ex e⟩
theorem LI.ex {p : Addr} {ns : List Int} (e : Ex H H') (h : LI p ns H) : LI p ns H' := e p _ h
/-- a tuple stays where a list is changed -/
theorem IT.upd {p : Addr} {us ws : List V} {xs : List Int} (hp : H p = some (.lst us)) (h : IT K xs v H) : IT K xs v (upd H p (.lst ws)) := by
  obtain ⟨a, h1, h2⟩ := h
  refine ⟨a, h1, ?_⟩
  rcases h2 with (h2 | ⟨o, h2⟩) | h2
  · exact Or.inl (Or.inl (by rw [upd_ne (ne_of h2 hp (fun z => nomatch z))]; exact h2))
  · exact Or.inl (Or.inr ⟨o, by rw [upd_ne (ne_of h2 hp (fun z => nomatch z))]; exact h2⟩)
  · exact Or.inr h2
theorem ITs.upd {p : Addr} {us ws zs : List V} {ts : List (List Int)} (hp : H p = some (.lst us)) (h : ITs K H zs ts) : ITs K (upd H p (.lst ws)) zs ts := h.mapR fun _ _ q => q.upd hp
theorem LT.ne {p q : Addr} {us ws : List V} {ts : List (List Int)} (hq : H q = some (.lst us)) (hn : p ≠ q) (h : LT K p ts H) : LT K p ts (L2.upd H q (.lst ws)) :=
  let ⟨vs, a, b⟩ := h; ⟨vs, by rw [upd_ne hn]; exact a, b.upd hq⟩
theorem LI.ne {p q : Addr} {o : HO} {ns : List Int} (hn : p ≠ q) (h : LI p ns H) : LI p ns (L2.upd H q o) := by
  unfold LI
  rw [upd_ne hn]
  exact h
theorem ITs.length {vs : List V} {ts : List (List Int)} (h : ITs K H vs ts) : vs.length = ts.length := Paired.length h
theorem ITs.app : ∀ {vs ws : List V} {ts us : List (List Int)}, ITs K H vs ts → ITs K H ws us → ITs K H (vs ++ ws) (ts ++ us)
  | _, _, _, _, .nil, s => s
  | _, _, _, _, .cons a b, s => .cons a (ITs.app b s)
theorem ITs.get : ∀ {vs : List V} {ts : List (List Int)} {i : Nat} {xs : List Int}, ITs K H vs ts → ts[i]? = some xs → ∃ v, vs[i]? = some v ∧ IT K xs v H
  | _, _, _, _, .nil, e => by simp at e
  | _, _, 0, _, .cons a _, e => by simp at e; subst e; exact ⟨_, rfl, a⟩
  | _, _, i + 1, _, .cons _ b, e => by
    obtain ⟨v, h1, h2⟩ := ITs.get (i := i) b (by simpa using e)
    exact ⟨v, by simpa using h1, h2⟩
theorem ITs.getV : ∀ {vs : List V} {ts : List (List Int)} {i : Nat} {v : V}, ITs K H vs ts → vs[i]? = some v → ∃ xs, ts[i]? = some xs ∧ IT K xs v H
  | _, _, _, _, .nil, e => by simp at e
  | _, _, 0, _, .cons a _, e => by simp at e; subst e; exact ⟨_, rfl, a⟩
  | _, _, i + 1, _, .cons _ b, e => by
    obtain ⟨v, h1, h2⟩ := ITs.getV (i := i) b (by simpa using e)
    exact ⟨v, by simpa using h1, h2⟩
theorem ITs.take : ∀ {vs : List V} {ts : List (List Int)} (n : Nat), ITs K H vs ts → ITs K H (vs.take n) (ts.take n)
  | _, _, 0, _ => .nil
  | _, _, _ + 1, .nil => .nil
  | _, _, n + 1, .cons a b => .cons a (ITs.take n b)
theorem ITs.drop : ∀ {vs : List V} {ts : List (List Int)} (n : Nat), ITs K H vs ts → ITs K H (vs.drop n) (ts.drop n)
  | _, _, 0, h => h
  | _, _, _ + 1, .nil => .nil
  | _, _, n + 1, .cons _ b => ITs.drop n b
theorem ITs.rev {vs : List V} {ts : List (List Int)} (h : ITs K H vs ts) : ITs K H vs.reverse ts.reverse := by
  induction h with
  | nil => exact .nil
  | cons a b ih =>
    rw [List.reverse_cons, List.reverse_cons]
    exact ih.app (.cons a .nil)
theorem LT.app {p : Addr} {us : List V} {ts : List (List Int)} {xs : List Int} (hp : H p = some (.lst us)) (h : ITs K H us ts) (hv : IT K xs v H) : LT K p (ts ++ [xs]) (L2.upd H p (.lst (us ++ [v]))) :=
  ⟨us ++ [v], upd_same, (h.app (.cons hv .nil)).upd hp⟩
/-- an item of a tuple of ints -/
theorem at_int {ns : List Int} {i : Int} {j : Nat} {n : Int} (e : i = (j : Int)) (h : ns[j]? = some n) : atI (ns.map V.int) i = some (.int n) :=
  at_of e (by rw [List.getElem?_map, h]; rfl)
end
end SH

/-! a def with its promise by name; the module's constants; loops and comprehensions in the words of ShA -/
namespace SH
open PySem PySem.Spec PyProof.Rows L2 Evl

/-- a def that stands under its own name and keeps its promise -/
def Cal (P : Program) (w : World) (K : PySem.W.Frag) (mg : Str → Option Value) (base : Heap) (x : Str) (k : Nat) (ps : List Str) (sp : Sp) : Prop :=
  ∃ f fd, mg x = some (.ref f) ∧ PySem.W.keepIn K (.ref f) = true ∧ Binds K fd ps [] ∧ FnOk P w K mg base CX0 k f fd ps sp
theorem cal_mk {P : Program} {w : World} {K : PySem.W.Frag} {mg : Str → Option Value} {base : Heap} {x q : Str} {st : Stmt} {f : Addr} {fd : FuncData} {k : Nat} {ps : List Str} {sp : Sp}
    (F : Fun K x q st f fd) (g : mg x = some (.ref f)) (b : Binds K fd ps []) (o : FnOk P w K mg base CX0 k f fd ps sp) : Cal P w K mg base x k ps sp := ⟨f, fd, g, F.kp, b, o⟩
section
variable {X : Cx} {x : Str} {p pos : Pos} {e : Expr} {es : List Expr} {t : TA} {k j : Nat} {ps : List Str} {sp : Sp}
theorem pe_cal (c : Cal X.prog X.w X.K X.mg X.base x k ps sp) (hr : Room k X.A) (hg : Gl X x) (ha : PA X (e :: es) t) (hdb : (x == ("__debug__" : Str)) = false := by decide)
    (he : starEach (e :: es) X.env = (false, eval e X.env) :: starEach es X.env := by rfl) (hpl : (backTo pos (starEach es X.env)).any (·.1) = false := by rfl) :
    PE X (.Call (.Name x p) (e :: es) [] pos) (tCall sp [] E0 t) := by
  obtain ⟨f, fd, g, kp, b, o⟩ := c
  exact pe_call o hr hg g kp b .nil pass0 ha hdb he hpl
theorem pe_gi {n : Int} (h : ∃ u, X.mg x = some (Value.int n u)) (hg : Gl X x) (hd : (x == ("__debug__" : Str)) = false := by decide) : PE X (.Name x p) (tC (.int n)) := by
  obtain ⟨u, h⟩ := h
  exact pe_glob hg h ⟨_, rfl⟩ hd
theorem pe_gs {z : Str} (h : ∃ u, X.mg x = some (Value.str z u)) (hg : Gl X x) (hd : (x == ("__debug__" : Str)) = false := by decide) : PE X (.Name x p) (tC (.str z)) := by
  obtain ⟨u, h⟩ := h
  exact pe_glob hg h ⟨_, rfl⟩ hd
theorem pi_listK {K : PySem.W.Frag} {tg l : Expr} {tl : TE} (hl : PE X l tl) (hK : X.K = K := by rfl) : PI X tg l (iList K tl) := by
  subst hK
  exact pi_list hl
theorem pi_tupK {K : PySem.W.Frag} {tg l : Expr} {tl : TE} (hl : PE X l tl) (hK : X.K = K := by rfl) : PI X tg l (iTup K tl) := by
  subst hK
  exact pi_tup hl
def rJoin (K : PySem.W.Frag) : V → List V → Hp → VK → Prop := fun x xs H Q => ∃ a p, ∃ ys : List Str, x = .str a ∧ xs = [.ref p] ∧ (SqL K H p (ys.map V.str) ∨ SqT K H p (ys.map V.str)) ∧
  (ys.map (·.length)).sum + ys.length * a.length ≤ 16777216 ∧ Q (.str (Txt.join a ys)) H
theorem pe_joinK {K : PySem.W.Frag} {o : Expr} {to te : TE} {apos : Pos} (ho : PE X o to) (he : PE X e te) (hK : X.K = K := by rfl) (hs : starEach [e] X.env = [(false, eval e X.env)] := by rfl) (hbase : attributeBase o "join" X.env (eval o X.env) = eval o X.env := by rfl) (hline : (apos.endLine == pos.line) = true := by rfl) :
    PE X (.Call (.Attribute o "join" apos) [e] [] pos) (tM1 (rJoin K) to te) := by
  subst hK
  exact pe_join ho he hs hbase hline
end
theorem un65 {k : Nat} {A : Around} (r : Room k A) : A.units + 65 < cLine := by
  have := r.un
  omega
/-- the module's ints -/
theorem gi_of {K : PySem.W.Frag} {h : Heap} {mg : Str → Option Value} {x : Str} {n : Int} {u : Tok} (X : K.In h) (G : h.Ns mainGlobals mg) (a : PySem.W.nsIn K mainGlobals x = some (some (.int n u))) : ∃ u, mg x = some (Value.int n u) :=
  ⟨u, PySem.W.mg_of X G a⟩

section
variable {K : PySem.W.Frag} {sg : L2.St} {H H' : Hp} {ta tb te tx tl : TE} {t : TT} {x y z v : V} {r : R2} {P A B : V → Hp → Prop} {D : Ends} {tu tw tz : TS}
theorem ev_cal {sp : Sp} {vs : List V} {E : XK} {ta : TA} (h : EvA ta sg H vs) (hs : SpV sp vs H z) : Ev (tCall sp [] E ta) sg H z := ev_call h (by rw [List.append_nil]; exact hs)
theorem el_cal {sp : Sp} {vs xs : List V} {E : XK} {ta : TA} (h : EvA ta sg H vs) (hs : SpL sp vs H xs) : EvL (tCall sp [] E ta) sg H xs := el_call h (by rw [List.append_nil]; exact hs)
theorem evp_cal {sp : Sp} {vs : List V} {E : XK} {ta : TA} (h : EvA ta sg H vs) (hs : SpP sp vs H P) : EvP (tCall sp [] E ta) sg H P := evp_call h (by rw [List.append_nil]; exact hs)
theorem given_all (n : Nat) (f : Nat → V) : given n (fun _ => true) f = (List.range n).map f := by
  unfold given
  rw [List.filter_eq_self.mpr (fun _ _ => rfl)]
theorem et_yes : EvT tYes sg H true := fun H1 _ Q q => q H1 (Ex.refl H1)
/-! ### operators -/
theorem rv_div {i j : Int} (h : 0 < j ∧ j < 2 ^ 64) : RV (rI CDivW fun i j => .int (i / j)) (.int i) (.int j) H (.int (i / j)) :=
  rv_I (wide_div (b := 64) h.1 (by omega) (by decide) (by decide))
theorem rv_mul {i j : Int} (a b : Nat) (ha : i.natAbs < 2 ^ a) (hb : j.natAbs < 2 ^ b) (h : a + b ≤ 1000000 := by decide) (h0 : 0 < a := by decide) (h1 : 0 < b := by decide) :
    RV (rI CMulW fun i j => .int (i * j)) (.int i) (.int j) H (.int (i * j)) := rv_I (wide_mul ha hb h0 h1 h)
theorem rv_mod {i j : Int} (h : 0 < j) : RV (rI (fun _ j => 0 < j) fun i j => .int (i % j)) (.int i) (.int j) H (.int (i % j)) := rv_I h
theorem rv_pow {i j : Int} (h : CPow i j) : RV (rI CPow fun i j => .int (i ^ j.toNat)) (.int i) (.int j) H (.int (i ^ j.toNat)) := rv_I h
/-- + of two lists just laid -/
theorem el_cat {xs ys : List V} (ha : EvL ta sg H xs) (hb : EvL tb sg H ys) (hz : xs.length + ys.length ≤ 100000) : EvL (tOp rCat ta tb) sg H (xs ++ ys) := fun H1 e Q q =>
  ha H1 e _ fun l H2 hl e2 h2 => hb H2 (e.trans e2) _ fun b H3 hb3 e3 h3 =>
    ⟨l, b, xs, ys, rfl, rfl, e3 l _ h2, h3, sz_of hz, fun p hp => q p _ (fresh_back (e2.trans e3) hp) ((e2.trans e3).trans (Ex.new hp)) upd_same⟩
/-- + of two lists that stand -/
theorem el_catV {a b : Addr} {xs ys : List V} (ha : Ev ta sg H (.ref a)) (hb : Ev tb sg H (.ref b)) (h1 : H a = some (.lst xs)) (h2 : H b = some (.lst ys)) (hz : xs.length + ys.length ≤ 100000) : EvL (tOp rCat ta tb) sg H (xs ++ ys) := fun H1 e Q q =>
  ha H1 e _ fun H2 e2 => hb H2 (e.trans e2) _ fun H3 e3 =>
    ⟨a, b, xs, ys, rfl, rfl, ((e.trans e2).trans e3) a _ h1, ((e.trans e2).trans e3) b _ h2, sz_of hz, fun p hp => q p _ (fresh_back (e2.trans e3) hp) ((e2.trans e3).trans (Ex.new hp)) upd_same⟩
/-- len of a list or a tuple -/
theorem ev_lenT {p : Addr} {xs : List V} (ha : Ev ta sg H (.ref p)) (h : SqT K H p xs) : Ev (tCB (rLenS K) (tCons ta tNil)) sg H (.int (xs.length : Int)) := fun H1 e Q q =>
  ha H1 e _ fun H2 e2 => ⟨p, xs, rfl, Or.inr (ex_t (e.trans e2) h), q H2 e2⟩
theorem ev_min2 {i j : Int} (ha : Ev ta sg H (.int i)) (hb : Ev tb sg H (.int j)) : Ev (tCB (fun xs H Q => ∃ i j, xs = [.int i, .int j] ∧ Q (.int (if j < i then j else i)) H) (tCons ta (tCons tb tNil))) sg H (.int (min i j)) := fun H1 e Q q =>
  ha H1 e _ fun H2 e2 => hb H2 (e.trans e2) _ fun H3 e3 => ⟨i, j, rfl, by
    have h := q H3 (e2.trans e3)
    have em : min i j = if j < i then j else i := by
      split <;> omega
    rw [em] at h
    exact h⟩
theorem ev_maxx {i j : Int} (ha : Ev ta sg H (.int i)) (hb : Ev tb sg H (.int j)) : Ev (tCB (fun xs H Q => ∃ i j, xs = [.int i, .int j] ∧ Q (.int (if j > i then j else i)) H) (tCons ta (tCons tb tNil))) sg H (.int (max i j)) := fun H1 e Q q =>
  ha H1 e _ fun H2 e2 => hb H2 (e.trans e2) _ fun H3 e3 => ⟨i, j, rfl, by
    have h := q H3 (e2.trans e3)
    have em : max i j = if j > i then j else i := by
      split <;> omega
    rw [em] at h
    exact h⟩
/-- isinstance of a value against a built-in class -/
theorem ev_isi {a b : String} {k : Bool} (ha : Ev ta sg H x) (hx : ∀ H1, Ex H H1 → TyX K H1 x (.type a)) (hk : kitB a b = some k) : Ev (tCB (rIsi K) (tCons ta (tCons (tC (.ty b)) tNil))) sg H (.bl k) := fun H1 e Q q =>
  ha H1 e _ fun H2 e2 => ⟨x, .ty b, .type a, .type b, k, rfl, .ty b, hx H2 (e.trans e2), kit_ty hk, q H2 e2⟩
/-! ### loops whose counted name goes down or by steps -/
theorem s_forR3 {ta : TA} {j : Nat} {lo hi c : Int} {n : Nat} (h : EvA ta sg H [.int lo, .int hi, .int c]) (hn : RgC lo hi c n) (Pv : Nat → L2.St → Hp → Prop) (h0 : ∀ H1, Ex H H1 → Pv 0 sg H1)
    (hs : ∀ (i : Nat) s' H', i < n → Pv i s' H' → tu { D with nx := Pv (i + 1), ct := Pv (i + 1), bk := D.nx } (s'.set j (some (.int (lo + (i : Nat) * c)))) H') (hd : ∀ s' H', Pv n s' H' → D.nx s' H') : tFor (iRng3 ta) (gName j) tu D sg H :=
  h H (Ex.refl H) _ fun H1 e => ⟨lo, hi, c, n, rfl, hn, for_rangeC (lo := lo) (c := c) (n := n) Pv (h0 H1 e) (fun i s' H' q p => hs i s' H' q p) hd⟩
theorem q_forR3 {ta : TA} {j : Nat} {lo hi c : Int} {n : Nat} (h : EvA ta sg H [.int lo, .int hi, .int c]) (hn : RgC lo hi c n) (Pv : Nat → L2.St → Hp → Prop) (h0 : ∀ H1, Ex H H1 → Pv 0 sg H1)
    (hs : ∀ (i : Nat) s' H', i < n → Pv i s' H' → tu { D with nx := Pv (i + 1), ct := Pv (i + 1), bk := tz D } (s'.set j (some (.int (lo + (i : Nat) * c)))) H') (hd : ∀ s' H', Pv n s' H' → tz D s' H') : tSeq (tFor (iRng3 ta) (gName j) tu) tz D sg H :=
  s_forR3 (D := { D with nx := tz D }) h hn Pv h0 hs hd
/-- over a tuple, the target a name -/
theorem s_forTn {a : Addr} {xs : List V} {tl : TE} {j : Nat} (h : Ev tl sg H (.ref a)) (hx : SqT K H a xs) (Pv : Nat → L2.St → Hp → Prop) (h0 : ∀ H1, Ex H H1 → Pv 0 sg H1) (hl : ∀ i s' H', i ≤ xs.length → Pv i s' H' → SqT K H' a xs)
    (hs : ∀ i x s' H', xs[i]? = some x → Pv i s' H' → tu { D with nx := Pv (i + 1), ct := Pv (i + 1), bk := D.nx } (s'.set j (some x)) H') (hd : ∀ s' H', Pv xs.length s' H' → D.nx s' H') : tFor (iTup K tl) (gName j) tu D sg H :=
  s_forT h hx Pv h0 hl hs hd
theorem q_forTn {a : Addr} {xs : List V} {tl : TE} {j : Nat} (h : Ev tl sg H (.ref a)) (hx : SqT K H a xs) (Pv : Nat → L2.St → Hp → Prop) (h0 : ∀ H1, Ex H H1 → Pv 0 sg H1) (hl : ∀ i s' H', i ≤ xs.length → Pv i s' H' → SqT K H' a xs)
    (hs : ∀ i x s' H', xs[i]? = some x → Pv i s' H' → tu { D with nx := Pv (i + 1), ct := Pv (i + 1), bk := tz D } (s'.set j (some x)) H') (hd : ∀ s' H', Pv xs.length s' H' → tz D s' H') : tSeq (tFor (iTup K tl) (gName j) tu) tz D sg H :=
  q_forT h hx Pv h0 hl hs hd
/-! ### a comprehension whose elements are told by a word -/
/-- ys: what the turns have given so far, told by W of the turn -/
def CwP (H : Hp) (W : Nat → List V → Hp → Prop) (Dl : Addr) (i : Nat) (H' : Hp) : Prop := H Dl = none ∧ Ex H H' ∧ ∃ ys, H' Dl = some (.lst ys) ∧ ys.length ≤ i ∧ W i ys H'
/-- a word of values that stays while heaps grow and while the list at another place changes -/
structure WMono (H : Hp) (W : Nat → List V → Hp → Prop) : Prop where
  ex : ∀ i ys H1 H2, Ex H1 H2 → W i ys H1 → W i ys H2
  upd : ∀ i ys H1 p us ws, H1 p = some (.lst us) → H p = none → W i ys H1 → W i ys (L2.upd H1 p (.lst ws))
theorem cwp_turn {W : Nat → List V → Hp → Prop} {Dl : Addr} {i : Nat} {s2 : L2.St} {b : Bool} (m : WMono H W) (p : CwP H W Dl i H') (hi : i < 50000) (ht : EvT t s2 H b)
    (he : b = true → ∀ ys H1, Ex H H1 → W i ys H1 → EvP te s2 H1 (fun y H2 => W (i + 1) (ys ++ [y]) H2)) (hn : b = false → ∀ ys H1, W i ys H1 → W (i + 1) ys H1) :
    t s2 H' fun b H3 => if b = true then te s2 H3 fun y H4 => ∃ acc, H4 Dl = some (.lst acc) ∧ acc.length < sizeLine ∧ CwP H W Dl (i + 1) (L2.upd H4 Dl (.lst (acc ++ [y]))) else CwP H W Dl (i + 1) H3 := by
  obtain ⟨p1, p2, ys, p3, p4, p5⟩ := p
  refine ht H' p2 _ fun H3 e3 => ?_
  have w3 := m.ex _ _ _ _ e3 p5
  cases b with
  | true =>
    show te s2 H3 fun y H4 => ∃ acc, H4 Dl = some (.lst acc) ∧ acc.length < sizeLine ∧ CwP H W Dl (i + 1) (L2.upd H4 Dl (.lst (acc ++ [y])))
    refine he rfl ys H3 (p2.trans e3) w3 H3 (Ex.refl H3) _ fun y H4 e4 q => ⟨ys, e4 Dl _ (e3 Dl _ p3), sz_lt (by omega), p1, Ex.mut ((p2.trans e3).trans e4) p1, ys ++ [y], upd_same, ?_, ?_⟩
    · rw [List.length_append, List.length_singleton]
      omega
    · exact m.upd _ _ _ _ _ _ (e4 Dl _ (e3 Dl _ p3)) p1 q
  | false =>
    show CwP H W Dl (i + 1) H3
    exact ⟨p1, p2.trans e3, ys, e3 Dl _ p3, by omega, hn rfl ys H3 w3⟩
/-- what a comprehension hands back -/
def LcR (H : Hp) (W : List V → Hp → Prop) : V → Hp → Prop := fun v H2 => ∃ p ys, v = .ref p ∧ H p = none ∧ H2 p = some (.lst ys) ∧ W ys H2
theorem evp_lcR1 {ta : TA} {j : Nat} {vs : List Nat} {n : Int} (f : Nat → Bool) (W : Nat → List V → Hp → Prop) (m : ∀ H1, Ex H H1 → WMono H1 W) (h : EvA ta sg H [.int n]) (hn : 0 ≤ n ∧ n ≤ 40000) (hw : ∀ x, wipe ((wipe sg vs).set j (some x)) vs = wipe sg vs)
    (h0 : ∀ H1, Ex H H1 → W 0 [] H1) (ht : ∀ (i : Nat) H1, Ex H H1 → (i : Int) < n → EvT t ((wipe sg vs).set j (some (.int (i : Int)))) H1 (f i))
    (he : ∀ (i : Nat) ys H1, Ex H H1 → (i : Int) < n → f i = true → W i ys H1 → EvP te ((wipe sg vs).set j (some (.int (i : Int)))) H1 (fun y H2 => W (i + 1) (ys ++ [y]) H2))
    (hf : ∀ (i : Nat) ys H1, (i : Int) < n → f i = false → W i ys H1 → W (i + 1) ys H1) :
    EvP (tLc (iRng1 ta) (gName j) t te vs) sg H (LcR H (W n.toNat)) := fun H0 e Q q => h H0 e _ fun H1 e1 => ⟨n, rfl, by omega, by omega, fun Dl hD =>
  lc_range (lo := 0) (n := n.toNat) (CwP H1 W Dl) ⟨hD, Ex.new hD, [], upd_same, Nat.le_refl _, h0 _ ((e.trans e1).trans (Ex.new hD))⟩ (fun i H' hi p => by
    have e0 : (0 : Int) + (i : Int) = (i : Int) := Int.zero_add _
    show wipe ((wipe sg vs).set j (some (.int ((0 : Int) + (i : Int))))) vs = wipe sg vs ∧ t ((wipe sg vs).set j (some (.int ((0 : Int) + (i : Int))))) H' fun b H3 => if b = true then te ((wipe sg vs).set j (some (.int ((0 : Int) + (i : Int))))) H3 fun y H4 => ∃ acc, H4 Dl = some (.lst acc) ∧ acc.length < sizeLine ∧ CwP H1 W Dl (i + 1) (L2.upd H4 Dl (.lst (acc ++ [y]))) else CwP H1 W Dl (i + 1) H3
    rw [e0]
    exact ⟨hw _, cwp_turn (m H1 (e.trans e1)) p (by omega) (ht i H1 (e.trans e1) (by omega)) (fun hb ys H2 e2 w => he i ys H2 ((e.trans e1).trans e2) (by omega) hb w) (fun hb ys H2 w => hf i ys H2 (by omega) hb w)⟩) (fun H' p => by
    obtain ⟨p1, p2, ys, p3, _, p5⟩ := p
    exact q _ H' (e1.trans p2) ⟨Dl, ys, rfl, fresh_back (e.trans e1) p1, p3, p5⟩)⟩
theorem evp_lcL {a : Addr} {xs : List V} {j : Nat} {vs : List Nat} (f : Nat → Bool) (W : Nat → List V → Hp → Prop) (m : ∀ H1, Ex H H1 → WMono H1 W) (h : Ev tl sg H (.ref a)) (hx : SqL K H a xs) (hz : xs.length ≤ 40000) (hw : ∀ x, wipe ((wipe sg vs).set j (some x)) vs = wipe sg vs)
    (h0 : ∀ H1, Ex H H1 → W 0 [] H1) (ht : ∀ (i : Nat) (x : V) H1, Ex H H1 → xs[i]? = some x → EvT t ((wipe sg vs).set j (some x)) H1 (f i))
    (he : ∀ (i : Nat) (x : V) ys H1, Ex H H1 → xs[i]? = some x → f i = true → W i ys H1 → EvP te ((wipe sg vs).set j (some x)) H1 (fun y H2 => W (i + 1) (ys ++ [y]) H2))
    (hf : ∀ (i : Nat) ys H1, i < xs.length → f i = false → W i ys H1 → W (i + 1) ys H1) :
    EvP (tLc (iList K tl) (gName j) t te vs) sg H (LcR H (W xs.length)) := fun H0 e Q q => h H0 e _ fun H1 e1 => ⟨a, rfl, ⟨xs, ex_l (e.trans e1) hx⟩, fun Dl hD =>
  lc_list (xs := xs) (CwP H1 W Dl) ⟨hD, Ex.new hD, [], upd_same, Nat.le_refl _, h0 _ ((e.trans e1).trans (Ex.new hD))⟩ (fun i H' _ p => ex_l ((e.trans e1).trans p.2.1) hx) (fun i x H' hi p =>
    have hl : i < xs.length := (List.getElem?_eq_some_iff.mp hi).1
    ⟨hw x, cwp_turn (m H1 (e.trans e1)) p (by omega) (ht i x H1 (e.trans e1) hi) (fun hb ys H2 e2 w => he i x ys H2 ((e.trans e1).trans e2) hi hb w) (fun hb ys H2 w => hf i ys H2 hl hb w)⟩) (fun H' p => by
    obtain ⟨p1, p2, ys, p3, _, p5⟩ := p
    exact q _ H' (e1.trans p2) ⟨Dl, ys, rfl, fresh_back (e.trans e1) p1, p3, p5⟩)⟩
end
end SH

/-! lists and tuples of ints, lists of such tuples, as data: ==, in -/
namespace SH
open PySem PySem.Spec PyProof.Rows L2 Evl
def dI (ns : List Int) : List PyData := ns.map .int
def dT (ns : List Int) : PyData := .tuple (dI ns)
def dLI (ns : List Int) : PyData := .list (dI ns)
def dLT (ts : List (List Int)) : PyData := .list (ts.map dT)
def dLB (bs : List Bool) : PyData := .list (bs.map .bool)
theorem eqvAll_I : ∀ xs ys : List Int, PyData.eqvAll (dI xs) (dI ys) = decide (xs = ys)
  | [], [] => by simp [dI, PyData.eqvAll]
  | [], y :: ys => by simp [dI, PyData.eqvAll]
  | x :: xs, [] => by simp [dI, PyData.eqvAll]
  | x :: xs, y :: ys => by
    show (PyData.eqv (.int x) (.int y) && PyData.eqvAll (dI xs) (dI ys)) = _
    rw [eqvAll_I xs ys]
    simp only [PyData.eqv]
    by_cases h : x = y <;> by_cases h2 : xs = ys <;> simp [h, h2]
theorem eqv_T (xs ys : List Int) : PyData.eqv (dT xs) (dT ys) = decide (xs = ys) := by
  show PyData.eqv (.tuple (dI xs)) (.tuple (dI ys)) = _
  simp only [PyData.eqv]
  exact eqvAll_I xs ys
theorem eqv_LI (xs ys : List Int) : PyData.eqv (dLI xs) (dLI ys) = decide (xs = ys) := by
  show PyData.eqv (.list (dI xs)) (.list (dI ys)) = _
  simp only [PyData.eqv]
  exact eqvAll_I xs ys
theorem eqvAll_T : ∀ xs ys : List (List Int), PyData.eqvAll (xs.map dT) (ys.map dT) = decide (xs = ys)
  | [], [] => by simp [PyData.eqvAll]
  | [], y :: ys => by simp [PyData.eqvAll]
  | x :: xs, [] => by simp [PyData.eqvAll]
  | x :: xs, y :: ys => by
    show (PyData.eqv (dT x) (dT y) && PyData.eqvAll (xs.map dT) (ys.map dT)) = _
    rw [eqvAll_T xs ys, eqv_T]
    by_cases h : x = y <;> by_cases h2 : xs = ys <;> simp [h, h2]
theorem eqv_LT (xs ys : List (List Int)) : PyData.eqv (dLT xs) (dLT ys) = decide (xs = ys) := by
  show PyData.eqv (.list (xs.map dT)) (.list (ys.map dT)) = _
  simp only [PyData.eqv]
  exact eqvAll_T xs ys
theorem eqvAll_B : ∀ xs ys : List Bool, PyData.eqvAll (xs.map .bool) (ys.map .bool) = decide (xs = ys)
  | [], [] => by simp [PyData.eqvAll]
  | [], y :: ys => by simp [PyData.eqvAll]
  | x :: xs, [] => by simp [PyData.eqvAll]
  | x :: xs, y :: ys => by
    show (PyData.eqv (.bool x) (.bool y) && PyData.eqvAll (xs.map .bool) (ys.map .bool)) = _
    rw [eqvAll_B xs ys]
    simp only [PyData.eqv]
    cases x <;> cases y <;> by_cases h2 : xs = ys <;> simp [h2]
theorem eqv_LB (xs ys : List Bool) : PyData.eqv (dLB xs) (dLB ys) = decide (xs = ys) := by
  show PyData.eqv (.list (xs.map .bool)) (.list (ys.map .bool)) = _
  simp only [PyData.eqv]
  exact eqvAll_B xs ys
theorem lay_I : ∀ xs : List Int, PyData.canLayAll0 (dI xs) = true
  | [] => by simp [dI, PyData.canLayAll0]
  | x :: xs => by
    have ih := lay_I xs
    show (PyData.canLay0 (.int x) && PyData.canLayAll0 (dI xs)) = true
    rw [ih]
    simp [PyData.canLay0]
theorem dep_I : ∀ xs : List Int, PyData.depthAll (dI xs) = 0
  | [] => by simp [dI, PyData.depthAll]
  | x :: xs => by
    have ih := dep_I xs
    show max (PyData.depth (.int x)) (PyData.depthAll (dI xs)) = 0
    rw [ih]
    simp [PyData.depth]
theorem sh_T (xs : List Int) : SeqAt.shaped (dT xs) = true := by
  unfold SeqAt.shaped dT
  simp [PyData.canLay0, PyData.depth, lay_I, dep_I]
theorem sh_LI (xs : List Int) : SeqAt.shaped (dLI xs) = true := by
  unfold SeqAt.shaped dLI
  simp [PyData.canLay0, PyData.depth, lay_I, dep_I]
theorem lay_LT : ∀ xs : List (List Int), PyData.canLayAll0 (xs.map dT) = true ∧ PyData.depthAll (xs.map dT) ≤ 1
  | [] => by simp [PyData.canLayAll0, PyData.depthAll]
  | x :: xs => by
    have ih := lay_LT xs
    refine ⟨?_, ?_⟩
    · show (PyData.canLay0 (dT x) && PyData.canLayAll0 (xs.map dT)) = true
      rw [ih.1]
      simp [dT, PyData.canLay0, lay_I]
    · show max (PyData.depth (dT x)) (PyData.depthAll (xs.map dT)) ≤ 1
      have : PyData.depth (dT x) = 1 := by simp [dT, PyData.depth, dep_I]
      omega
theorem sh_LT (xs : List (List Int)) : SeqAt.shaped (dLT xs) = true := by
  have h := lay_LT xs
  unfold SeqAt.shaped dLT
  simp [PyData.canLay0, PyData.depth, h.1]
  omega
theorem lay_LB : ∀ xs : List Bool, PyData.canLayAll0 (xs.map PyData.bool) = true ∧ PyData.depthAll (xs.map PyData.bool) = 0
  | [] => by simp [PyData.canLayAll0, PyData.depthAll]
  | x :: xs => by
    have ih := lay_LB xs
    refine ⟨?_, ?_⟩
    · show (PyData.canLay0 (.bool x) && PyData.canLayAll0 (xs.map PyData.bool)) = true
      rw [ih.1]
      simp [PyData.canLay0]
    · show max (PyData.depth (.bool x)) (PyData.depthAll (xs.map PyData.bool)) = 0
      rw [ih.2]
      simp [PyData.depth]
theorem sh_LB (xs : List Bool) : SeqAt.shaped (dLB xs) = true := by
  have h := lay_LB xs
  unfold SeqAt.shaped dLB
  simp [PyData.canLay0, PyData.depth, h.1, h.2]
section
variable {K : PySem.W.Frag} {sg : L2.St} {H H' : Hp} {ta tb te tx tl : TE} {t : TT} {x y z v : V} {r : R2} {P A B : V → Hp → Prop}
theorem dpa_I : ∀ xs : List Int, DpAll K H (xs.map V.int) (dI xs)
  | [] => .nil
  | x :: xs => .cons (.int x) (dpa_I xs)
theorem dpa_B : ∀ xs : List Bool, DpAll K H (xs.map V.bl) (xs.map .bool)
  | [] => .nil
  | x :: xs => .cons (.bl x) (dpa_B xs)
theorem dp_T {xs : List Int} (h : IT K xs v H) : Dp K H v (dT xs) := by
  obtain ⟨a, rfl, h⟩ := h
  exact .tup h (dpa_I xs)
theorem dp_LI {xs : List Int} (h : IL K xs v H) : Dp K H v (dLI xs) := by
  obtain ⟨a, rfl, h⟩ := h
  exact .lst h (dpa_I xs)
theorem dpa_T {vs : List V} {ts : List (List Int)} (h : ITs K H vs ts) : DpAll K H vs (ts.map dT) := by
  induction h with
  | nil => exact .nil
  | cons a b ih => exact .cons (dp_T a) ih
theorem dp_LT {ts : List (List Int)} (h : ILT K ts v H) : Dp K H v (dLT ts) := by
  obtain ⟨a, vs, rfl, h1, h2⟩ := h
  exact .lst h1 (dpa_T h2)
theorem dp_LB {p : Addr} {bs : List Bool} (h : SqL K H p (bs.map V.bl)) : Dp K H (.ref p) (dLB bs) := .lst h (dpa_B bs)
/-- == and != of data -/
theorem rvp_eqD {d e : PyData} {b : Bool} (h1 : Dp K H x d) (h2 : Dp K H y e) (s1 : SeqAt.shaped d = true) (s2 : SeqAt.shaped e = true) (hb : PyData.eqv d e = b) (m1 : ∀ H1, Ex H H1 → Dp K H1 x d) (m2 : ∀ H1, Ex H H1 → Dp K H1 y e) :
    RVP (rEqD K) x y H (fun v _ => v = .bl b) := fun H1 e1 Q q => ⟨d, e, m1 H1 e1, m2 H1 e1, s1, s2, by rw [hb]; exact q _ H1 (Ex.refl H1) rfl⟩
theorem rvp_eqLT {ts us : List (List Int)} (h1 : ILT K ts x H) (h2 : ILT K us y H) : RVP (rEqD K) x y H (fun v _ => v = .bl (decide (ts = us))) :=
  rvp_eqD (dp_LT h1) (dp_LT h2) (sh_LT _) (sh_LT _) (eqv_LT _ _) (fun H1 e => dp_LT (mono_ILT _ _ _ e h1)) (fun H1 e => dp_LT (mono_ILT _ _ _ e h2))
theorem rvp_eqLI {ts us : List Int} (h1 : IL K ts x H) (h2 : IL K us y H) : RVP (rEqD K) x y H (fun v _ => v = .bl (decide (ts = us))) :=
  rvp_eqD (dp_LI h1) (dp_LI h2) (sh_LI _) (sh_LI _) (eqv_LI _ _) (fun H1 e => dp_LI (mono_IL _ _ _ e h1)) (fun H1 e => dp_LI (mono_IL _ _ _ e h2))
theorem rvp_eqT {ts us : List Int} (h1 : IT K ts x H) (h2 : IT K us y H) : RVP (rEqD K) x y H (fun v _ => v = .bl (decide (ts = us))) :=
  rvp_eqD (dp_T h1) (dp_T h2) (sh_T _) (sh_T _) (eqv_T _ _) (fun H1 e => dp_T (mono_IT _ _ _ e h1)) (fun H1 e => dp_T (mono_IT _ _ _ e h2))
theorem rvp_neD {d e : PyData} {b : Bool} (s1 : SeqAt.shaped d = true) (s2 : SeqAt.shaped e = true) (hb : PyData.eqv d e = b) (m1 : ∀ H1, Ex H H1 → Dp K H1 x d) (m2 : ∀ H1, Ex H H1 → Dp K H1 y e) :
    RVP (rNeD K) x y H (fun v _ => v = .bl (!b)) := fun H1 e1 Q q => ⟨d, e, m1 H1 e1, m2 H1 e1, s1, s2, by rw [hb]; exact q _ H1 (Ex.refl H1) rfl⟩
theorem rvp_neLT {ts us : List (List Int)} (h1 : ILT K ts x H) (h2 : ILT K us y H) : RVP (rNeD K) x y H (fun v _ => v = .bl (!decide (ts = us))) :=
  rvp_neD (sh_LT _) (sh_LT _) (eqv_LT _ _) (fun H1 e => dp_LT (mono_ILT _ _ _ e h1)) (fun H1 e => dp_LT (mono_ILT _ _ _ e h2))
theorem rvp_neLI {ts us : List Int} (h1 : IL K ts x H) (h2 : IL K us y H) : RVP (rNeD K) x y H (fun v _ => v = .bl (!decide (ts = us))) :=
  rvp_neD (sh_LI _) (sh_LI _) (eqv_LI _ _) (fun H1 e => dp_LI (mono_IL _ _ _ e h1)) (fun H1 e => dp_LI (mono_IL _ _ _ e h2))
theorem any_T (ts : List (List Int)) (xs : List Int) : (ts.map dT).any (fun z => PyData.eqv z (dT xs)) = decide (xs ∈ ts) := by
  induction ts with
  | nil => rfl
  | cons t ts ih =>
    rw [List.map_cons, List.any_cons, ih, eqv_T]
    by_cases h : t = xs
    · simp [h]
    · have h' : ¬ xs = t := fun e => h e.symm
      by_cases h2 : xs ∈ ts <;> simp [h, h', h2]
/-- a tuple in a list of tuples -/
theorem rvp_inLT {ts : List (List Int)} {xs : List Int} (h1 : IT K xs x H) (h2 : ILT K ts y H) : RVP (rInD K) x y H (fun v _ => v = .bl (decide (xs ∈ ts))) := fun H1 e1 Q q =>
  ⟨dT xs, ts.map dT, dp_T (mono_IT _ _ _ e1 h1), dp_LT (mono_ILT _ _ _ e1 h2), sh_T xs, sh_LT ts, by rw [any_T]; exact q _ H1 (Ex.refl H1) rfl⟩
theorem rvp_notInLT {ts : List (List Int)} {xs : List Int} (h1 : IT K xs x H) (h2 : ILT K ts y H) : RVP (rNotInD K) x y H (fun v _ => v = .bl (!decide (xs ∈ ts))) := fun H1 e1 Q q =>
  ⟨dT xs, ts.map dT, dp_T (mono_IT _ _ _ e1 h1), dp_LT (mono_ILT _ _ _ e1 h2), sh_T xs, sh_LT ts, by rw [any_T]; exact q _ H1 (Ex.refl H1) rfl⟩
theorem inV_ints (ns : List Int) (k : Int) : inV (.int k) (ns.map V.int) = decide (k ∈ ns) := by
  unfold inV
  induction ns with
  | nil => rfl
  | cons n ns ih =>
    rw [List.map_cons, List.any_cons, ih]
    by_cases h : n = k
    · subst h; simp [eqV]
    · have h' : ¬ k = n := fun e => h e.symm
      by_cases h2 : k ∈ ns <;> simp [h', h2, eqV, h]
theorem flat_ints (ns : List Int) : (ns.map V.int).all flatV = true := by
  rw [List.all_eq_true]
  intro x hx
  obtain ⟨n, _, rfl⟩ := List.mem_map.mp hx
  rfl
/-- an int in a tuple, in a list of ints -/
theorem rv_inTI {p : Addr} {ns : List Int} {k : Int} (h : SqT K H p (ns.map V.int)) : RV (rIn K false) (.int k) (.ref p) H (.bl (decide (k ∈ ns))) := by
  have q := rv_isT (x := .int k) h rfl (flat_ints ns)
  rw [inV_ints] at q
  exact q
theorem rv_niTI {p : Addr} {ns : List Int} {k : Int} (h : SqT K H p (ns.map V.int)) : RV (rIn K true) (.int k) (.ref p) H (.bl (!decide (k ∈ ns))) := by
  have q := rv_niT (x := .int k) h rfl (flat_ints ns)
  rw [inV_ints] at q
  exact q
/-- slices -/
theorem cut_last (xs : List V) (v : V) : cutV (xs ++ [v]) none (some (-1)) = xs := by
  unfold cutV
  have h1 : HT.sIx (xs ++ [v]).length (xs ++ [v]).length (some (-1)) = xs.length := by
    show (if (-1 : Int) < 0 then ((-1 : Int) + ((xs ++ [v]).length : Int)).toNat else min (-1 : Int).toNat (xs ++ [v]).length) = xs.length
    rw [if_pos (by decide), List.length_append, List.length_singleton]
    omega
  rw [HT.sIx_none, h1, List.drop_zero, Nat.sub_zero]
  exact List.take_left
theorem cut_to (xs : List V) (n : Nat) : cutV xs none (some (n : Int)) = xs.take n := by
  unfold cutV
  rw [HT.sIx_none, HT.sIx_nat, List.drop_zero, Nat.sub_zero]
  rcases Nat.lt_or_ge n xs.length with h | h
  · rw [Nat.min_eq_left (Nat.le_of_lt h)]
  · rw [Nat.min_eq_right h, List.take_of_length_le (Nat.le_refl _), List.take_of_length_le h]
theorem cut_from (xs : List V) (n : Nat) : cutV xs (some (n : Int)) none = xs.drop n := by
  unfold cutV
  rw [HT.sIx_none, HT.sIx_nat]
  rcases Nat.lt_or_ge n xs.length with h | h
  · rw [Nat.min_eq_left (Nat.le_of_lt h), List.take_of_length_le (by rw [List.length_drop]; exact Nat.le_refl _)]
  · rw [Nat.min_eq_right h, List.drop_of_length_le (Nat.le_refl _), List.drop_of_length_le h, List.take_nil]
/-- sum of a list of ints just laid -/
theorem ev_sum {ns : List Int} (ha : EvL ta sg H (ns.map V.int)) : Ev (tCB (rSum K) (tCons ta tNil)) sg H (.int ns.sum) := fun H1 e Q q =>
  ha H1 e _ fun p H2 _ e2 h2 => ⟨p, ns, rfl, sq_of h2, q H2 e2⟩
end
end SH

/-! readings of tuples of ints and of lists of such tuples -/
namespace SH
open PySem PySem.Spec PyProof.Rows L2 Evl
/-- a list of tuples just laid -/
def LTn (K : PySem.W.Frag) (H : Hp) (ts : List (List Int)) : V → Hp → Prop := fun v H2 => ∃ p, v = .ref p ∧ H p = none ∧ LT K p ts H2
section
variable {K : PySem.W.Frag} {sg : L2.St} {H H' H0 : Hp} {ta tb te tx tl : TE} {t u : TT} {x y z v : V} {r : R2} {P A B : V → Hp → Prop} {D : Ends} {tu tw tz : TS}
theorem LT.il {p : Addr} {ts : List (List Int)} (h : LT K p ts H) : ILT K ts (.ref p) H := let ⟨vs, a, b⟩ := h; ⟨p, vs, rfl, sq_of a, b⟩
theorem LTn.il {ts : List (List Int)} (h : LTn K H0 ts v H) : ILT K ts v H := by
  obtain ⟨p, rfl, _, h⟩ := h
  exact h.il
theorem evp_il {ts : List (List Int)} (h : EvP te sg H (LTn K H ts)) : EvP te sg H (ILT K ts) := h.imp fun _ _ _ q => q.il
theorem evp_catT {xs ys : List Int} (ha : EvP ta sg H (IT K xs)) (hb : EvP tb sg H (IT K ys)) (hz : xs.length + ys.length ≤ 100000) : EvP (tOp (rCatA K) ta tb) sg H (IT K (xs ++ ys)) :=
  evp_op mono_IT ha hb fun x y H1 e ⟨a, h1, h2⟩ ⟨b, h3, h4⟩ H2 e2 Q q => ⟨a, b, _, _, h1, h3, ex_t e2 h2, ex_t e2 h4, by rw [List.length_map, List.length_map]; exact sz_of hz,
    fun h0 => q _ H2 (Ex.refl H2) ⟨b, rfl, by rw [List.map_append, h0]; exact ex_t e2 h4⟩,
    fun _ h0 => q _ H2 (Ex.refl H2) ⟨a, rfl, by rw [List.map_append, h0, List.append_nil]; exact ex_t e2 h2⟩,
    fun _ _ p hp => q _ _ (Ex.new hp) ⟨p, rfl, Or.inl (Or.inl (by rw [upd_same, List.map_append]))⟩⟩
theorem evp_tupI {ta : TA} {ns : List Int} (h : EvA ta sg H (ns.map V.int)) (hl : ns.length ≤ 100000) : EvP (tTup ta) sg H (IT K ns) := eu_P (eu_tup h (by rw [List.length_map]; exact hl)) fun p H2 _ _ h => ⟨p, rfl, st_of h⟩
theorem evp_it {a : Addr} {ns : List Int} (h : Ev te sg H (.ref a)) (hs : SqT K H a (ns.map V.int)) : EvP te sg H (IT K ns) := ev_P h fun H2 e => ⟨a, rfl, ex_t e hs⟩
theorem evp_itV {ns : List Int} (h : Ev te sg H v) (hs : IT K ns v H) : EvP te sg H (IT K ns) := ev_P h fun H2 e => mono_IT _ _ _ e hs
theorem evp_ltV {ts : List (List Int)} (h : Ev te sg H v) (hs : ILT K ts v H) : EvP te sg H (ILT K ts) := ev_P h fun H2 e => mono_ILT _ _ _ e hs
theorem evp_lst1 {xs : List Int} (h : EvP te sg H (IT K xs)) : EvP (tLst (tCons te tNil)) sg H (LTn K H [xs]) := fun H1 e Q q =>
  h H1 e _ fun v H2 e2 hv => ⟨sz_of (by show 1 ≤ 100000; decide), fun p hp => q _ _ (e2.trans (Ex.new hp)) ⟨p, rfl, fresh_back (e.trans e2) hp, [v], upd_same, .cons (mono_IT _ _ _ (Ex.new hp) hv) .nil⟩⟩
theorem ty_SqL {a : Addr} {xs : List V} (h : SqL K H a xs) : TyX K H (.ref a) (.type "list") := by
  rcases h with (h | ⟨o, h⟩) | ⟨o, its, n, h1, h2, _⟩
  · exact .base (.lst h)
  · exact .base (.frz h)
  · exact .kList h1 h2
theorem ty_SqT {a : Addr} {xs : List V} (h : SqT K H a xs) : TyX K H (.ref a) (.type "tuple") := by
  rcases h with (h | ⟨o, h⟩) | ⟨o, its, n, h1, h2, _⟩
  · exact .base (.tup h)
  · exact .fTuple h
  · exact .kTuple h1 h2
theorem ty_IT {xs : List Int} (h : IT K xs v H) : TyX K H v (.type "tuple") := by
  obtain ⟨a, rfl, h⟩ := h
  exact ty_SqT h
theorem ty_ILT {xs : List (List Int)} (h : ILT K xs v H) : TyX K H v (.type "list") := by
  obtain ⟨a, vs, rfl, h, _⟩ := h
  exact ty_SqL h
/-- t[lo:hi] of a tuple of ints -/
theorem evp_slT {tl th : TO} {xs ys : List Int} {lo hi : Option Int} (h : EvP te sg H (IT K xs)) (h1 : EvO tl sg H lo) (h2 : EvO th sg H hi) (hy : cutV (xs.map V.int) lo hi = ys.map V.int) : EvP (tSl (rSlA K) te tl th) sg H (IT K ys) := fun H1 e Q q =>
  h H1 e _ fun v H2 e2 ⟨a, hv, hs⟩ => h1 H2 (e.trans e2) _ fun H3 e3 => h2 H3 ((e.trans e2).trans e3) _ fun H4 e4 =>
    ⟨a, xs.map V.int, hv, ex_t (e3.trans e4) hs, fun ⟨w1, w2⟩ => by
      subst hv
      refine q _ H4 ((e2.trans e3).trans e4) ⟨a, rfl, ?_⟩
      rw [← hy]
      unfold cutV
      rw [w1, w2, List.drop_zero, Nat.sub_zero, List.take_of_length_le (Nat.le_refl _)]
      exact ex_t (e3.trans e4) hs, fun _ p hp => q _ _ (((e2.trans e3).trans e4).trans (Ex.new hp)) ⟨p, rfl, Or.inl (Or.inl (by rw [upd_same, hy]))⟩⟩
/-- ts[lo:hi] of a list of tuples -/
theorem evp_slLT {tl th : TO} {ts us : List (List Int)} {lo hi : Option Int} (h : EvP te sg H (ILT K ts)) (h1 : EvO tl sg H lo) (h2 : EvO th sg H hi) (hy : ∀ (H2 : Hp) (vs : List V), ITs K H2 vs ts → ITs K H2 (cutV vs lo hi) us) : EvP (tSl (rSlL K) te tl th) sg H (LTn K H us) := fun H1 e Q q =>
  h H1 e _ fun v H2 e2 ⟨a, vs, hv, hs, hT⟩ => h1 H2 (e.trans e2) _ fun H3 e3 => h2 H3 ((e.trans e2).trans e3) _ fun H4 e4 =>
    ⟨a, vs, hv, ex_l (e3.trans e4) hs, fun p hp => q _ _ (((e2.trans e3).trans e4).trans (Ex.new hp)) ⟨p, rfl, fresh_back (((e.trans e2).trans e3).trans e4) hp, _, upd_same, (hy _ _ (hT.ex (e3.trans e4))).ex (Ex.new hp)⟩⟩
theorem cut_toT {ts : List (List Int)} (n : Nat) : ∀ (H2 : Hp) (vs : List V), ITs K H2 vs ts → ITs K H2 (cutV vs none (some (n : Int))) (ts.take n) := fun H2 vs h => by
  rw [cut_to]
  exact h.take n
theorem cut_fromT {ts : List (List Int)} (n : Nat) : ∀ (H2 : Hp) (vs : List V), ITs K H2 vs ts → ITs K H2 (cutV vs (some (n : Int)) none) (ts.drop n) := fun H2 vs h => by
  rw [cut_from]
  exact h.drop n
theorem cut_lastV (vs : List V) : cutV vs none (some (-1)) = vs.dropLast := by
  rcases List.eq_nil_or_concat vs with h | ⟨r, t, h⟩
  · subst h
    rfl
  · subst h
    rw [List.concat_eq_append, cut_last, List.dropLast_concat]
theorem cut_lastT {ts : List (List Int)} : ∀ (H2 : Hp) (vs : List V), ITs K H2 vs ts → ITs K H2 (cutV vs none (some (-1))) ts.dropLast := fun H2 vs h => by
  rw [cut_lastV, List.dropLast_eq_take, List.dropLast_eq_take, h.length]
  exact h.take _
theorem rvp_ixLT {a : Addr} {vs : List V} {ts : List (List Int)} {i : Int} {j : Nat} {xs : List Int} (hs : SqL K H a vs) (hT : ITs K H vs ts) (e : i = (j : Int)) (hj : ts[j]? = some xs) : RVP (rIxL K) (.ref a) (.int i) H (IT K xs) := by
  obtain ⟨v, h1, h2⟩ := hT.get hj
  exact RV.toP (rv_ixL hs (at_of e h1)) fun H2 e2 => mono_IT _ _ _ e2 h2
theorem evp_ixLT {ts : List (List Int)} {i : Int} {j : Nat} {xs : List Int} (ha : EvP ta sg H (ILT K ts)) (hb : Ev tb sg H (.int i)) (e : i = (j : Int)) (hj : ts[j]? = some xs) : EvP (tOp (rIxL K) ta tb) sg H (IT K xs) :=
  evp_op (B := fun w _ => w = .int i) mono_ILT ha (ev_P hb fun _ _ => rfl) fun x y H1 e1 ⟨a, vs, hx, hs, hT⟩ hy => by
    subst hx
    subst hy
    exact rvp_ixLT hs hT e hj
theorem ev_ixIT {xs : List Int} {i n : Int} {j : Nat} (ha : EvP ta sg H (IT K xs)) (hb : Ev tb sg H (.int i)) (e : i = (j : Int)) (hj : xs[j]? = some n) : Ev (tOp (rIxT K) ta tb) sg H (.int n) :=
  P_ev (evp_op (B := fun w _ => w = .int i) mono_IT ha (ev_P hb fun _ _ => rfl) fun x y H1 e1 ⟨a, hx, hs⟩ hy => by
    subst hx
    subst hy
    exact RV.toP (rv_ixT hs (at_int e hj)) fun _ _ => rfl)
theorem ev_lenIT {xs : List Int} (ha : EvP ta sg H (IT K xs)) : Ev (tCB (rLenS K) (tCons ta tNil)) sg H (.int (xs.length : Int)) := fun H1 e Q q =>
  ha H1 e _ fun v H2 e2 ⟨a, hv, hs⟩ => ⟨a, xs.map V.int, by rw [hv], Or.inr hs, by rw [List.length_map]; exact q H2 e2⟩
theorem ev_lenLT {ts : List (List Int)} (ha : EvP ta sg H (ILT K ts)) : Ev (tCB (rLenS K) (tCons ta tNil)) sg H (.int (ts.length : Int)) := fun H1 e Q q =>
  ha H1 e _ fun v H2 e2 ⟨a, vs, hv, hs, hT⟩ => ⟨a, vs, by rw [hv], Or.inl hs, by rw [hT.length]; exact q H2 e2⟩
theorem ev_inIT {xs : List Int} {k : Int} (ha : Ev ta sg H (.int k)) (hb : EvP tb sg H (IT K xs)) : Ev (tOp (rIn K false) ta tb) sg H (.bl (decide (k ∈ xs))) :=
  P_ev (evp_op (A := fun w _ => w = .int k) mono_is (ev_P ha fun _ _ => rfl) hb fun x y H1 e1 hx ⟨a, hy, hs⟩ => by
    subst hx
    subst hy
    exact RV.toP (rv_inTI hs) fun _ _ => rfl)
theorem ev_niIT {xs : List Int} {k : Int} (ha : Ev ta sg H (.int k)) (hb : EvP tb sg H (IT K xs)) : Ev (tOp (rIn K true) ta tb) sg H (.bl (!decide (k ∈ xs))) :=
  P_ev (evp_op (A := fun w _ => w = .int k) mono_is (ev_P ha fun _ _ => rfl) hb fun x y H1 e1 hx ⟨a, hy, hs⟩ => by
    subst hx
    subst hy
    exact RV.toP (rv_niTI hs) fun _ _ => rfl)
theorem ev_eqLT {ts us : List (List Int)} (ha : EvP ta sg H (ILT K ts)) (hb : EvP tb sg H (ILT K us)) : Ev (tOp (rEqD K) ta tb) sg H (.bl (decide (ts = us))) :=
  P_ev (evp_op mono_ILT ha hb fun x y H1 e1 hx hy => rvp_eqLT hx hy)
theorem ev_neLT {ts us : List (List Int)} (ha : EvP ta sg H (ILT K ts)) (hb : EvP tb sg H (ILT K us)) : Ev (tOp (rNeD K) ta tb) sg H (.bl (!decide (ts = us))) :=
  P_ev (evp_op mono_ILT ha hb fun x y H1 e1 hx hy => rvp_neLT hx hy)
theorem ev_eqIT {ts us : List Int} (ha : EvP ta sg H (IT K ts)) (hb : EvP tb sg H (IT K us)) : Ev (tOp (rEqD K) ta tb) sg H (.bl (decide (ts = us))) :=
  P_ev (evp_op mono_IT ha hb fun x y H1 e1 hx hy => rvp_eqT hx hy)
theorem ev_eqIL {ts us : List Int} (ha : EvP ta sg H (IL K ts)) (hb : EvP tb sg H (IL K us)) : Ev (tOp (rEqD K) ta tb) sg H (.bl (decide (ts = us))) :=
  P_ev (evp_op mono_IL ha hb fun x y H1 e1 hx hy => rvp_eqLI hx hy)
theorem ev_neIL {ts us : List Int} (ha : EvP ta sg H (IL K ts)) (hb : EvP tb sg H (IL K us)) : Ev (tOp (rNeD K) ta tb) sg H (.bl (!decide (ts = us))) :=
  P_ev (evp_op mono_IL ha hb fun x y H1 e1 hx hy => rvp_neLI hx hy)
theorem el_il {ns : List Int} (h : EvL te sg H (ns.map V.int)) : EvP te sg H (IL K ns) := el_P h fun p H2 _ _ h => ⟨p, rfl, sq_of h⟩
theorem ev_ilV {ns : List Int} (h : Ev te sg H v) (hs : IL K ns v H) : EvP te sg H (IL K ns) := ev_P h fun H2 e => mono_IL _ _ _ e hs
/-- xs.append(e), of e something is known -/
theorem s_appP {l : Addr} {xs : List V} (hl : H l = some (.lst xs)) (ha : Ev ta sg H (.ref l)) (h : EvP te sg H P) (hz : xs.length < 100000) (k : ∀ v H1, Ex H H1 → P v H1 → D.nx sg (upd H1 l (.lst (xs ++ [v])))) :
    tDrop (tBM K "list" rAppend ta (tCons te tNil)) D sg H := ha H (Ex.refl H) _ fun H1 e1 =>
  ⟨Or.inl ⟨rfl, xs, sq_of (e1 l _ hl)⟩, h H1 e1 _ fun v H2 e2 h2 => ⟨l, xs, v, rfl, rfl, e2 l _ (e1 l _ hl), sz_lt hz, k v H2 (e1.trans e2) h2⟩⟩
theorem q_appP {l : Addr} {xs : List V} (hl : H l = some (.lst xs)) (ha : Ev ta sg H (.ref l)) (h : EvP te sg H P) (hz : xs.length < 100000) (k : ∀ v H1, Ex H H1 → P v H1 → tz D sg (upd H1 l (.lst (xs ++ [v])))) :
    tSeq (tDrop (tBM K "list" rAppend ta (tCons te tNil))) tz D sg H := s_appP (D := { D with nx := tz D }) hl ha h hz k
/-- a test of a test -/
theorem et_B1 {b : Bool} (h : EvP te sg H (fun w _ => w = .bl b)) : EvT (tB te) sg H b := et_B (P_ev h)
end
end SH

/-! comprehensions over lists of tuples, over tuples of ints, over ranges -/
namespace SH
open PySem PySem.Spec PyProof.Rows L2 Evl
section
variable {K : PySem.W.Frag} {sg : L2.St} {H H' H0 : Hp} {ta tb te tx tl : TE} {t u : TT} {x y z v : V} {P A B : V → Hp → Prop}
/-- what a list gives up to a place -/
def upTo {α β : Type} (f : α → Bool) (g : α → β) (i : Nat) (ts : List α) : List β := ((ts.take i).filter f).map g
theorem upTo_yes {α β : Type} {f : α → Bool} {g : α → β} {i : Nat} {ts : List α} {a : α} (h : ts[i]? = some a) (hf : f a = true) : upTo f g (i + 1) ts = upTo f g i ts ++ [g a] := by
  unfold upTo
  rw [List.take_add_one, h, List.filter_append, List.map_append]
  simp [hf]
theorem upTo_no {α β : Type} {f : α → Bool} {g : α → β} {i : Nat} {ts : List α} {a : α} (h : ts[i]? = some a) (hf : f a = false) : upTo f g (i + 1) ts = upTo f g i ts := by
  unfold upTo
  rw [List.take_add_one, h, List.filter_append, List.map_append]
  simp [hf]
theorem upTo_all {α β : Type} {f : α → Bool} {g : α → β} {ts : List α} : upTo f g ts.length ts = (ts.filter f).map g := by
  unfold upTo
  rw [List.take_length]
theorem upTo_len {α β : Type} {f : α → Bool} {g : α → β} (i : Nat) (ts : List α) : (upTo f g i ts).length ≤ i := by
  unfold upTo
  rw [List.length_map]
  refine Nat.le_trans (List.length_filter_le _ _) ?_
  rw [List.length_take]
  exact Nat.min_le_left _ _
def fAt {α : Type} (f : α → Bool) (ts : List α) (i : Nat) : Bool := match ts[i]? with
  | some a => f a
  | none => false
theorem fAt_eq {α : Type} {f : α → Bool} {ts : List α} {i : Nat} {a : α} (h : ts[i]? = some a) : fAt f ts i = f a := by
  unfold fAt
  rw [h]
theorem wm_its (g : Nat → List (List Int)) (H1 : Hp) : WMono H1 (fun i ys H2 => ITs K H2 ys (g i)) :=
  ⟨fun i ys H1 H2 e h => h.ex e, fun i ys H1 p us ws hp _ h => h.upd hp⟩
theorem lcr_lt {H : Hp} {ts : List (List Int)} {W : List V → Hp → Prop} (hW : ∀ ys H2, W ys H2 → ITs K H2 ys ts) {v : V} {H2 : Hp} (h : LcR H W v H2) : LTn K H ts v H2 := by
  obtain ⟨p, ys, h1, h2, h3, h4⟩ := h
  exact ⟨p, h1, h2, ys, h3, hW _ _ h4⟩
/-- over a list of tuples: tuples of the ones that stand the test -/
theorem evp_lcLT {j : Nat} {vs : List Nat} {ts : List (List Int)} (f : List Int → Bool) (g : List Int → List Int) (h : EvP tl sg H (ILT K ts)) (hz : ts.length ≤ 40000) (hw : ∀ x, wipe ((wipe sg vs).set j (some x)) vs = wipe sg vs)
    (ht : ∀ (x : V) (xs : List Int) H1, Ex H H1 → xs ∈ ts → IT K xs x H1 → EvT t ((wipe sg vs).set j (some x)) H1 (f xs))
    (he : ∀ (x : V) (xs : List Int) H1, Ex H H1 → xs ∈ ts → f xs = true → IT K xs x H1 → EvP te ((wipe sg vs).set j (some x)) H1 (IT K (g xs))) :
    EvP (tLc (iList K tl) (gName j) t te vs) sg H (LTn K H ((ts.filter f).map g)) := fun H0 e Q q => h H0 e _ fun v H1 e1 hv => by
  obtain ⟨a, us, rfl, hs, hT⟩ := hv
  have z : EvP (tLc (iList K (tC (.ref a))) (gName j) t te vs) sg H1 (LcR H1 (fun ys H2 => ITs K H2 ys (upTo f g us.length ts))) :=
    evp_lcL (fAt f ts) (fun i ys H2 => ITs K H2 ys (upTo f g i ts)) (fun H2 _ => wm_its (fun i => upTo f g i ts) H2) ev_c hs (by rw [hT.length]; exact hz) hw (fun _ _ => .nil) (fun i x H2 e2 hx => by
      obtain ⟨xs, h1, h2⟩ := hT.getV hx
      rw [fAt_eq h1]
      exact ht x xs H2 ((e.trans e1).trans e2) (List.mem_of_getElem? h1) (mono_IT _ _ _ e2 h2)) (fun i x ys H2 e2 hx hf w => by
      obtain ⟨xs, h1, h2⟩ := hT.getV hx
      rw [fAt_eq h1] at hf
      refine (he x xs H2 ((e.trans e1).trans e2) (List.mem_of_getElem? h1) hf (mono_IT _ _ _ e2 h2)).imp fun y H3 e3 hy => ?_
      show ITs K H3 (ys ++ [y]) (upTo f g (i + 1) ts)
      rw [upTo_yes h1 hf]
      exact (w.ex e3).app (.cons hy .nil)) (fun i ys H2 hi hf w => by
      rw [hT.length] at hi
      have h1 := List.getElem?_eq_getElem hi
      rw [fAt_eq h1] at hf
      show ITs K H2 ys (upTo f g (i + 1) ts)
      rw [upTo_no h1 hf]
      exact w)
  refine z H1 (Ex.refl H1) Q fun w H2 e2 hr => q w H2 (e1.trans e2) ?_
  obtain ⟨p, ys, h1, h2, h3, h4⟩ := hr
  refine ⟨p, h1, fresh_back (e.trans e1) h2, ys, h3, ?_⟩
  rw [hT.length, upTo_all] at h4
  exact h4
theorem evp_mapLT {j : Nat} {vs : List Nat} {ts : List (List Int)} (g : List Int → List Int) (h : EvP tl sg H (ILT K ts)) (hz : ts.length ≤ 40000) (hw : ∀ x, wipe ((wipe sg vs).set j (some x)) vs = wipe sg vs)
    (ht : ∀ (x : V) (xs : List Int) H1, Ex H H1 → xs ∈ ts → IT K xs x H1 → EvT t ((wipe sg vs).set j (some x)) H1 true)
    (he : ∀ (x : V) (xs : List Int) H1, Ex H H1 → xs ∈ ts → IT K xs x H1 → EvP te ((wipe sg vs).set j (some x)) H1 (IT K (g xs))) :
    EvP (tLc (iList K tl) (gName j) t te vs) sg H (LTn K H (ts.map g)) := by
  have z := evp_lcLT (fun _ => true) g h hz hw ht fun x xs H1 e hm _ hx => he x xs H1 e hm hx
  rw [List.filter_eq_self.mpr fun _ _ => rfl] at z
  exact z
/-- over a range -/
theorem evp_lcRT {tr : TA} {j : Nat} {vs : List Nat} {n : Nat} (g : Nat → List Int) (h : EvA tr sg H [.int (n : Int)]) (hn : n ≤ 40000) (hw : ∀ x, wipe ((wipe sg vs).set j (some x)) vs = wipe sg vs)
    (ht : ∀ (i : Nat) H1, Ex H H1 → i < n → EvT t ((wipe sg vs).set j (some (.int (i : Int)))) H1 true)
    (he : ∀ (i : Nat) H1, Ex H H1 → i < n → EvP te ((wipe sg vs).set j (some (.int (i : Int)))) H1 (IT K (g i))) :
    EvP (tLc (iRng1 tr) (gName j) t te vs) sg H (LTn K H ((List.range n).map g)) :=
  (evp_lcR1 (fun _ => true) (fun i ys H2 => ITs K H2 ys ((List.range i).map g)) (fun H2 _ => wm_its (fun i => (List.range i).map g) H2) h ⟨by omega, by omega⟩ hw (fun _ _ => .nil) (fun i H1 e hi => ht i H1 e (by omega)) (fun i ys H1 e hi _ w => by
    refine (he i H1 e (by omega)).imp fun y H3 e3 hy => ?_
    show ITs K H3 (ys ++ [y]) ((List.range (i + 1)).map g)
    rw [List.range_succ, List.map_append]
    exact (w.ex e3).app (.cons hy .nil)) (fun i ys H1 hi hf w => by simp at hf)).imp fun v H2 e hr => lcr_lt (fun ys H3 h => by
    rw [Int.toNat_natCast] at h
    exact h) hr
/-- over a tuple of ints -/
theorem evp_lcT {a : Addr} {xs : List V} {j : Nat} {vs : List Nat} (f : Nat → Bool) (W : Nat → List V → Hp → Prop) (m : ∀ H1, Ex H H1 → WMono H1 W) (h : Ev tl sg H (.ref a)) (hx : SqT K H a xs) (hz : xs.length ≤ 40000) (hw : ∀ x, wipe ((wipe sg vs).set j (some x)) vs = wipe sg vs)
    (h0 : ∀ H1, Ex H H1 → W 0 [] H1) (ht : ∀ (i : Nat) (x : V) H1, Ex H H1 → xs[i]? = some x → EvT t ((wipe sg vs).set j (some x)) H1 (f i))
    (he : ∀ (i : Nat) (x : V) ys H1, Ex H H1 → xs[i]? = some x → f i = true → W i ys H1 → EvP te ((wipe sg vs).set j (some x)) H1 (fun y H2 => W (i + 1) (ys ++ [y]) H2))
    (hf : ∀ (i : Nat) ys H1, i < xs.length → f i = false → W i ys H1 → W (i + 1) ys H1) :
    EvP (tLc (iTup K tl) (gName j) t te vs) sg H (LcR H (W xs.length)) := fun H0 e Q q => h H0 e _ fun H1 e1 => ⟨a, rfl, ⟨xs, ex_t (e.trans e1) hx⟩, fun Dl hD =>
  lc_tup (xs := xs) (CwP H1 W Dl) ⟨hD, Ex.new hD, [], upd_same, Nat.le_refl _, h0 _ ((e.trans e1).trans (Ex.new hD))⟩ (fun i H' _ p => ex_t ((e.trans e1).trans p.2.1) hx) (fun i x H' hi p =>
    have hl : i < xs.length := (List.getElem?_eq_some_iff.mp hi).1
    ⟨hw x, cwp_turn (m H1 (e.trans e1)) p (by omega) (ht i x H1 (e.trans e1) hi) (fun hb ys H2 e2 w => he i x ys H2 ((e.trans e1).trans e2) hi hb w) (fun hb ys H2 w => hf i ys H2 hl hb w)⟩) (fun H' p => by
    obtain ⟨p1, p2, ys, p3, _, p5⟩ := p
    exact q _ H' (e1.trans p2) ⟨Dl, ys, rfl, fresh_back (e.trans e1) p1, p3, p5⟩)⟩
theorem wm_vs (g : Nat → List V) (H1 : Hp) : WMono H1 (fun i ys H2 => ys = g i) := ⟨fun i ys H1 H2 e h => h, fun i ys H1 p us ws hp _ h => h⟩
theorem el_lcT {j : Nat} {vs : List Nat} {xs : List Int} (f : Int → Bool) (g : Int → V) (h : EvP tl sg H (IT K xs)) (hz : xs.length ≤ 40000) (hw : ∀ x, wipe ((wipe sg vs).set j (some x)) vs = wipe sg vs)
    (ht : ∀ (x : Int) H1, Ex H H1 → x ∈ xs → EvT t ((wipe sg vs).set j (some (.int x))) H1 (f x))
    (he : ∀ (x : Int) H1, Ex H H1 → x ∈ xs → f x = true → Ev te ((wipe sg vs).set j (some (.int x))) H1 (g x)) :
    EvL (tLc (iTup K tl) (gName j) t te vs) sg H ((xs.filter f).map g) := fun H0 e Q q => h H0 e _ fun v H1 e1 hv => by
  obtain ⟨a, rfl, hs⟩ := hv
  have hget : ∀ {i : Nat} {x : V}, (xs.map V.int)[i]? = some x → ∃ n, xs[i]? = some n ∧ x = V.int n := fun {i x} h => by
    rw [List.getElem?_map] at h
    cases hx : xs[i]? with
    | none => rw [hx] at h; simp at h
    | some n => rw [hx] at h; exact ⟨n, rfl, by simpa using h.symm⟩
  have z : EvP (tLc (iTup K (tC (.ref a))) (gName j) t te vs) sg H1 (LcR H1 (fun ys H2 => ys = upTo f g (xs.map V.int).length xs)) :=
    evp_lcT (fAt f xs) (fun i ys H2 => ys = upTo f g i xs) (fun H2 _ => wm_vs (fun i => upTo f g i xs) H2) ev_c hs (by rw [List.length_map]; exact hz) hw (fun _ _ => rfl) (fun i x H2 e2 hx => by
      obtain ⟨n, h1, rfl⟩ := hget hx
      rw [fAt_eq h1]
      exact ht n H2 ((e.trans e1).trans e2) (List.mem_of_getElem? h1)) (fun i x ys H2 e2 hx hf w => by
      obtain ⟨n, h1, rfl⟩ := hget hx
      rw [fAt_eq h1] at hf
      refine ev_P (he n H2 ((e.trans e1).trans e2) (List.mem_of_getElem? h1) hf) fun H3 e3 => ?_
      show ys ++ [g n] = upTo f g (i + 1) xs
      rw [upTo_yes h1 hf, w]) (fun i ys H2 hi hf w => by
      rw [List.length_map] at hi
      have h1 := List.getElem?_eq_getElem hi
      rw [fAt_eq h1] at hf
      show ys = upTo f g (i + 1) xs
      rw [upTo_no h1 hf]
      exact w)
  refine z H1 (Ex.refl H1) _ fun w H2 e2 hr => ?_
  obtain ⟨p, ys, rfl, h2, h3, h4⟩ := hr
  rw [List.length_map, upTo_all] at h4
  subst h4
  exact q p H2 (fresh_back e1 h2) (e1.trans e2) h3
theorem at_last {ns : List Int} {n : Int} : atI ((ns ++ [n]).map V.int) (-1) = some (.int n) := by
  unfold atI ixN
  rw [if_neg (by decide), List.length_map, List.length_append, List.length_singleton, if_pos (by omega), show ((-1 : Int) + ((ns.length + 1 : Nat) : Int)).toNat = ns.length by omega]
  simp
theorem ev_lastIT {xs : List Int} {n : Int} (ha : EvP ta sg H (IT K (xs ++ [n]))) (hb : Ev tb sg H (.int (-1))) : Ev (tOp (rIxT K) ta tb) sg H (.int n) :=
  P_ev (evp_op (B := fun w _ => w = .int (-1)) mono_IT ha (ev_P hb fun _ _ => rfl) fun x y H1 e1 ⟨a, hx, hs⟩ hy => by
    subst hx
    subst hy
    exact RV.toP (rv_ixT hs at_last) fun _ _ => rfl)
end
end SH

/-! choices, in plain Lean -/
namespace SM
def Ch : Nat → Nat → Nat
  | _, 0 => 1
  | 0, _ + 1 => 0
  | n + 1, k + 1 => Ch n k + Ch n (k + 1)
theorem ch_zero (n : Nat) : Ch n 0 = 1 := by cases n <;> rfl
theorem ch_succ (n k : Nat) : Ch (n + 1) (k + 1) = Ch n k + Ch n (k + 1) := rfl
theorem ch_gt : ∀ {n k : Nat}, n < k → Ch n k = 0
  | 0, k + 1, _ => rfl
  | n + 1, k + 1, h => by
    rw [ch_succ, ch_gt (n := n) (k := k) (by omega), ch_gt (n := n) (k := k + 1) (by omega)]
theorem ch_self : ∀ n : Nat, Ch n n = 1
  | 0 => rfl
  | n + 1 => by rw [ch_succ, ch_self n, ch_gt (Nat.lt_succ_self n)]
theorem ch_one : ∀ n : Nat, Ch n 1 = n
  | 0 => rfl
  | n + 1 => by rw [ch_succ, ch_zero, ch_one n]; omega
theorem ch_pos : ∀ {n k : Nat}, k ≤ n → 0 < Ch n k
  | n, 0, _ => by rw [ch_zero]; decide
  | n + 1, k + 1, h => by
    have := ch_pos (n := n) (k := k) (by omega)
    rw [ch_succ]
    omega
theorem ch_mono1 (n k : Nat) : Ch n k ≤ Ch (n + 1) k := by
  cases k with
  | zero => rw [ch_zero, ch_zero]; exact Nat.le_refl _
  | succ k => rw [ch_succ]; omega
theorem ch_mono {n m : Nat} (k : Nat) (h : n ≤ m) : Ch n k ≤ Ch m k := by
  induction h with
  | refl => exact Nat.le_refl _
  | step _ ih => exact Nat.le_trans ih (ch_mono1 _ k)
/-- C(n, k) (n - k) = C(n, k + 1) (k + 1) -/
theorem ch_step : ∀ n k : Nat, Ch n k * (n - k) = Ch n (k + 1) * (k + 1)
  | 0, k => by
    have h : (0 : Nat) - k = 0 := by omega
    rw [h, Nat.mul_zero]
    show 0 = 0 * (k + 1)
    rw [Nat.zero_mul]
  | n + 1, 0 => by
    rw [ch_zero, ch_one]
    omega
  | n + 1, k + 1 => by
    have a := ch_step n k
    have b := ch_step n (k + 1)
    rw [ch_succ, ch_succ n (k + 1), Nat.add_mul, Nat.add_mul, ← b]
    have e : n + 1 - (k + 1) = n - k := by omega
    rw [e, a]
    by_cases h : n ≤ k
    · rw [ch_gt (n := n) (k := k + 1) (by omega)]
      omega
    · obtain ⟨d, hd⟩ : ∃ d, n = k + 1 + d := ⟨n - (k + 1), by omega⟩
      have h1 : n - k = d + 1 := by omega
      have h2 : n - (k + 1) = d := by omega
      rw [h1, h2]
      have : Ch n (k + 1) * (k + 1) + Ch n (k + 1) * (d + 1) = Ch n (k + 1) * (k + 1 + 1) + Ch n (k + 1) * d := by
        rw [← Nat.mul_add, ← Nat.mul_add]
        congr 1
        omega
      exact this
theorem ch_stepI (n k : Nat) : (Ch n k : Int) * ((n : Int) - (k : Int)) = (Ch n (k + 1) : Int) * ((k : Int) + 1) := by
  by_cases h : k ≤ n
  · have e : ((n : Int) - (k : Int)) = ((n - k : Nat) : Int) := by omega
    rw [e, ← Int.natCast_mul, ch_step, Int.natCast_mul]
    rfl
  · rw [ch_gt (n := n) (k := k) (by omega), ch_gt (n := n) (k := k + 1) (by omega)]
    simp
/-- one turn of the program's loop -/
theorem ch_turn (n k : Nat) : (Ch n k : Int) * ((n : Int) - (k : Int)) / ((k : Int) + 1) = (Ch n (k + 1) : Int) := by
  rw [ch_stepI]
  exact Int.mul_ediv_cancel _ (by omega)
theorem ch_le_pow (n : Nat) : ∀ k : Nat, Ch n k ≤ n ^ k
  | 0 => by rw [ch_zero]; exact Nat.le_refl _
  | k + 1 => by
    have h := ch_step n k
    have ih := ch_le_pow n k
    have h1 : Ch n (k + 1) ≤ Ch n (k + 1) * (k + 1) := Nat.le_mul_of_pos_right _ (Nat.succ_pos k)
    have h2 : Ch n k * (n - k) ≤ n ^ k * n := Nat.mul_le_mul ih (Nat.sub_le n k)
    rw [Nat.pow_succ]
    omega
theorem ch_bits {n k : Nat} (hn : n < 2 ^ 64) (hk : k ≤ 1000) : Ch n k < 2 ^ 65000 := by
  have h1 : n ^ k ≤ (2 ^ 64) ^ k := Nat.pow_le_pow_left (Nat.le_of_lt hn) k
  have h2 : (2 ^ 64) ^ k = 2 ^ (64 * k) := (Nat.pow_mul 2 64 k).symm
  have h3 : 2 ^ (64 * k) < 2 ^ 65000 := Nat.pow_lt_pow_right (by decide) (by omega)
  have := ch_le_pow n k
  omega
/-- C(n + 1, k + 1) grows by at least one -/
theorem ch_lower : ∀ {n k : Nat}, 0 < k → k ≤ n + 1 → n + 1 ≤ Ch n k + k
  | 0, k, _, h => by omega
  | n + 1, 0, h, _ => absurd h (Nat.lt_irrefl 0)
  | n + 1, k + 1, _, h => by
    by_cases h2 : k + 1 ≤ n + 1
    · have a := ch_lower (n := n) (k := k + 1) (Nat.succ_pos k) h2
      have b := ch_pos (n := n) (k := k) (by omega)
      rw [ch_succ]
      omega
    · omega
def chI (a b : Int) : Int := (Ch a.toNat b.toNat : Nat)
theorem chI_nat (a b : Nat) : chI a b = (Ch a b : Nat) := rfl
theorem chI_nonneg (a b : Int) : 0 ≤ chI a b := Int.natCast_nonneg _
end SM

/-! heaps (cascades), in plain Lean -/
namespace SM
/-- the greatest t up to f with C(t, p) ≤ m -/
def srch (p m : Nat) : Nat → Nat
  | 0 => 0
  | f + 1 => if Ch (f + 1) p ≤ m then f + 1 else srch p m f
def topOf (p m : Nat) : Nat := srch p m (m + p)
theorem srch_le (p m : Nat) : ∀ f, srch p m f ≤ f
  | 0 => Nat.le_refl _
  | f + 1 => by
    unfold srch
    split
    · exact Nat.le_refl _
    · exact Nat.le_trans (srch_le p m f) (Nat.le_succ f)
theorem srch_ok {p m : Nat} (h0 : Ch 0 p ≤ m) : ∀ f, Ch (srch p m f) p ≤ m
  | 0 => h0
  | f + 1 => by
    unfold srch
    split
    · rename_i h; exact h
    · exact srch_ok h0 f
theorem srch_max {p m : Nat} : ∀ f t, t ≤ f → Ch t p ≤ m → t ≤ srch p m f
  | 0, t, h, _ => h
  | f + 1, t, h, hc => by
    unfold srch
    split
    · exact h
    · rename_i hn
      refine srch_max f t ?_ hc
      rcases Nat.lt_or_ge t (f + 1) with c | c
      · exact Nat.le_of_lt_succ c
      · have : t = f + 1 := Nat.le_antisymm h c
        rw [this] at hc
        exact absurd hc hn
theorem ch_zero_le {p m : Nat} (hp : 0 < p) : Ch 0 p ≤ m := by
  cases p with
  | zero => exact absurd hp (Nat.lt_irrefl 0)
  | succ p => exact Nat.zero_le _
theorem top_ok {p m : Nat} (hp : 0 < p) : Ch (topOf p m) p ≤ m := srch_ok (ch_zero_le hp) _
theorem top_lt {p m : Nat} (hp : 0 < p) : m < Ch (topOf p m + 1) p := by
  rcases Nat.lt_or_ge m (Ch (topOf p m + 1) p) with h | h
  · exact h
  · exfalso
    have hb : topOf p m + 1 ≤ m + p := by
      by_cases c : p ≤ topOf p m + 1 + 1
      · have := ch_lower (n := topOf p m + 1) hp c
        omega
      · omega
    have : topOf p m + 1 ≤ topOf p m := srch_max (m + p) _ hb h
    omega
theorem top_uniq {p m t : Nat} (hp : 0 < p) (h1 : Ch t p ≤ m) (h2 : m < Ch (t + 1) p) : topOf p m = t := by
  have a := top_ok (m := m) hp
  have b := top_lt (m := m) hp
  rcases Nat.lt_trichotomy (topOf p m) t with c | c | c
  · have := ch_mono p (show topOf p m + 1 ≤ t from c)
    omega
  · exact c
  · have := ch_mono p (show t + 1 ≤ topOf p m from c)
    omega
theorem top_ge {p m : Nat} (hp : 0 < p) (hm : 0 < m) : p ≤ topOf p m := by
  refine srch_max (m + p) p (by omega) ?_
  rw [ch_self]
  exact hm
/-- the heap of m, sizes from k down -/
def hp : Nat → Nat → List Nat
  | 0, _ => []
  | k + 1, m => if m = 0 then [] else topOf (k + 1) m :: hp k (m - Ch (topOf (k + 1) m) (k + 1))
theorem hp_zero (k : Nat) : hp k 0 = [] := by cases k <;> simp [hp]
theorem hp_cons {k m : Nat} (hk : 0 < k) (hm : 0 < m) : hp k m = topOf k m :: hp (k - 1) (m - Ch (topOf k m) k) := by
  cases k with
  | zero => exact absurd hk (Nat.lt_irrefl 0)
  | succ k =>
    have h : ¬ m = 0 := by omega
    simp [hp, h]
theorem hp_cons1 {k m : Nat} (hm : 0 < m) : hp (k + 1) m = topOf (k + 1) m :: hp k (m - Ch (topOf (k + 1) m) (k + 1)) := hp_cons (k := k + 1) (Nat.succ_pos k) hm
theorem rest_lt {k m : Nat} (hk : 0 < k) : m - Ch (topOf k m) k < Ch (topOf k m) (k - 1) := by
  cases k with
  | zero => exact absurd hk (Nat.lt_irrefl 0)
  | succ k =>
    have a := top_ok (p := k + 1) (m := m) hk
    have b := top_lt (p := k + 1) (m := m) hk
    rw [ch_succ] at b
    show m - Ch (topOf (k + 1) m) (k + 1) < Ch (topOf (k + 1) m) k
    omega
/-- what is left is nought where no size is left -/
theorem rest_zero {k m : Nat} (hk : 0 < k) (h : k - 1 = 0) : m - Ch (topOf k m) k = 0 := by
  have := rest_lt (m := m) hk
  rw [h, ch_zero] at this
  omega
theorem hp_len : ∀ k m : Nat, (hp k m).length ≤ k
  | 0, _ => Nat.le_refl _
  | k + 1, m => by
    by_cases h : m = 0
    · rw [h, hp_zero]; exact Nat.zero_le _
    · rw [hp_cons1 (by omega), List.length_cons]
      have := hp_len k (m - Ch (topOf (k + 1) m) (k + 1))
      show (hp k _).length + 1 ≤ k + 1
      omega
/-- the sum of the choices with a list's places counted from k down -/
def chs : Nat → List Nat → Nat
  | _, [] => 0
  | k, t :: r => Ch t k + chs (k - 1) r
/-- one place less -/
def chd : Nat → List Nat → Nat
  | _, [] => 0
  | k, t :: r => Ch t (k - 1) + chd (k - 1) r
theorem hp_sum : ∀ k m : Nat, (k = 0 → m = 0) → chs k (hp k m) = m
  | 0, m, h => by rw [h rfl]; rfl
  | k + 1, m, _ => by
    by_cases h : m = 0
    · rw [h, hp_zero]; rfl
    · rw [hp_cons1 (by omega)]
      show Ch (topOf (k + 1) m) (k + 1) + chs k (hp k (m - Ch (topOf (k + 1) m) (k + 1))) = m
      rw [hp_sum k _ fun hk => rest_zero (k := k + 1) (Nat.succ_pos k) (by omega)]
      have := top_ok (p := k + 1) (m := m) (Nat.succ_pos k)
      omega
/-- each place: at least its size; what the next one finds; the rest at each place -/
structure HpAt (k m : Nat) (row : List Nat) : Prop where
  len : row.length ≤ k
  at_ : ∀ j t, row[j]? = some t → k - j ≤ t ∧ 0 < k - j ∧ Ch t (k - j) ≤ m - chs k (row.take j) ∧ m - chs k (row.take j) < Ch (t + 1) (k - j) ∧ chs k (row.take j) ≤ m
  fall : ∀ j t u, row[j]? = some t → row[j + 1]? = some u → u < t
  sum : chs k row = m
theorem hp_first_lt {k m b : Nat} (hk : 0 < k) (hm : 0 < m) (h : m < Ch b k) : topOf k m < b := by
  rcases Nat.lt_or_ge (topOf k m) b with c | c
  · exact c
  · have a := ch_mono k c
    have := top_ok (m := m) hk
    omega
theorem hp_at : ∀ k m : Nat, (k = 0 → m = 0) → HpAt k m (hp k m)
  | 0, m, h => by
    rw [h rfl]
    exact ⟨Nat.le_refl _, fun j t e => by simp [hp] at e, fun j t u e => by simp [hp] at e, rfl⟩
  | k + 1, m, _ => by
    by_cases h : m = 0
    · rw [h, hp_zero]
      exact ⟨Nat.zero_le _, fun j t e => by simp at e, fun j t u e => by simp at e, rfl⟩
    · have hz : k = 0 → m - Ch (topOf (k + 1) m) (k + 1) = 0 := fun hk => rest_zero (k := k + 1) (Nat.succ_pos k) (by omega)
      have ih := hp_at k (m - Ch (topOf (k + 1) m) (k + 1)) hz
      have a := top_ok (p := k + 1) (m := m) (Nat.succ_pos k)
      have b := top_lt (p := k + 1) (m := m) (Nat.succ_pos k)
      have c := top_ge (p := k + 1) (m := m) (Nat.succ_pos k) (by omega)
      have rl : m - Ch (topOf (k + 1) m) (k + 1) < Ch (topOf (k + 1) m) k := rest_lt (k := k + 1) (m := m) (Nat.succ_pos k)
      have hs := hp_sum (k + 1) m fun z => absurd z (Nat.succ_ne_zero k)
      rw [hp_cons1 (by omega)] at hs ⊢
      have hfst : ∀ u, (hp k (m - Ch (topOf (k + 1) m) (k + 1)))[0]? = some u → u < topOf (k + 1) m := fun u hu => by
        by_cases h0 : m - Ch (topOf (k + 1) m) (k + 1) = 0
        · rw [h0, hp_zero] at hu
          simp at hu
        · have hk : 0 < k := by
            rcases Nat.eq_zero_or_pos k with z | z
            · exact absurd (hz z) h0
            · exact z
          rw [hp_cons hk (by omega)] at hu
          have e : topOf k (m - Ch (topOf (k + 1) m) (k + 1)) = u := by simpa using hu
          rw [← e]
          exact hp_first_lt hk (by omega) rl
      show HpAt (k + 1) m (topOf (k + 1) m :: hp k (m - Ch (topOf (k + 1) m) (k + 1)))
      generalize hp k (m - Ch (topOf (k + 1) m) (k + 1)) = row at ih hs hfst ⊢
      generalize topOf (k + 1) m = t0 at ih hs hfst a b c rl ⊢
      refine ⟨by rw [List.length_cons]; have := ih.len; omega, fun j t e => ?_, fun j t u e1 e2 => ?_, hs⟩
      · cases j with
        | zero =>
          have e : t0 = t := by simpa using e
          subst e
          refine ⟨c, by omega, ?_, ?_, Nat.zero_le _⟩
          · show Ch t0 (k + 1) ≤ m - chs (k + 1) []
            show Ch t0 (k + 1) ≤ m - 0
            omega
          · show m - 0 < Ch (t0 + 1) (k + 1)
            omega
        | succ j =>
          have e : row[j]? = some t := by simpa using e
          obtain ⟨h1, h2, h3, h4, h5⟩ := ih.at_ j t e
          have es : k + 1 - (j + 1) = k - j := by omega
          have et : chs (k + 1) ((t0 :: row).take (j + 1)) = Ch t0 (k + 1) + chs k (row.take j) := rfl
          rw [es, et]
          refine ⟨h1, h2, ?_, ?_, by omega⟩
          · rw [← Nat.sub_sub]; exact h3
          · rw [← Nat.sub_sub]; exact h4
      · cases j with
        | zero =>
          have e1 : t0 = t := by simpa using e1
          have e2 : row[0]? = some u := by simpa using e2
          subst e1
          exact hfst u e2
        | succ j =>
          exact ih.fall j t u (by simpa using e1) (by simpa using e2)
theorem chs_take : ∀ (row : List Nat) (k j t : Nat), row[j]? = some t → chs k (row.take (j + 1)) = chs k (row.take j) + Ch t (k - j)
  | [], k, j, t, h => by simp at h
  | a :: r, k, 0, t, h => by
    have e : a = t := by simpa using h
    subst e
    show Ch a k + 0 = 0 + Ch a (k - 0)
    rw [Nat.add_zero, Nat.zero_add, Nat.sub_zero]
  | a :: r, k, j + 1, t, h => by
    have ih := chs_take r (k - 1) j t (by simpa using h)
    show Ch a k + chs (k - 1) (r.take (j + 1)) = Ch a k + chs (k - 1) (r.take j) + Ch t (k - (j + 1))
    have e : k - (j + 1) = k - 1 - j := by omega
    rw [ih, e]
    omega
theorem chd_take : ∀ (row : List Nat) (k j t : Nat), row[j]? = some t → chd k (row.take (j + 1)) = chd k (row.take j) + Ch t (k - j - 1)
  | [], k, j, t, h => by simp at h
  | a :: r, k, 0, t, h => by
    have e : a = t := by simpa using h
    subst e
    show Ch a (k - 1) + 0 = 0 + Ch a (k - 0 - 1)
    rw [Nat.add_zero, Nat.zero_add, Nat.sub_zero]
  | a :: r, k, j + 1, t, h => by
    have ih := chd_take r (k - 1) j t (by simpa using h)
    show Ch a (k - 1) + chd (k - 1) (r.take (j + 1)) = Ch a (k - 1) + chd (k - 1) (r.take j) + Ch t (k - (j + 1) - 1)
    have e : k - (j + 1) = k - 1 - j := by omega
    rw [ih, e]
    omega
/-- the least shadow -/
def lsh (k m : Nat) : Nat := chd k (hp k m)
/-- tops stay below m + k -/
theorem hp_bd {k m : Nat} (h : k = 0 → m = 0) : ∀ (j t : Nat), (hp k m)[j]? = some t → t ≤ m + k := fun j t e => by
  obtain ⟨h1, h2, h3, h4, h5⟩ := (hp_at k m h).at_ j t e
  have := ch_lower (n := t) (k := k - j) h2 (by omega)
  omega
/-! Pascal's rows, as they are laid in place -/
def prow (t b : Nat) : List Int := (List.range (b + 1)).map fun k => ((Ch t k : Nat) : Int)
def mrow (t b i : Nat) : List Int := (List.range (b + 1)).map fun k => if b - i < k then ((Ch (t + 1) k : Nat) : Int) else ((Ch t k : Nat) : Int)
theorem prow_len (t b : Nat) : (prow t b).length = b + 1 := by simp [prow]
theorem mrow_len (t b i : Nat) : (mrow t b i).length = b + 1 := by simp [mrow]
theorem mrow_zero (t b : Nat) : mrow t b 0 = prow t b := by
  unfold mrow prow
  refine List.map_congr_left fun k hk => ?_
  have : k < b + 1 := List.mem_range.mp hk
  rw [if_neg (by omega)]
theorem mrow_all (t b : Nat) : mrow t b b = prow (t + 1) b := by
  unfold mrow prow
  refine List.map_congr_left fun k hk => ?_
  by_cases h : k = 0
  · subst h
    rw [if_neg (by omega), ch_zero, ch_zero]
  · rw [if_pos (by omega)]
theorem mrow_get {t b i k : Nat} (h : k < b + 1) : (mrow t b i)[k]? = some (if b - i < k then ((Ch (t + 1) k : Nat) : Int) else ((Ch t k : Nat) : Int)) := by
  unfold mrow
  rw [List.getElem?_map, List.getElem?_range h]
  rfl
theorem prow_get {t b k : Nat} (h : k < b + 1) : (prow t b)[k]? = some ((Ch t k : Nat) : Int) := by
  unfold prow
  rw [List.getElem?_map, List.getElem?_range h]
  rfl
theorem mrow_set {t b i : Nat} (h : i < b) : (mrow t b i).set (b - i) (((Ch t (b - i) : Nat) : Int) + ((Ch t (b - i - 1) : Nat) : Int)) = mrow t b (i + 1) := by
  refine List.ext_getElem? fun k => ?_
  by_cases hk : k < b + 1
  · rw [List.getElem?_set, mrow_get (i := i + 1) hk]
    by_cases e : b - i = k
    · subst e
      rw [if_pos rfl, if_pos (by rw [mrow_len]; exact hk), if_pos (by omega)]
      obtain ⟨d, hd⟩ : ∃ d, b - i = d + 1 := ⟨b - i - 1, by omega⟩
      rw [hd, ch_succ]
      show some (((Ch t (d + 1) : Nat) : Int) + ((Ch t d : Nat) : Int)) = some ((Ch t d + Ch t (d + 1) : Nat) : Int)
      rw [Int.natCast_add, Int.add_comm]
    · rw [if_neg e, mrow_get hk]
      by_cases c : b - i < k
      · rw [if_pos c, if_pos (by omega)]
      · rw [if_neg c, if_neg (by omega)]
  · rw [List.getElem?_eq_none (by rw [List.length_set, mrow_len]; omega), List.getElem?_eq_none (by rw [mrow_len]; omega)]
theorem prow_first (b : Nat) : prow 0 b = 1 :: List.replicate b 0 := by
  refine List.ext_getElem? fun k => ?_
  cases k with
  | zero =>
    rw [prow_get (by omega), ch_zero]
    rfl
  | succ k =>
    by_cases hk : k + 1 < b + 1
    · rw [prow_get hk, ch_gt (Nat.succ_pos k), List.getElem?_cons_succ, List.getElem?_replicate, if_pos (by omega)]
      rfl
    · rw [List.getElem?_eq_none (by rw [prow_len]; omega), List.getElem?_eq_none (by rw [List.length_cons, List.length_replicate]; omega)]
end SM

/-! sets as rising lists; their numbers; all of them in order: plain Lean -/
namespace SM
/-! ### lists in strict order are told by their members -/
theorem ext_sorted {α : Type} {R : α → α → Prop} (as : ∀ a b, R a b → R b a → False) : ∀ {l m : List α}, l.Pairwise R → m.Pairwise R → (∀ x, x ∈ l ↔ x ∈ m) → l = m
  | [], [], _, _, _ => rfl
  | [], b :: m, _, _, h => by have := (h b).2 List.mem_cons_self; simp at this
  | a :: l, [], _, _, h => by have := (h a).1 List.mem_cons_self; simp at this
  | a :: l, b :: m, hl, hm, h => by
    obtain ⟨hl1, hl2⟩ := List.pairwise_cons.mp hl
    obtain ⟨hm1, hm2⟩ := List.pairwise_cons.mp hm
    have hab : a = b := by
      rcases List.mem_cons.mp ((h a).1 List.mem_cons_self) with e | h1
      · exact e
      · rcases List.mem_cons.mp ((h b).2 List.mem_cons_self) with e | h2
        · exact e.symm
        · exact (as a b (hl1 b h2) (hm1 a h1)).elim
    subst hab
    have irr : ∀ x, ¬ R x x := fun x r => as x x r r
    rw [ext_sorted as hl2 hm2 fun x => ?_]
    constructor
    · intro hx
      rcases List.mem_cons.mp ((h x).1 (List.mem_cons_of_mem _ hx)) with e | h1
      · rw [e] at hx; exact (irr a (hl1 a hx)).elim
      · exact h1
    · intro hx
      rcases List.mem_cons.mp ((h x).2 (List.mem_cons_of_mem _ hx)) with e | h1
      · rw [e] at hx; exact (irr a (hm1 a hx)).elim
      · exact h1
/-! ### numbers -/
def numA : Nat → List Nat → Nat
  | _, [] => 0
  | j, x :: r => Ch x (j + 1) + numA (j + 1) r
def num (s : List Nat) : Nat := numA 0 s
theorem numA_snoc : ∀ (j : Nat) (s : List Nat) (t : Nat), numA j (s ++ [t]) = numA j s + Ch t (j + s.length + 1)
  | j, [], t => by
    show Ch t (j + 1) + 0 = 0 + Ch t (j + 0 + 1)
    rw [Nat.add_zero, Nat.zero_add, Nat.add_zero]
  | j, x :: s, t => by
    have ih := numA_snoc (j + 1) s t
    show Ch x (j + 1) + numA (j + 1) (s ++ [t]) = Ch x (j + 1) + numA (j + 1) s + Ch t (j + (s.length + 1) + 1)
    rw [ih, show j + 1 + s.length + 1 = j + (s.length + 1) + 1 by omega]
    omega
theorem num_snoc (s : List Nat) (t : Nat) : num (s ++ [t]) = num s + Ch t (s.length + 1) := by
  unfold num
  rw [numA_snoc, Nat.zero_add]
abbrev Rise (s : List Nat) : Prop := s.Pairwise (· < ·)
theorem rise_snoc {s : List Nat} {t : Nat} : Rise (s ++ [t]) ↔ Rise s ∧ ∀ x ∈ s, x < t := by
  unfold Rise
  rw [List.pairwise_append]
  constructor
  · intro ⟨h1, _, h3⟩
    exact ⟨h1, fun x hx => h3 x hx t (by simp)⟩
  · intro ⟨h1, h2⟩
    exact ⟨h1, by simp, fun x hx y hy => by rw [List.mem_singleton.mp hy]; exact h2 x hx⟩
theorem snoc_cases (s : List Nat) : s = [] ∨ ∃ r t, s = r ++ [t] := by
  rcases List.eq_nil_or_concat s with h | ⟨r, t, h⟩
  · exact Or.inl h
  · exact Or.inr ⟨r, t, by rw [h]; simp⟩
/-- a set of things less than b has a number less than C(b, its size) -/
theorem num_lt : ∀ (n : Nat) (s : List Nat) (b : Nat), s.length = n → Rise s → (∀ x ∈ s, x < b) → num s < Ch b n
  | 0, s, b, hl, _, _ => by
    rw [List.eq_nil_of_length_eq_zero hl, ch_zero]
    exact Nat.zero_lt_one
  | n + 1, s, b, hl, hr, hb => by
    rcases snoc_cases s with h | ⟨r, t, rfl⟩
    · rw [h] at hl; simp at hl
    · have hrl : r.length = n := by simpa using hl
      obtain ⟨h1, h2⟩ := rise_snoc.mp hr
      have ih := num_lt n r t hrl h1 h2
      rw [num_snoc, hrl]
      have ht : t < b := hb t (by simp)
      have hm := ch_mono (n + 1) (show t + 1 ≤ b from ht)
      rw [ch_succ] at hm
      omega
/-- the set of a size with a number -/
def sa : Nat → Nat → List Nat
  | 0, _ => []
  | k + 1, m => sa k (m - Ch (topOf (k + 1) m) (k + 1)) ++ [topOf (k + 1) m]
theorem rest_lt1 (k m : Nat) : m - Ch (topOf (k + 1) m) (k + 1) < Ch (topOf (k + 1) m) k := rest_lt (k := k + 1) (m := m) (Nat.succ_pos k)
theorem top_lt_of {k m b : Nat} (h : m < Ch b (k + 1)) : topOf (k + 1) m < b := by
  rcases Nat.lt_or_ge (topOf (k + 1) m) b with c | c
  · exact c
  · have a := ch_mono (k + 1) c
    have := top_ok (p := k + 1) (m := m) (Nat.succ_pos k)
    omega
structure SaOk (k m b : Nat) : Prop where
  len : (sa k m).length = k
  rise : Rise (sa k m)
  bd : ∀ x ∈ sa k m, x < b
  num : SM.num (sa k m) = m
theorem sa_ok : ∀ (k m b : Nat), m < Ch b k → SaOk k m b
  | 0, m, b, h => by
    rw [ch_zero] at h
    have : m = 0 := by omega
    subst this
    exact ⟨rfl, List.Pairwise.nil, fun x hx => by simp [sa] at hx, rfl⟩
  | k + 1, m, b, h => by
    have ih := sa_ok k _ _ (rest_lt1 k m)
    have ht := top_lt_of h
    have ho := top_ok (p := k + 1) (m := m) (Nat.succ_pos k)
    refine ⟨?_, ?_, ?_, ?_⟩
    · show (sa k _ ++ [topOf (k + 1) m]).length = k + 1
      rw [List.length_append, ih.len]
      rfl
    · show Rise (sa k _ ++ [topOf (k + 1) m])
      exact rise_snoc.mpr ⟨ih.rise, ih.bd⟩
    · show ∀ x ∈ sa k _ ++ [topOf (k + 1) m], x < b
      intro x hx
      rcases List.mem_append.mp hx with hx | hx
      · exact Nat.lt_trans (ih.bd x hx) ht
      · rw [List.mem_singleton.mp hx]; exact ht
    · show SM.num (sa k _ ++ [topOf (k + 1) m]) = m
      rw [num_snoc, ih.num, ih.len]
      omega
/-- each rising list is the set with its number -/
theorem sa_num : ∀ (k : Nat) (s : List Nat), s.length = k → Rise s → sa k (num s) = s
  | 0, s, hl, _ => by
    rw [List.eq_nil_of_length_eq_zero hl]
    rfl
  | k + 1, s, hl, hr => by
    rcases snoc_cases s with h | ⟨r, t, rfl⟩
    · rw [h] at hl; simp at hl
    · have hrl : r.length = k := by simpa using hl
      obtain ⟨h1, h2⟩ := rise_snoc.mp hr
      have hn := num_lt k r t hrl h1 h2
      have ht : topOf (k + 1) (num (r ++ [t])) = t := by
        refine top_uniq (Nat.succ_pos k) ?_ ?_
        · rw [num_snoc, hrl]; omega
        · rw [num_snoc, hrl, ch_succ]; omega
      show sa k (num (r ++ [t]) - Ch (topOf (k + 1) (num (r ++ [t]))) (k + 1)) ++ [topOf (k + 1) (num (r ++ [t]))] = r ++ [t]
      rw [ht, num_snoc, hrl, Nat.add_sub_cancel, sa_num k r hrl h1]
/-! ### as lists of ints; the order -/
def toI (s : List Nat) : List Int := s.map fun n => ((n : Nat) : Int)
theorem toI_inj : ∀ {s t : List Nat}, toI s = toI t → s = t
  | [], [], _ => rfl
  | [], _ :: _, h => by simp [toI] at h
  | _ :: _, [], h => by simp [toI] at h
  | a :: s, b :: t, h => by
    have h' : ((a : Nat) : Int) :: toI s = ((b : Nat) : Int) :: toI t := h
    injection h' with h1 h2
    rw [toI_inj h2, Int.ofNat.inj h1]
theorem toI_len (s : List Nat) : (toI s).length = s.length := by simp [toI]
theorem toI_rev (s : List Nat) : (toI s).reverse = toI s.reverse := by simp [toI, List.map_reverse]
theorem toI_app (s t : List Nat) : toI (s ++ t) = toI s ++ toI t := by simp [toI]
theorem mem_toI {s : List Nat} {i : Int} : i ∈ toI s ↔ ∃ n ∈ s, ((n : Nat) : Int) = i := by simp [toI]
/-- of two sets of one size the one whose greatest differing thing is less is ahead, and has the less number -/
theorem rev_lt_num : ∀ (k : Nat) (s t : List Nat), s.length = k → t.length = k → Rise s → Rise t → (toI s).reverse < (toI t).reverse → num s < num t
  | 0, s, t, hs, ht, _, _, h => by
    rw [List.eq_nil_of_length_eq_zero hs, List.eq_nil_of_length_eq_zero ht] at h
    exact absurd h (List.lt_irrefl _)
  | k + 1, s, t, hs, ht, rs, rt, h => by
    rcases snoc_cases s with e | ⟨s', a, rfl⟩
    · rw [e] at hs; simp at hs
    rcases snoc_cases t with e | ⟨t', b, rfl⟩
    · rw [e] at ht; simp at ht
    have hs' : s'.length = k := by simpa using hs
    have ht' : t'.length = k := by simpa using ht
    obtain ⟨r1, r2⟩ := rise_snoc.mp rs
    obtain ⟨q1, q2⟩ := rise_snoc.mp rt
    have n1 := num_lt k s' a hs' r1 r2
    rw [toI_app, toI_app, List.reverse_append, List.reverse_append] at h
    have h' : ((a : Nat) : Int) :: (toI s').reverse < ((b : Nat) : Int) :: (toI t').reverse := h
    rw [num_snoc, num_snoc, hs', ht']
    rcases List.cons_lt_cons_iff.mp h' with c | ⟨c, h2⟩
    · have hab : a + 1 ≤ b := by omega
      have := ch_mono (k + 1) hab
      rw [ch_succ] at this
      omega
    · have hab : a = b := by omega
      subst hab
      have := rev_lt_num k s' t' hs' ht' r1 q1 h2
      omega
theorem lt_or_eq_or_gt (x y : List Int) : x < y ∨ x = y ∨ y < x := by
  by_cases h1 : x < y
  · exact Or.inl h1
  · by_cases h2 : y < x
    · exact Or.inr (Or.inr h2)
    · exact Or.inr (Or.inl (List.le_antisymm (List.not_lt.mp h2) (List.not_lt.mp h1)))
theorem num_rev_lt {k : Nat} {s t : List Nat} (hs : s.length = k) (ht : t.length = k) (rs : Rise s) (rt : Rise t) (h : num s < num t) : (toI s).reverse < (toI t).reverse := by
  rcases lt_or_eq_or_gt (toI s).reverse (toI t).reverse with c | c | c
  · exact c
  · have := toI_inj (List.reverse_inj.mp c)
    rw [this] at h
    exact absurd h (Nat.lt_irrefl _)
  · have := rev_lt_num k t s ht hs rt rs c
    omega
/-! ### all sets of a size of n things, as they are laid: then turned, sorted, turned -/
def okNext (one : List Nat) (t : Nat) : Bool := match one.getLast? with
  | none => true
  | some x => decide (x < t)
def extOne (n : Nat) (one : List Nat) : List (List Nat) := ((List.range n).filter (okNext one)).map fun t => one ++ [t]
def lx (n : Nat) : Nat → List (List Nat)
  | 0 => [[]]
  | k + 1 => (lx n k).flatMap (extOne n)
theorem okNext_iff {one : List Nat} {t : Nat} (h : Rise one) : okNext one t = true ↔ ∀ x ∈ one, x < t := by
  rcases snoc_cases one with e | ⟨r, x, rfl⟩
  · subst e
    exact ⟨fun _ x hx => by simp at hx, fun _ => rfl⟩
  · have hl : (r ++ [x]).getLast? = some x := by simp
    unfold okNext
    rw [hl]
    obtain ⟨_, h2⟩ := rise_snoc.mp h
    show decide (x < t) = true ↔ _
    rw [decide_eq_true_iff]
    constructor
    · intro hx y hy
      rcases List.mem_append.mp hy with hy | hy
      · exact Nat.lt_trans (h2 y hy) hx
      · rw [List.mem_singleton.mp hy]; exact hx
    · intro hh
      exact hh x (by simp)
theorem mem_lx {n : Nat} : ∀ {k : Nat} {s : List Nat}, s ∈ lx n k ↔ s.length = k ∧ Rise s ∧ ∀ x ∈ s, x < n
  | 0, s => by
    show s ∈ [[]] ↔ _
    rw [List.mem_singleton]
    constructor
    · intro h; subst h
      exact ⟨rfl, List.Pairwise.nil, fun x hx => by simp at hx⟩
    · intro h
      exact List.eq_nil_of_length_eq_zero h.1
  | k + 1, s => by
    show s ∈ (lx n k).flatMap (extOne n) ↔ _
    rw [List.mem_flatMap]
    constructor
    · rintro ⟨one, h1, h2⟩
      obtain ⟨t, ht, rfl⟩ := List.mem_map.mp h2
      obtain ⟨ht1, ht2⟩ := List.mem_filter.mp ht
      obtain ⟨a, b, c⟩ := mem_lx.mp h1
      refine ⟨by simp [a], rise_snoc.mpr ⟨b, (okNext_iff b).mp ht2⟩, fun x hx => ?_⟩
      rcases List.mem_append.mp hx with hx | hx
      · exact c x hx
      · rw [List.mem_singleton.mp hx]
        exact List.mem_range.mp ht1
    · rintro ⟨a, b, c⟩
      rcases snoc_cases s with e | ⟨r, t, rfl⟩
      · rw [e] at a; simp at a
      · obtain ⟨b1, b2⟩ := rise_snoc.mp b
        refine ⟨r, mem_lx.mpr ⟨by simpa using a, b1, fun x hx => c x (by simp [hx])⟩, ?_⟩
        exact List.mem_map.mpr ⟨t, List.mem_filter.mpr ⟨List.mem_range.mpr (c t (by simp)), (okNext_iff b1).mpr b2⟩, rfl⟩
theorem nodup_flat {α β : Type} {f : α → List β} {g : β → α} (hg : ∀ a b, b ∈ f a → g b = a) (hf : ∀ a, (f a).Nodup) : ∀ {l : List α}, l.Nodup → (l.flatMap f).Nodup
  | [], _ => List.nodup_nil
  | a :: l, h => by
    obtain ⟨h1, h2⟩ := List.nodup_cons.mp h
    rw [List.flatMap_cons, List.nodup_append]
    refine ⟨hf a, nodup_flat hg hf h2, fun x hx y hy e => ?_⟩
    obtain ⟨c, hc, hy⟩ := List.mem_flatMap.mp hy
    rw [← hg a x hx, e, hg c y hy] at h1
    exact h1 hc
theorem nodup_mapI {α β : Type} {f : α → β} (inj : ∀ a b, f a = f b → a = b) : ∀ {l : List α}, l.Nodup → (l.map f).Nodup
  | [], _ => List.nodup_nil
  | a :: l, h => by
    obtain ⟨h1, h2⟩ := List.nodup_cons.mp h
    rw [List.map_cons, List.nodup_cons]
    refine ⟨fun hm => ?_, nodup_mapI inj h2⟩
    obtain ⟨b, hb, e⟩ := List.mem_map.mp hm
    rw [inj _ _ e] at hb
    exact h1 hb
theorem ext_nodup (n : Nat) (one : List Nat) : (extOne n one).Nodup := by
  unfold extOne
  refine nodup_mapI (fun a b e => ?_) (List.nodup_range.filter _)
  have := List.append_cancel_left e
  simpa using this
theorem lx_nodup (n : Nat) : ∀ k : Nat, (lx n k).Nodup
  | 0 => by simp [lx]
  | k + 1 => nodup_flat (g := List.dropLast) (fun a b h => by
      obtain ⟨t, _, rfl⟩ := List.mem_map.mp h
      simp) (ext_nodup n) (lx_nodup n k)
/-! ### sorted -/
theorem sortedB {α : Type} {le : α → α → Bool} {lt : α → α → Prop} (tr : ∀ a b c, le a b = true → le b c = true → le a c = true) (tot : ∀ a b, (le a b || le b a) = true)
    (as : ∀ a b, lt a b → lt b a → False) {l m : List α} (hl : l.Nodup) (str : ∀ a b, a ∈ l → b ∈ l → le a b = true → a ≠ b → lt a b) (hm : m.Pairwise lt) (h : ∀ x, x ∈ l ↔ x ∈ m) : l.mergeSort le = m := by
  have hp := List.mergeSort_perm l le
  have hs := List.pairwise_mergeSort tr tot l
  have hn : (l.mergeSort le).Nodup := hp.nodup_iff.mpr hl
  refine ext_sorted as ?_ hm fun x => by rw [hp.mem_iff]; exact h x
  have hb := List.Pairwise.and hs hn
  refine List.Pairwise.imp_of_mem (fun {a b} ha hb2 hab => ?_) hb
  exact str a b (hp.mem_iff.mp ha) (hp.mem_iff.mp hb2) hab.1 hab.2
theorem le_lt {x y : List Int} (h : x ≤ y) (n : x ≠ y) : x < y := by
  rcases lt_or_eq_or_gt x y with c | c | c
  · exact c
  · exact (n c).elim
  · exact absurd c (List.not_lt.mpr h)
def tlb (x y : List Int) : Bool := decide (x ≤ y)
theorem tlb_tr (a b c : List Int) (h1 : tlb a b = true) (h2 : tlb b c = true) : tlb a c = true := decide_eq_true (List.le_trans (of_decide_eq_true h1) (of_decide_eq_true h2))
theorem tlb_tot (a b : List Int) : (tlb a b || tlb b a) = true := by
  rcases List.le_total a b with h | h <;> simp [tlb, h]
/-- the sets of a size in order -/
def inOrd (k : Nat) (l : List (List Nat)) : Prop := ∀ s ∈ l, s.length = k ∧ Rise s
/-- turned, sorted, turned: in order of the numbers -/
theorem turned_sorted {k : Nat} {l m : List (List Nat)} (hl : l.Nodup) (kl : inOrd k l) (hm : m.Pairwise fun a b => num a < num b) (h : ∀ s, s ∈ l ↔ s ∈ m) :
    ((l.map fun s => (toI s).reverse).mergeSort tlb).map List.reverse = m.map toI := by
  have km : inOrd k m := fun s hs => kl s ((h s).mpr hs)
  rw [sortedB (m := m.map fun s => (toI s).reverse) (lt := (· < ·)) tlb_tr tlb_tot (fun a b h1 h2 => List.lt_asymm h1 h2) (nodup_mapI (fun a b e => toI_inj (List.reverse_inj.mp e)) hl) ?_ ?_ ?_]
  · rw [List.map_map]
    exact List.map_congr_left fun s _ => List.reverse_reverse _
  · intro a b _ _ h1 h2
    exact le_lt (of_decide_eq_true h1) h2
  · rw [List.pairwise_map]
    refine List.Pairwise.imp_of_mem (fun {a b} ha hb hab => ?_) hm
    exact num_rev_lt (km a ha).1 (km b hb).1 (km a ha).2 (km b hb).2 hab
  · intro x
    constructor
    · intro hx
      obtain ⟨s, hs, rfl⟩ := List.mem_map.mp hx
      exact List.mem_map.mpr ⟨s, (h s).mp hs, rfl⟩
    · intro hx
      obtain ⟨s, hs, rfl⟩ := List.mem_map.mp hx
      exact List.mem_map.mpr ⟨s, (h s).mpr hs, rfl⟩
/-- the first sets -/
def fs (k m : Nat) : List (List Nat) := (List.range m).map (sa k)
theorem fs_sorted {k m : Nat} (h : ∃ b, m ≤ Ch b k) : (fs k m).Pairwise fun a b => num a < num b := by
  obtain ⟨b, h⟩ := h
  unfold fs
  rw [List.pairwise_map]
  refine List.Pairwise.imp_of_mem (fun {x y} hx hy hxy => ?_) List.pairwise_lt_range
  rw [(sa_ok k x b (Nat.lt_of_lt_of_le (List.mem_range.mp hx) h)).num, (sa_ok k y b (Nat.lt_of_lt_of_le (List.mem_range.mp hy) h)).num]
  exact hxy
theorem mem_fs {k b : Nat} {s : List Nat} : s ∈ fs k (Ch b k) ↔ s.length = k ∧ Rise s ∧ ∀ x ∈ s, x < b := by
  unfold fs
  rw [List.mem_map]
  constructor
  · rintro ⟨m, hm, rfl⟩
    have o := sa_ok k m b (List.mem_range.mp hm)
    exact ⟨o.len, o.rise, o.bd⟩
  · rintro ⟨h1, h2, h3⟩
    exact ⟨num s, List.mem_range.mpr (num_lt k s b h1 h2 h3), sa_num k s h1 h2⟩
theorem lx_sorted (n k : Nat) : (((lx n k).map fun s => (toI s).reverse).mergeSort tlb).map List.reverse = (fs k (Ch n k)).map toI :=
  turned_sorted (k := k) (lx_nodup n k) (fun s hs => ⟨(mem_lx.mp hs).1, (mem_lx.mp hs).2.1⟩) (fs_sorted ⟨n, Nat.le_refl _⟩) fun s => by rw [mem_lx, mem_fs]
theorem fs_take {k m n : Nat} (h : m ≤ n) : (fs k n).take m = fs k m := by
  unfold fs
  rw [← List.map_take, List.take_range, Nat.min_eq_left h]
theorem fs_len (k m : Nat) : (fs k m).length = m := by simp [fs]
theorem lx_len (n k : Nat) : (lx n k).length = Ch n k := by
  have := congrArg List.length (lx_sorted n k)
  rw [List.length_map, List.length_map, (List.mergeSort_perm _ _).length_eq, List.length_map, fs_len] at this
  exact this
end SM

/-! tuple(reversed(t)), t a tuple -/
namespace SH
open PySem PySem.Spec PyProof.Rows RT
theorem rv_nolen : typeLookup (.type "reversed") "__len__" = pure none := by
  rw [typeLookup_type, builtinLookup_eq_fast]
  kernel_rfl
theorem rv_slot : Slot "reversed" "__length_hint__" "reversed.__length_hint__" := by
  refine .of (owner := "reversed") (n := "__length_hint__") ?_ ?_ ?_ ?_ ?_ ?_
  · rw [typeLookup_type, builtinLookup_eq_fast]
    kernel_rfl
  · decide +kernel
  · decide +kernel
  · decide +kernel
  · first | exact Or.inl (by decide +kernel) | exact Or.inr (by decide +kernel)
  · rw [isSubtype_type]
    kernel_rfl
theorem rv_entry : entryFor table "reversed.__length_hint__" = some Builtin.«reversed.__length_hint__» := entryFor_of_tree (by kernel_rfl)
theorem rv_args (a : Value) : argsOk "reversed.__length_hint__" ⟨[a], []⟩ := by
  unfold argsOk
  rw [signature?_of (id := "reversed.__length_hint__") (n := ['_', '_', 't', 'n', 'i', 'h', '_', 'h', 't', 'g', 'n', 'e', 'l', '_', '_']) (o := ['d', 'e', 's', 'r', 'e', 'v', 'e', 'r']) (by kernel_rfl) owner_rt]
  kernel_rfl
theorem rv_method : typeOf (.builtin "reversed.__length_hint__") = pure (.type "method_descriptor") := by first | rfl | kernel_rfl
section
variable {prog : Program} {w : World} {A : Around} {E : Value → Shared → Prop} {s : Shared}
/-- what the maker of a list asks of a reversed tuple ahead of it -/
theorem rv_hint {it t : Addr} {items : Array Value} {Q : Bool → Shared → Prop} (hit : IsRt s.heap it t ((items.size : Int) - 1)) (ht : IsTup s.heap t items) (hn : items.size ≤ sizeLine)
    (h : ∀ (b : Bool) (tk : Nat), Q b { s with toks := tk }) : wpAny (model prog w) A (Builtin.List.listLengthHint (.ref it)) Q E s := by
  have hs : items.size ≤ 16777216 := by rw [← sizeLine_eq]; exact hn
  have hT := hit.typeIs
  obtain ⟨o, ho, hc, hd⟩ := id hit
  unfold Builtin.List.listLengthHint
  refine wpAny_bind (wpAny_specialOf hT rv_nolen ?_)
  show wpAny _ A (specialOf (Value.ref it) (Str.ofString "__length_hint__") >>= _) _ _ _
  refine wpAny_bind (wpAny_specialOf hT rv_slot.lookup ?_)
  generalize hid : ("reversed.__length_hint__" : String) = id0
  wp_delta
  rw [show splitId id0 = some ("reversed", "__length_hint__") from by subst hid; decide +kernel]
  subst hid
  refine wpAny_bind (wpAny_isInstance (b := true) hT (by rw [isSubtype_type]; kernel_rfl) ?_)
  dsimp only
  simp only [Bool.not_true, Bool.false_eq_true, if_false]
  rw [if_neg (by decide +kernel)]
  refine wpAny_bind (wpAny_rule ?_)
  refine wpAny_bind (wpAny_of_eq (a := (Value.builtin "reversed.__length_hint__", [Value.ref it])) ?_ ?_)
  · unfold bindSpecial
    rw [rv_method]
    rfl
  refine wpAny_bind (wpAny_attempt (wpAny_call_entry rv_slot hit.typeIs rv_entry ?_ (rv_args _)))
  unfold Builtin.«reversed.__length_hint__»
  refine wpAny_bind (wpAny_of_eq (a := Value.ref it) rfl ?_)
  refine wpAny_bind (wpAny_field ho hd (x := .ref t) rfl ?_)
  simp only [show (Value.ref t == Value.none) = false from rfl, Bool.false_eq_true, if_false]
  refine wpAny_bind (len_tuple ht (by omega) ?_)
  refine wpAny_bind (wpAny_pure ?_)
  dsimp only
  refine wpAny_bind (wpAny_field (s := { s with toks := s.toks + 1 + 1 }) ho hd (x := rawInt ((items.size : Int) - 1)) rfl ?_)
  show wpAny _ _ (if (items.size : Int) < ((items.size : Int) - 1) + 1 then _ else _) _ _ _
  rw [if_neg (by omega), show ((items.size : Int) - 1) + 1 = (items.size : Int) by omega]
  refine wpAny_bind (wpAny_mkInt (wpAny_pure ⟨_, rfl, ?_⟩))
  dsimp only
  have hA : ∀ (n : Int) (u : Tok), asInt? (Value.int n u) = pure (some n) := fun n u => by
    simp only [asInt?]
  generalize s.toks + 1 + 1 = u1
  generalize s.toks + 1 + 1 + 1 = u2
  rw [hA]
  refine wpAny_bind ?_
  refine wpAny_pure ?_
  dsimp only
  have h1 : ¬ ((!Builtin.List.listFitsIndex (items.size : Int)) = true) := by
    have e1 : decide (-(2 ^ 63 : Int) ≤ (items.size : Int)) = true := decide_eq_true (by omega)
    have e2 : decide ((items.size : Int) < 2 ^ 63) = true := decide_eq_true (by omega)
    show ¬ ((!(decide (-(2 ^ 63 : Int) ≤ (items.size : Int)) && decide ((items.size : Int) < 2 ^ 63))) = true)
    rw [e1, e2]
    decide
  have h2 : ¬ (Builtin.List.listTooLong ((items.size : Int)).toNat = true) := by
    intro z
    have z2 := of_decide_eq_true (show decide ((items.size : Int).toNat > sizeLine) = true from z)
    omega
  rw [if_neg h1, if_neg (by omega), if_neg h2]
  exact wpAny_pure (h _ _)
/-- a reversed tuple, walked -/
theorem walks_rt (hh : A.handled = none) (I t : Addr) (hne : t ≠ I) (items : Array Value) (hn : items.size ≤ sizeLine) :
    Walks prog w A I [I, t] [I] items.size (fun i v => items[items.size - 1 - i]? = some v) (fun i h => i ≤ items.size ∧ IsRt h I t ((items.size : Int) - 1 - (i : Int)) ∧ IsTup h t items) where
  sub := fun b hb => by
    simp at hb
    simp [hb]
  frame := fun _ _ _ x hk => ⟨x.1, x.2.1.at fun o e => hk I (by simp) o e, by
    obtain ⟨o, ho, r⟩ := x.2.2
    exact ⟨o, hk t (by simp) o ho, r⟩⟩
  item := fun i s Q E hi x hQ => by
    obtain ⟨_, hit, htp⟩ := x
    have e : (items.size : Int) - 1 - (i : Int) = ((items.size - 1 - i : Nat) : Int) := by omega
    rw [e] at hit
    have hx : items[items.size - 1 - i]? = some (items[items.size - 1 - i]'(by omega)) := Array.getElem?_eq_getElem (by omega)
    refine next_rt_item hit htp hx hn fun h' hit' sb => ?_
    have e2 : ((items.size - 1 - i : Nat) : Int) - 1 = (items.size : Int) - 1 - ((i + 1 : Nat) : Int) := by omega
    rw [e2] at hit'
    refine hQ _ h' _ hx ⟨hi, hit', ?_⟩ fun b o hb eo => (sb.2 b (fun z => hb (by simp [z]))).trans eo
    obtain ⟨o, ho, r⟩ := htp
    exact ⟨o, (sb.2 t hne).trans ho, r⟩
  done := fun s Q E x hQ => by
    obtain ⟨_, hit, _⟩ := x
    have e : (items.size : Int) - 1 - (items.size : Int) = -1 := by omega
    rw [e] at hit
    exact next_rt_end hh hit fun h' ex => hQ h' s.toks fun b o hb eo => ex b o (fun z => hb (by simp [z])) eo
  self := fun _ _ _ _ x hQ => iter_rt x.2.1 hQ
/-- what is collected of it -/
theorem collect_rt {it t : Addr} {items : Array Value} {Q : List Value → Shared → Prop} (hh : A.handled = none) (hit : IsRt s.heap it t ((items.size : Int) - 1)) (ht : IsTup s.heap t items) (hne : t ≠ it) (hn : items.size ≤ sizeLine)
    (hQ : ∀ (h' : Heap) (tk : Nat) (acc : Array Value), (∀ b o, b ≠ it → s.heap.get? b = some o → h'.get? b = some o) → ItemsOf (fun i v => items[items.size - 1 - i]? = some v) acc items.size → Q acc.toList { s with heap := h', toks := tk }) :
    wpAny (model prog w) A (collect (.ref it)) Q E s := by
  obtain ⟨oi, hoi, _⟩ := id hit
  obtain ⟨ot, hot, _⟩ := id ht
  have n1 : s.heap.objs.size ≠ it := Nat.ne_of_gt (Heap.lt_size hoi)
  have n2 : s.heap.objs.size ≠ t := Nat.ne_of_gt (Heap.lt_size hot)
  unfold collect
  refine wpAny_bind (wpAny_runValue (codeAny_builtin F.entry_proto_collect ?_))
  rw [Around.under_plainId F.plain_proto_collect _]
  show wpAny _ A.in1 (newList [] >>= fun l' => again (.builtin "list.__iadd__" ⟨[l', .ref it], []⟩)) _ _ s
  refine wpAny_bind (wpAny_newObj_type ?_)
  refine wpAny_pure ⟨plainId_quiet F.plain_list_iadd _, codeAny_builtin F.entry_list_iadd ?_⟩
  rw [Around.under_plainId F.plain_list_iadd _]
  generalize hL : s.heap.objs.size = L at n1 n2 ⊢
  generalize hg : s.heap.push { cls := .type "list", data := .seq ([] : List Value).toArray } = g
  have kg : ∀ b o, s.heap.get? b = some o → g.get? b = some o := fun b o e => by
    rw [← hg]
    exact Heap.get?_push_of_some _ e
  have gL : g.get? L = some { cls := .type "list", data := .seq ([] : List Value).toArray } := by
    rw [← hg, ← hL]
    exact Heap.get?_push_size _ rfl
  have hit1 : IsRt g it t ((items.size : Int) - 1) := hit.at fun o e => kg _ _ e
  have ht1 : IsTup g t items := by
    obtain ⟨o, ho, r⟩ := ht
    exact ⟨o, kg _ _ ho, r⟩
  show wpAny _ A.in1 (Builtin.List.listExtendWith (.ref L) (.ref it) (.ref L)) _ _ _
  unfold Builtin.List.listExtendWith
  refine wpAny_bind (wpAny_typeOf (IsRt.typeIs (s := { s with heap := g }) hit1) ?_)
  rw [if_neg (by
    have : Builtin.List.listSameRef (.ref L) (.ref it) = false := by simp [Builtin.List.listSameRef, n1]
    rw [this]
    decide)]
  refine wpAny_bind (iter_rt (s := { s with heap := g }) hit1 ?_)
  refine wpAny_bind (wpAny_holding (rv_hint (s := { s with heap := g }) hit1 ht1 hn fun b tk => ?_))
  have W := (walks_rt (prog := prog) (w := w) (A := A.in1) hh it t hne items hn).toS
  have nf : L ∉ [it, t] := by
    simp only [List.mem_cons, List.not_mem_nil, or_false, not_or]
    exact ⟨n1, n2⟩
  have e0 : ((items.size : Nat) : Int) - 1 - ((0 : Nat) : Int) = (items.size : Int) - 1 := by omega
  have up : ∀ (h2 : Heap), (∀ b o, b ≠ L → g.get? b = some o → h2.get? b = some o) → 0 ≤ items.size ∧ IsRt h2 it t ((items.size : Int) - 1 - ((0 : Nat) : Int)) ∧ IsTup h2 t items := fun h2 k => by
    rw [e0]
    refine ⟨Nat.zero_le _, hit1.at fun o e => k it o n1.symm e, ?_⟩
    obtain ⟨o, ho, r⟩ := ht1
    exact ⟨o, k t o n2.symm ho, r⟩
  have fin : ∀ (h2 : Heap) (s' : Shared) (acc' : Array Value) (c' : Nat), (∀ b o, b ≠ L → g.get? b = some o → h2.get? b = some o) → Moved (L :: [it]) (fun a b => b = a) { s with heap := h2, toks := tk } s' →
      s'.heap.get? L = some { cls := .type "list", dict := none, data := .seq acc' c', slots := #[] } → ItemsOf (fun i v => items[items.size - 1 - i]? = some v) acc' items.size → Q acc'.toList s' := fun h2 s' acc' c' k hm hS hacc => by
    rw [Moved.eq_with hm]
    refine hQ s'.heap s'.toks acc' (fun b o hb e => ?_) hacc
    have hbL : b ≠ L := by
      rw [← hL]
      exact Nat.ne_of_lt (Heap.lt_size e)
    refine hm.heap b o (fun hmem => ?_) (k b o hbL (kg b o e))
    rcases List.mem_cons.mp hmem with z | z
    · exact hbL z
    · exact hb (List.mem_singleton.mp z)
  split
  · refine wpAny_bind (wpAny_rule ?_)
    unfold Builtin.List.listTouch
    have q1 := get?_update_seq (show g.get? L = some (seqObj "list" #[] 0) from gL) fun x : Array Value => x.push Value.none
    have q2 := get?_update_seq q1 fun x : Array Value => x.pop
    have b1 := Heap.SameBut.update g L (Obj.mapSeq fun x : Array Value => x.push Value.none)
    have b2 := Heap.SameBut.update (g.update L (Obj.mapSeq fun x : Array Value => x.push Value.none)) L (Obj.mapSeq fun x : Array Value => x.pop)
    refine wpAny_bind (wpAny_bind (listUpdate_at gL rfl ?_ (Nat.zero_le _) (Nat.succ_le_succ (Nat.zero_le _))))
    refine listUpdate_at (s := { s with heap := g.update L (Obj.mapSeq fun x : Array Value => x.push Value.none), toks := tk }) q1 rfl ?_ (by rw [sizeLine_eq]; decide) (Nat.zero_le _)
    have kk : ∀ b o, b ≠ L → g.get? b = some o → ((g.update L (Obj.mapSeq fun x : Array Value => x.push Value.none)).update L (Obj.mapSeq fun x : Array Value => x.pop)).get? b = some o := fun b o hb e => (b2.2 b hb).trans ((b1.2 b hb).trans e)
    refine wpAny_pure ⟨plainId_quiet F.plain_extend_loop _, codeAny_extend_loopS W hn L nf _ items.size 0 _ _ _ rfl (Nat.zero_le _) (up _ kk) q2 (ItemsOf.nil _) fun s' acc' c' hm hS hacc => ?_⟩
    show wpAny _ A (load L >>= _) _ _ s'
    refine wpAny_bind (wpAny_load hS ?_)
    exact wpAny_pure (fin _ s' acc' c' kk hm hS hacc)
  · refine wpAny_pure ⟨plainId_quiet F.plain_extend_loop _, codeAny_extend_loopS W hn L nf _ items.size 0 _ _ _ rfl (Nat.zero_le _) (up g fun _ _ _ e => e) gL (ItemsOf.nil _) fun s' acc' c' hm hS hacc => ?_⟩
    show wpAny _ A (load L >>= _) _ _ s'
    refine wpAny_bind (wpAny_load hS ?_)
    exact wpAny_pure (fin g s' acc' c' (fun _ _ _ e => e) hm hS hacc)
theorem code_tuple_rt {it t : Addr} {items : Array Value} {Q1 : Value → Shared → Prop} (hh : A.handled = none) (hit : IsRt s.heap it t ((items.size : Int) - 1)) (ht : IsTup s.heap t items) (hne : t ≠ it) (hn : items.size ≤ sizeLine)
    (h : ∀ (h' : Heap) (tk : Nat) (acc : Array Value), (∀ b o, b ≠ it → s.heap.get? b = some o → h'.get? b = some o) → ItemsOf (fun i v => items[items.size - 1 - i]? = some v) acc items.size →
      Q1 (.ref h'.objs.size) { s with heap := h'.push { cls := .type "tuple", data := .seq acc }, toks := tk }) :
    codeAny (model prog w) A (.call (.builtin "tuple.__new__") ⟨[.type "tuple", .ref it], []⟩) (wants Q1 E) s := by
  refine codeAny_of_tree ?_
  show wpAny _ A.in1 (do checkBuiltinCall "tuple.__new__" ⟨[.type "tuple", .ref it], []⟩; again (.builtin "tuple.__new__" ⟨[.type "tuple", .ref it], []⟩)) _ _ s
  refine wpAny_bind (wpAny_of_eq (F.newCall_tuple_1 _) (wpAny_pure ⟨plainId_quiet F.plain_tuple_new _, codeAny_builtin F.entry_tuple_new ?_⟩))
  rw [Around.under_plainId F.plain_tuple_new _]
  have s1 := sub_tuple_self
  have s2 := init_tuple_lookup
  have s3 := madeHere_tuple
  have hTI := hit.typeIs
  have hh1 : A.in1.handled = none := hh
  wp_walk using wpAny_typeOf hTI, collect_rt (A := A.in1) hh1 hit ht hne hn
  intro h' tk acc hk hacc
  show wpAny _ _ (Builtin.Tuple.tupleExact acc.toList.toArray >>= fun v => ret v) _ _ _
  unfold Builtin.Tuple.tupleExact
  have e : acc.toList.toArray = acc := by simp
  rw [e]
  refine wpAny_bind (wpAny_newObj_type ?_ (by show acc.size ≤ sizeLine; rw [hacc.1]; exact hn))
  exact wpAny_pure (h h' tk acc hk hacc)
theorem call_tuple_rt {it t : Addr} {items : Array Value} {Q : Value → Shared → Prop} (hh : A.handled = none) (hit : IsRt s.heap it t ((items.size : Int) - 1)) (ht : IsTup s.heap t items) (hne : t ≠ it) (hn : items.size ≤ sizeLine)
    (hQ : ∀ (h' : Heap) (tk : Nat) (acc : Array Value), (∀ b o, b ≠ it → s.heap.get? b = some o → h'.get? b = some o) → ItemsOf (fun i v => items[items.size - 1 - i]? = some v) acc items.size →
      Q (.ref h'.objs.size) { s with heap := h'.push { cls := .type "tuple", data := .seq acc }, toks := tk }) :
    wpAny (model prog w) A (call (.type "tuple") [.ref it]) Q E s := by
  refine callType_codes (Q₁ := fun obj s1 => s1.TypeIs obj "tuple" ∧ Q obj s1) F.called_tuple (F.typeCall_tuple_1 _) F.entry_object_init
    (code_tuple_rt (A := A.in1) hh hit ht hne hn fun h' tk acc hk hacc => ⟨⟨_, Heap.get?_push_size _ rfl, rfl⟩, hQ h' tk acc hk hacc⟩) fun obj s1 h1 => ?_
  exact ⟨h1.1, F.args_object_init_2 obj _, object_init_meets F.called_tuple.init.lookup F.called_tuple.made (by decide) prog w A.in1 _ s1 ⟨h1.1, rfl, h1.2⟩⟩
end
end SH
namespace SH
open PySem PySem.Spec PyProof.Rows L2 Evl RT
/-- tuple(reversed(t)), t a tuple: a new tuple -/
def tTupRt (K : PySem.W.Frag) (te : TE) : TE := fun sg H Q => te sg H fun v H1 => ∃ (a : Addr) (xs : List V), v = .ref a ∧ SqT K H1 a xs ∧ ∀ q, H1 q = none → Q (.ref q) (L2.upd H1 q (.tup xs.reverse))
section
variable {X : Cx} {K : PySem.W.Frag}
theorem pe_tupRt {e : Expr} {te : TE} {p p2 pos pos2 : Pos} (hc : X.calm = true) (hg : Gl X "tuple") (hm : X.mg "tuple" = none) (hg2 : Gl X "reversed") (hm2 : X.mg "reversed" = none) (he : PE X e te) (hK : X.K = K := by rfl)
    (hs : starEach [e] X.env = (false, eval e X.env) :: starEach [] X.env := by rfl)
    (hs2 : starEach [.Call (.Name "reversed" p2) [e] [] pos2] X.env = (false, eval (.Call (.Name "reversed" p2) [e] [] pos2) X.env) :: starEach [] X.env := by rfl) :
    PE X (.Call (.Name "tuple" p) [.Call (.Name "reversed" p2) [e] [] pos2] [] pos) (tTupRt K te) := by
  subst hK
  refine ⟨fun pins s sg H Q I h => ?_⟩
  refine Call_ (ld_blt I hg hm boot_tuple (PyProof.Rows.callWith_type1 (args_cons (Call_ (ld_blt I hg2 hm2 PyProof.Rows.boot_reversed (PyProof.Rows.callWith_type1 (args_cons (thn (he.run pins s sg H _ I h) fun u s1 ⟨v, H1, I1, r1, q1⟩ => args_nil ?_) hs) hs rfl))) hs2) hs2 rfl))
  obtain ⟨a, xs, ev, hq, q⟩ := q1
  subst ev
  obtain rfl : u = Value.ref a := r1
  obtain ⟨its, rv, p', hz⟩ := I1.tuple hq
  have hn : its.toArray.size ≤ sizeLine := by
    rw [List.size_toArray, ← rv.length]
    exact hz
  have hn2 : its.toArray.size ≤ 16777216 := by
    rw [← sizeLine_eq]
    exact hn
  refine call_reversed_tup p' (fun A E Q k => len_tuple p' (by omega) k) (args_nil ?_)
  have k0 : ∀ b o, s1.heap.get? b = some o → (s1.heap.push (rtObj a ((its.toArray.size : Int) - 1))).get? b = some o := fun b o e => Heap.get?_push_of_some _ e
  have I2 : Inv X pins sg H1 { s1 with heap := s1.heap.push (rtObj a ((its.toArray.size : Int) - 1)), toks := s1.toks + 1 + 1 } := I1.kept (t' := s1.toks + 1 + 1) k0
  obtain ⟨f0, f1, f2, f3, f4, f5⟩ := I1.fpOk (H' := H1) (b := s1.heap.objs.size) (Nat.le_refl _) (I1.hok.fresh (Nat.le_refl _))
  obtain ⟨ol, hol, pr⟩ := id p'
  have hne : a ≠ s1.heap.objs.size := Nat.ne_of_lt (Heap.lt_size hol)
  refine call_tuple_rt (s := { s1 with heap := s1.heap.push (rtObj a ((its.toArray.size : Int) - 1)), toks := s1.toks + 1 + 1 }) (I1.ok.hd hc) ⟨_, Heap.get?_push_size _ rfl, rfl, rfl⟩ ⟨ol, k0 _ _ hol, pr⟩ hne hn fun h' tk acc hk hi => ?_
  have I3 : Inv X pins sg H1 { s1 with heap := h', toks := tk } := I2.turned (t' := tk) (fun b o hb e => hk b o hb e) f0 f1 f3 f4 f5
  refine ⟨.ref h'.objs.size, L2.upd H1 h'.objs.size (.tup xs.reverse), I3.laid (t' := tk) (fun c o e => Heap.get?_push_of_some _ e) (Nat.le_refl _) (show ObjOk X.prog X.w _ _ _ (.tup xs.reverse) from ⟨by rw [List.length_reverse]; exact hz, acc.toList, vals_rev rv hi, ?_⟩), rfl, q _ (I3.hok.fresh (Nat.le_refl _))⟩
  rw [Array.toArray_toList]
  exact IsTup.new _ _
end
section
variable {K : PySem.W.Frag} {sg : L2.St} {H : Hp} {te : TE}
theorem evp_tupRt {ns : List Int} (h : EvP te sg H (IT K ns)) : EvP (tTupRt K te) sg H (IT K ns.reverse) := fun H1 e Q q =>
  h H1 e _ fun v H2 e2 ⟨a, hv, hT⟩ => ⟨a, _, hv, hT, fun p hp => q _ _ (e2.trans (Ex.new hp)) ⟨p, rfl, Or.inl (Or.inl (by rw [upd_same, List.map_reverse]))⟩⟩
end
end SH

/-! sorted of tuples of ints; sorted by a def that hands back an int: any number of items -/
namespace SH
open PySem PySem.W PySem.Spec PyProof.Rows L2 Evl
/-- the order of tuples, of keys -/
def tleB (x y : List Int) : Bool := decide (x ≤ y)
def kleB (key : List Int → Int) (x y : List Int) : Bool := decide (key x ≤ key y)
theorem dataLe_T {β : Type} (x : β → List Int) : dataLe false (fun b => dT (x b)) = fun p q => tleB (x p) (x q) := by
  funext p q
  show (!dataLt (.tuple (dI (x q))) (.tuple (dI (x p)))) = _
  rw [dataLt_tuple]
  show (!rowLt ((x q).map .int) ((x p).map .int)) = _
  rw [dataLt_ints]
  unfold tleB
  by_cases h : x q < x p
  · have h' : ¬ x p ≤ x q := fun r => List.not_lt.mpr r h
    simp [h, h']
  · have h' : x p ≤ x q := List.not_lt.mp h
    simp [h, h']
theorem alike_T (x y : List Int) : alike (dT x) (dT y) = true := by
  show alike (.tuple (dI x)) (.tuple (dI y)) = true
  simp only [alike]
  exact alike_ints x y
theorem depth_T (x : List Int) : PyData.depth (dT x) = 1 := by simp [dT, PyData.depth, dep_I]
/-- pairs of a value and the tuple that it is -/
theorem each_zip {K : PySem.W.Frag} {H : Hp} : ∀ {us : List V} {ts : List (List Int)} {its : List Value}, ITs K H us ts → Vals us its → EachIs (fun (v : Value) (b : V × List Int) => RelV b.1 v) its (us.zip ts)
  | _, _, _, .nil, .nil => .nil
  | _, _, _, .cons _ t, .cons r s => .cons r (each_zip t s)
theorem its_mem {K : PySem.W.Frag} {H : Hp} : ∀ {us : List V} {ts : List (List Int)}, ITs K H us ts → ∀ b ∈ us.zip ts, IT K b.2 b.1 H
  | _, _, .nil, b, h => by simp at h
  | _, _, .cons a t, b, h => by
    rw [List.zip_cons_cons] at h
    rcases List.mem_cons.mp h with e | h
    · rw [e]; exact a
    · exact its_mem t b h
theorem its_of {K : PySem.W.Frag} {H : Hp} : ∀ {bs : List (V × List Int)}, (∀ b ∈ bs, IT K b.2 b.1 H) → ITs K H (bs.map (·.1)) (bs.map (·.2))
  | [], _ => .nil
  | b :: bs, h => .cons (h b List.mem_cons_self) (its_of fun c hc => h c (List.mem_cons_of_mem _ hc))
theorem its_zip2 {K : PySem.W.Frag} {H : Hp} {us : List V} {ts : List (List Int)} (h : ITs K H us ts) : (us.zip ts).map (·.2) = ts := List.map_snd_zip (Nat.le_of_eq h.length.symm)
theorem vals_each {bs : List (V × List Int)} {out : List Value} (h : EachIs (fun (v : Value) (b : V × List Int) => RelV b.1 v) out bs) : Vals (bs.map (·.1)) out := by
  induction h with
  | nil => exact .nil
  | cons a _ ih => exact .cons a ih
/-- the sorted values with their tuples -/
theorem its_sorted {K : PySem.W.Frag} {H : Hp} {us : List V} {ts : List (List Int)} (le : List Int → List Int → Bool) (h : ITs K H us ts) : ITs K H (((us.zip ts).mergeSort fun p q => le p.2 q.2).map (·.1)) (ts.mergeSort le) := by
  have q := its_of (K := K) (H := H) (bs := (us.zip ts).mergeSort fun p q => le p.2 q.2) fun b hb => its_mem h b ((List.mergeSort_perm _ _).mem_iff.mp hb)
  rw [List.map_mergeSort (r := fun p q : V × List Int => le p.2 q.2) (s := le) (f := fun p : V × List Int => p.2) (fun _ _ _ _ => rfl), its_zip2 h] at q
  exact q
/-- sorted(xs), a list of tuples of ints; none of them empty, or one alone -/
def rSortedTs (K : PySem.W.Frag) : List V → Hp → VK → Prop := fun vs H Q => ∃ (a : Addr) (us : List V) (ts : List (List Int)), vs = [V.ref a] ∧ SqL K H a us ∧ ITs K H us ts ∧ (∀ t ∈ ts, t ≠ []) ∧
  ∀ (us' : List V) (p : Addr), H p = none → ITs K H us' (ts.mergeSort tleB) → Q (.ref p) (L2.upd H p (.lst us'))
section
variable {X : Cx}
theorem cr_sortedTs (hu : X.A.units + 64 < cLine) : CallR X (.builtin "sorted") (rSortedTs X.K) := by
  intro pins s sg H vs us0 Q I r h
  obtain ⟨a, us, ts, rfl, hs, hT, hne, q⟩ := h
  obtain ⟨its, rv, hl, hz⟩ := I.list hs
  rw [Vals.ref1 r]
  have er : EachIs (fun v (b : V × List Int) => ∃ as, Reads s.heap v (dT b.2) as) its (us.zip ts) := (each_mem (each_zip hT rv)).mono fun v b ⟨h1, h2⟩ => Dp.reads I _ _ _ (dp_T (its_mem hT b h2)) h1
  have hzl : (us.zip ts).length = us.length := by rw [List.length_zip, ← hT.length, Nat.min_self]
  refine sorted_data (bs := us.zip ts) (enc := fun b : V × List Int => dT b.2) hl.isList (each_zip hT rv) er (AllAlike.of fun b b' => alike_T _ _) (.inl fun d hd => ?_) (by rw [hzl]; exact hz) (fun b _ => by
    show X.A.units + 2 + PyData.depth (dT b.2) < cLine
    rw [depth_T]
    omega) fun out hol ho => ?_
  · obtain ⟨b, hb, rfl⟩ := List.mem_map.mp hd
    have hb2 : b.2 ∈ ts := by
      rw [← its_zip2 hT]
      exact List.mem_map.mpr ⟨b, hb, rfl⟩
    cases hc : b.2 with
    | nil => exact absurd hc (hne _ hb2)
    | cons x r => exact ⟨.int x, dI r, rfl⟩
  · rw [dataLe_T (fun b : V × List Int => b.2)] at ho
    obtain ⟨ep, he⟩ := PyProof.Rows.sortedAll_at s.heap its out.toArray
    have hv := vals_each ho
    refine ⟨.ref _, L2.upd H (s.heap.objs.size + 1) (.lst (((us.zip ts).mergeSort fun p q => tleB p.2 q.2).map (·.1))), I.laid (t' := s.toks) (fun _ _ => PyProof.Rows.sortedAll_old) (Nat.le_succ _) ⟨?_, out, ep, hv, he⟩, rfl, q _ _ (I.hok.fresh (Nat.le_succ _)) (its_sorted tleB hT)⟩
    rw [List.length_map, List.length_mergeSort, hzl]
    exact hz
end
section
variable {K : PySem.W.Frag} {sg : L2.St} {H : Hp} {ta : TE}
theorem evp_sortedTs {ts : List (List Int)} (h : EvP ta sg H (ILT K ts)) (hne : ∀ t ∈ ts, t ≠ []) : EvP (tCB (rSortedTs K) (tCons ta tNil)) sg H (fun v H2 => ∃ p, v = .ref p ∧ H p = none ∧ LT K p (ts.mergeSort tleB) H2) := fun H1 e Q q =>
  h H1 e _ fun v H2 e2 ⟨a, us, hv, hS, hT⟩ => ⟨a, us, ts, by rw [hv], hS, hT, hne, fun us' p hp hT' => q _ _ (e2.trans (Ex.new hp)) ⟨p, rfl, fresh_back (e.trans e2) hp, us', upd_same, hT'.ex (Ex.new hp)⟩⟩
end
/-! ### sorted(xs, key=f), f a def of the text that hands back an int -/
/-- what is asked of f at the tuples ts -/
def rSortedKey (K : PySem.W.Frag) (f : Addr) (C : List Int → Prop) (key : List Int → Int) : List V → List V → Hp → VK → Prop := fun vs zs H Q => ∃ (a : Addr) (us : List V) (ts : List (List Int)), vs = [V.ref a] ∧ zs = [V.ref f] ∧ SqL K H a us ∧ ITs K H us ts ∧ (∀ t ∈ ts, C t) ∧
  ∀ (us' : List V) (p : Addr) (H' : Hp), Ex H H' → H p = none → H' p = some (.lst us') → ITs K H' us' (ts.mergeSort (kleB key)) → Q (.ref p) H'
section
variable {X : Cx} {k : Nat} {f : Addr} {fd : FuncData} {ps : List Str} {sp : Sp} {C : List Int → Prop} {key : List Int → Int}
/-- a key that has come -/
def KI (v : Value) (d : PyData) : Prop := ∃ (i : Int) (u : Tok), v = .int i u ∧ d = .int i
/-- the keys are asked, one after another; then the sort -/
theorem keyF_rest {pins : List (Addr × Obj)} {sg : L2.St} {H : Hp} {s : Shared} {Q : VK} {E' : Value → Shared → Prop} {us : List V} {ts : List (List Int)} {its : List Value} {a kS : Addr} {c1 : Nat}
    (F : FnOk X.prog X.w X.K X.mg X.base CX0 k f fd ps sp) (hr : Room (k + 2) X.A) (hb : L2.Binds X.K fd ps [])
    (hk : ∀ (v : V) (t : List Int) (H : Hp), IT X.K t v H → C t → SpV sp [v] H (.int (key t)))
    (I : Inv X pins sg H s) (fa : FpOk X pins H a) (fk : FpOk X pins H kS) (hka : kS ≠ a) (ga : s.heap.get? a = some (seqObj "list" #[] c1)) (gk : s.heap.get? kS = some (seqObj "list" #[] 0))
    (rv : Vals us its) (hT : ITs X.K H us ts) (hC : ∀ t ∈ ts, C t) (hz : its.length ≤ sizeLine)
    (q : ∀ (us' : List V) (H' : Hp), Ex H H' → H' a = some (.lst us') → ITs X.K H' us' (ts.mergeSort (kleB key)) → Q (.ref a) H') :
    wpAny (model X.prog X.w) X.A.in1.in1 (PyProof.Rows.ksk_rest a (.ref f) false its.toArray c1 (.ref kS)) (fun r s' => r = .done (.ret .none) ∧ EP X pins sg Q (.ref a) s') E' s := by
  have hul := hr.units
  have hlen : its.length = ts.length := by rw [← rv.length, hT.length]
  have hal : AllAlike (ts.map fun t => PyData.int (key t)) := AllAlike.of fun b b' => by simp only [alike]
  have hsk : Sortable (ts.map fun t => PyData.int (key t)) := Sortable.others fun b => ⟨(fun z => nomatch z), (fun xs z => nomatch z)⟩
  obtain ⟨fa0, fa1, fa2, fa3, fa4, fa5⟩ := fa
  obtain ⟨fk0, fk1, fk2, fk3, fk4, fk5⟩ := fk
  unfold PyProof.Rows.ksk_rest
  refine wpAny_bind (wpAny_rule ?_)
  first
    | rw [List.forIn_toArray]
    | (rw [← Array.forIn_toList]; simp only [List.toList_toArray])
    | rw [← Array.forIn_toList]
  refine wpAny_bind (ksk_fold (fun i s' => ∃ (Hi : Hp) (kA : Array Value) (c : Nat), Inv X pins sg Hi s' ∧ Ex H Hi ∧ Hi a = none ∧ Hi kS = none ∧ s'.heap.get? kS = some (seqObj "list" kA c) ∧ s'.heap.get? a = some (seqObj "list" #[] c1) ∧
    EachIs KI kA.toList ((ts.map fun t => PyData.int (key t)).take i)) its 0 s ⟨H, #[], 0, I, Ex.refl H, fa0, fk0, gk, ga, by rw [List.take_zero]; exact .nil⟩ ?step ?done)
  case step =>
    rintro j x s' hx ⟨Hi, kA, c, Ii, ei, na, nk, gk', ga', hE⟩
    rw [Nat.zero_add] at hE ⊢
    have hj : j < its.length := (List.getElem?_eq_some_iff.mp hx).1
    have hjt : j < ts.length := by omega
    obtain ⟨t, ht⟩ : ∃ t, ts[j]? = some t := ⟨_, List.getElem?_eq_getElem hjt⟩
    obtain ⟨v, hv, hvt⟩ := hT.get ht
    obtain ⟨u, hu, rvu⟩ := Vals.get rv hv
    obtain rfl : x = u := by
      rw [hx] at hu
      exact Option.some.inj hu
    have sp1 := hk v t Hi (mono_IT _ _ _ ei hvt) (hC t (List.mem_of_getElem? ht)) Hi (Ex.refl Hi) (fun v' H' => v' = .int (key t) ∧ Ex Hi H') (fun H2 e2 => ⟨rfl, e2⟩) E0
    have hkz : kA.size ≤ its.length := by
      have h1 := hE.length
      rw [Array.length_toList, List.length_take] at h1
      omega
    have fpA : ∀ b ∈ [a, kS], FpOk X pins Hi b := fun b hb => by
      rcases List.mem_cons.mp hb with e | hb
      · rw [e]; exact ⟨na, fa1, fa2, fa3, fa4, fa5⟩
      · rw [List.mem_singleton.mp hb]; exact ⟨nk, fk1, fk2, fk3, fk4, fk5⟩
    have Ip := Ii.pinned (fp := [a, kS]) fpA fun b hb => by
      rcases List.mem_cons.mp hb with e | hb
      · rw [e]; exact ⟨_, ga', fun v z => nomatch z⟩
      · rw [List.mem_singleton.mp hb]; exact ⟨_, gk', fun v z => nomatch z⟩
    have hroom : Room k X.A.in1.in1 := hr.in1.in1
    have hl1 : ([x] : List Value).length = ps.length := by
      have := F.len _ _ _ _ sp1
      exact this
    have run := F.run X.A.in1.in1 X.stack s' Hi ⟨[x], []⟩ [x] [v] _ _ hroom Ip.env0.in1.in1 (by
      have z := hb s' [x] Ip.kIn (by rw [List.append_nil]; exact hl1)
      rw [List.append_nil] at z
      exact z) (.cons rvu .nil) sp1
    refine wpAny_bind (wpAny_attempt (wpAny_mono (wpAny_call (Q := fun u s'' => EP X (pins ++ pinsAt [a, kS] s'.heap) sg (fun v' H' => v' = .int (key t) ∧ Ex Hi H') u s'') (E := fun _ _ => False) (codeAny_mono run fun r s'' hq => ?_)) (fun u s'' he => ?_) fun _ _ hF => hF.elim))
    · cases r with
      | error e => exact hq
      | ok fl =>
        cases fl with
        | ret u => exact Ip.after hq
        | next => exact hq
        | brk => exact hq
        | cont => exact hq
    · obtain ⟨v', H', I', rv', rfl, e'⟩ := he
      obtain ⟨tk, rfl⟩ := rv'
      have pA := I'.pin (a, seqObj "list" #[] c1) (List.mem_append_right _ (List.mem_append_right _ (mem_pinsAt (by simp) ga')))
      have pK := I'.pin (kS, seqObj "list" kA c) (List.mem_append_right _ (List.mem_append_right _ (mem_pinsAt (by simp) gk')))
      dsimp only
      obtain ⟨c2, hc2⟩ : ∃ c2, (s''.heap.update kS (Obj.mapSeq fun y => y.push (Value.int (key t) tk))).get? kS = some (seqObj "list" (kA.push (Value.int (key t) tk)) c2) := ⟨_, get?_update_seq pK.1 fun y => y.push (Value.int (key t) tk)⟩
      have sb := Heap.SameBut.update s''.heap kS (Obj.mapSeq fun y : Array Value => y.push (Value.int (key t) tk))
      refine wpAny_bind (listUpdate_at pK.1 rfl ?_ (Nat.le_trans hkz hz) (Nat.le_trans (Nat.le_of_eq (Array.size_push ..)) (Nat.succ_le_succ (Nat.le_trans hkz hz))))
      refine wpAny_pure ⟨rfl, H', kA.push (Value.int (key t) tk), c2, I'.unpinned.turned (t' := s''.toks) (it := kS) (fun b o hb e => (sb.2 b hb).trans e) pK.2.1 fk1 fk3 fk4 fk5, ei.trans e', pA.2.1, pK.2.1, hc2, (sb.2 a hka.symm).trans pA.1, ?_⟩
      have ek : (ts.map fun t => PyData.int (key t)).take (j + 1) = (ts.map fun t => PyData.int (key t)).take j ++ [PyData.int (key t)] := by
        rw [List.take_add_one, List.getElem?_map, ht]
        rfl
      have ea : (kA.push (Value.int (key t) tk)).toList = kA.toList ++ [Value.int (key t) tk] := by simp
      rw [ea, ek]
      exact each_snoc (R := KI) ⟨key t, tk, rfl, rfl⟩ hE
  case done =>
    rintro s' ⟨Hi, kA, c, Ii, ei, na, nk, gk', ga', hE⟩
    rw [Nat.zero_add, List.take_of_length_le (by rw [List.length_map]; omega)] at hE
    have hkA : kA.size = its.length := by
      have h1 := hE.length
      rw [Array.length_toList, List.length_map] at h1
      omega
    have hk' : EachIs (fun v d => ∃ as, Reads s'.heap v d as) kA.toList (ts.map fun t => PyData.int (key t)) := hE.mono fun v d ⟨i, u, e1, e2⟩ => ⟨[], by rw [e1, e2]; exact Reads.int i u⟩
    have hroom : Room k X.A.in1.in1 := hr.in1.in1
    have hu2 : ∀ d, d ∈ (ts.map fun t => PyData.int (key t)) → X.A.in1.in1.units + d.depth < cLine := fun d hd => by
      obtain ⟨t, _, rfl⟩ := List.mem_map.mp hd
      have h1 := hroom.units
      simp only [PyData.depth]
      omega
    refine wpAny_bind (listItems_at gk' rfl ?_)
    have kp : KeepsBut a (hideAll s'.heap [kS]) s'.heap := fun b o _ e => of_hideAll [kS] e
    refine keyH_end (κ := dataKind s'.heap (ts.map fun t => PyData.int (key t))) (h₁ := hideAll s'.heap [kS]) kp (hideAll_none [kS] (by simp)) gk' ga' hka (SortsAt.data hk' hal hsk hu2) hkA hz fun h3 tk3 c3 k3 n3 => ⟨rfl, ?_⟩
    have k4 : ∀ b o, b ≠ a → b ≠ kS → s'.heap.get? b = some o → h3.get? b = some o := fun b o h1 h2 e => k3 b o h1 (hideAll_get [kS] e (by simpa using h2))
    have ezip : (us.zip ts).map (fun b : V × List Int => PyData.int (key b.2)) = ts.map fun t => PyData.int (key t) := by
      have z := congrArg (List.map fun t => PyData.int (key t)) (its_zip2 hT)
      rw [List.map_map] at z
      exact z
    have ko : KeyedOut false ((us.zip ts).map fun b : V × List Int => PyData.int (key b.2)) its (sortVals (dataKind s'.heap (ts.map fun t => PyData.int (key t))) false kA.toList its) := by
      rw [ezip]
      exact ⟨s'.heap, kA.toList, hal, rfl, hk'⟩
    have ho := keyedOut_each (fun b : V × List Int => PyData.int (key b.2)) ko (each_zip hT rv)
    rw [dataLe_int (fun b : V × List Int => key b.2)] at ho
    have hv := vals_each ho
    have hzl : (us.zip ts).length = its.length := by rw [List.length_zip, rv.length, hlen, Nat.min_self]
    have hln : (((us.zip ts).mergeSort fun p q => kleB key p.2 q.2).map (·.1)).length ≤ sizeLine := by
      rw [List.length_map, List.length_mergeSort, hzl]
      exact hz
    have hI : ITs X.K (L2.upd Hi a (.lst (((us.zip ts).mergeSort fun p q => kleB key p.2 q.2).map (·.1)))) (((us.zip ts).mergeSort fun p q => kleB key p.2 q.2).map (·.1)) (ts.mergeSort (kleB key)) := (its_sorted (kleB key) (hT.ex ei)).ex (Ex.new na)
    refine ⟨.ref a, L2.upd Hi a (.lst (((us.zip ts).mergeSort fun p q => kleB key p.2 q.2).map (·.1))), ?_, rfl, q _ _ (ei.trans (Ex.new na)) upd_same hI⟩
    have nch : ∀ b ∈ [a, kS], Hi b = none := fun b hb => by
      rcases List.mem_cons.mp hb with e | hb
      · rw [e]; exact na
      · rw [List.mem_singleton.mp hb]; exact nk
    refine Ii.step (g' := s'.gens) (d' := s'.drawn) (ch := [a, kS]) (fun b hb => ?_) (fun b o _ _ hc e _ => k4 b o (fun z => hc (by simp [z])) (fun z => hc (by simp [z])) e) (fun b o _ _ hc e _ => ⟨o.slots, k4 b o (fun z => hc (by simp [z])) (fun z => hc (by simp [z])) e⟩)
      (fun b o hc _ n => by rw [upd_ne (fun z => hc (by simp [z]))]; exact n) (fun b o hc e => ⟨o, k4 b o (fun z => hc (by simp [z])) (fun z => hc (by simp [z])) e⟩) (fun b xs e => by rw [upd_ne (ne_of_none e na)]; exact e) (fun b o u e => by rw [upd_ne (ne_of_none e na)]; exact e)
      (fun b ps e => ⟨#[], by rw [upd_ne (ne_of_none e na), e]; simp⟩) (fun m hm => ?_) (fun b u e => ?_) Ii.bare
    · rcases List.mem_cons.mp hb with e | hb
      · rw [e]; exact ⟨fa3, fa1, fa4, fa5⟩
      · rw [List.mem_singleton.mp hb]; exact ⟨fk3, fk1, fk4, fk5⟩
    · obtain ⟨o, es, ep, ho', r'⟩ := hm
      exact ⟨o, es, ep, k4 _ _ fa1.symm fk1.symm ho', r'⟩
    · by_cases hba : b = a
      · subst hba
        rw [upd_same] at e
        cases e
        exact ⟨hln, _, c3, hv, n3⟩
      · rw [upd_ne hba] at e
        refine (Ii.hok b u e).stay (fun d w hd e2 => ?_) (fun d e2 => by rw [upd_ne (ne_of_none e2 na)]; exact e2) fun d xs e2 => by rw [upd_ne (ne_of_none e2 na)]; exact e2
        have hd2 : Hi d ≠ none := by
          rcases hd with z | z
          · rw [z, e]; exact fun y => nomatch y
          · rw [z]; exact fun y => nomatch y
        exact k4 d w (fun z => hd2 (by rw [z]; exact na)) (fun z => hd2 (by rw [z]; exact nk)) e2
theorem cr_sortedKeyF (F : FnOk X.prog X.w X.K X.mg X.base CX0 k f fd ps sp) (hr : Room (k + 2) X.A) (hb : L2.Binds X.K fd ps [])
    (hk : ∀ (v : V) (t : List Int) (H : Hp), IT X.K t v H → C t → SpV sp [v] H (.int (key t))) : CallRK X (.builtin "sorted") [Str.ofString "key"] (rSortedKey X.K f C key) := by
  intro pins s sg H vs zs us0 ws Q I r rz h
  obtain ⟨a0, us, ts, rfl, rfl, hs, hT, hC, q⟩ := h
  obtain ⟨its, rv, hl, hz⟩ := I.list hs
  obtain rfl := Vals.ref1 r
  obtain ⟨w1, rfl, e1⟩ := vals1 rz
  obtain rfl : w1 = Value.ref f := e1
  have hzI : its.length ≤ sizeLine := by rw [← rv.length]; exact hz
  show wpAny (model X.prog X.w) X.A (call (.builtin "sorted") [.ref a0] [(Str.ofString "key", .ref f)]) (EP X pins sg Q) X.xe s
  refine sorted_of_sort hl.isList hzI (PyProof.Rows.ksk_s1 _ _) (fun _ => PyProof.Rows.ksk_l1 _ _) fun E' => ?_
  rw [PyProof.Rows.ksk_t1]
  have hcopy : (copyHeap s.heap its).get? (s.heap.objs.size + 1) = some (seqObj "list" its.toArray 0) := copyHeap_at _ _
  obtain ⟨c1, hc1⟩ : ∃ c1, ((copyHeap s.heap its).update (s.heap.objs.size + 1) (Obj.mapSeq fun _ => (#[] : Array Value))).get? (s.heap.objs.size + 1) = some (seqObj "list" #[] c1) := ⟨_, get?_update_seq hcopy fun _ => #[]⟩
  have hlt : s.heap.objs.size + 1 < (copyHeap s.heap its).objs.size := Heap.lt_size hcopy
  have hkS : (((copyHeap s.heap its).update (s.heap.objs.size + 1) (Obj.mapSeq fun _ => (#[] : Array Value))).push (seqObj "tuple" its.toArray 0)).objs.size = (copyHeap s.heap its).objs.size + 1 := by rw [size_push', Heap.size_update]
  have hkge : s.heap.objs.size ≤ (((copyHeap s.heap its).update (s.heap.objs.size + 1) (Obj.mapSeq fun _ => (#[] : Array Value))).push (seqObj "tuple" its.toArray 0)).objs.size := by
    rw [hkS]
    exact Nat.le_succ_of_le (Nat.le_of_lt (Nat.lt_of_succ_lt hlt))
  have hkne : (((copyHeap s.heap its).update (s.heap.objs.size + 1) (Obj.mapSeq fun _ => (#[] : Array Value))).push (seqObj "tuple" its.toArray 0)).objs.size ≠ s.heap.objs.size + 1 := by
    rw [hkS]
    exact Nat.ne_of_gt (Nat.lt_succ_of_lt hlt)
  unfold PyProof.Rows.ksk_tree
  refine wpAny_bind (listItems_at hcopy rfl ?_)
  refine wpAny_bind (listUpdate_at hcopy rfl ?_ (by rw [List.size_toArray]; exact hzI) (Nat.zero_le _))
  refine wpAny_bind (seqEpoch_at hc1 rfl ?_)
  refine wpAny_bind (wpAny_newTuple ?_ (by show its.length ≤ _; exact hzI))
  refine wpAny_bind (wpAny_newList ?_ (Nat.zero_le _))
  refine wpAny_holding ?_
  have keep : ∀ b o, s.heap.get? b = some o → (sortingHeap (copyHeap s.heap its) (s.heap.objs.size + 1) its).get? b = some o := fun b o e => sortingHeap_old (Nat.ne_of_lt (Nat.lt_succ_of_lt (Heap.lt_size e))) (copyHeap_old e)
  refine keyF_rest (s := { s with heap := sortingHeap (copyHeap s.heap its) (s.heap.objs.size + 1) its }) (kS := (((copyHeap s.heap its).update (s.heap.objs.size + 1) (Obj.mapSeq fun _ => (#[] : Array Value))).push (seqObj "tuple" its.toArray 0)).objs.size) F hr hb hk
    (I.kept (t' := s.toks) keep) (I.fpOk (Nat.le_succ _) (I.hok.fresh (Nat.le_succ _))) (I.fpOk hkge (I.hok.fresh hkge)) hkne (Heap.get?_push_of_some _ (Heap.get?_push_of_some _ hc1)) (Heap.get?_push_size _ rfl) rv hT hC hzI fun us' H' e h1 h2 => q us' _ H' e (I.hok.fresh (Nat.le_succ _)) h1 h2
end
section
variable {K : PySem.W.Frag} {sg : L2.St} {H : Hp} {ta : TE} {f : Addr} {C : List Int → Prop} {key : List Int → Int}
theorem evp_sortedKey {ts : List (List Int)} (h : EvP ta sg H (ILT K ts)) (hC : ∀ t ∈ ts, C t) : EvP (tCKw (rSortedKey K f C key) (tCons ta tNil) (tCons (tC (.ref f)) tNil)) sg H (fun v H2 => ∃ p, v = .ref p ∧ H p = none ∧ LT K p (ts.mergeSort (kleB key)) H2) := fun H1 e Q q =>
  h H1 e _ fun v H2 e2 ⟨a, us, hv, hS, hT⟩ => ⟨a, us, ts, by rw [hv], rfl, hS, hT, hC, fun us' p H' e' hp hp' hT' => q _ _ (e2.trans e') ⟨p, rfl, fresh_back (e.trans e2) hp, us', hp', hT'⟩⟩
end
end SH

namespace SH
open PySem PySem.Spec PyProof.Rows L2 Evl SM
local macro_rules | `(tactic| walk_at "ev") => `(tactic| first
  | exact ev_c
  | (refine ev_var ?_; rfl)
  | (refine ev_op ?shA ?shB rv_I0; (case shA => walk_at "ev"); (case shB => walk_at "ev"))
  | (refine ev_op ?shA ?shB (rv_mod ?shC); (case shA => walk_at "ev"); (case shB => walk_at "ev"); (case shC => first | decide | omega))
  | (refine ev_op ?shA ?shB (rv_div ?shC); (case shA => walk_at "ev"); (case shB => walk_at "ev"); (case shC => first | decide | omega))
  | (refine ev_un ?shA ru_neg; (case shA => walk_at "ev"))
  | assumption)
local macro_rules | `(tactic| walk_at "ea") => `(tactic| first
  | exact ea_nil
  | (refine ea_cons ?shA ?shB; (case shA => walk_at "ev"); (case shB => walk_at "ea")))

def topS (i : Nat) : Stmt := PySem.Challenge.pw_shadowheaps_k06_first_sets.main.body.getD i (.Pass ⟨0, 0, 0, 0⟩)
/-- the built-ins and the constants as the top leaves them -/
structure Tx (K : PySem.W.Frag) (mg : Str → Option Value) : Prop where
  b_range : mg "range" = none
  b_len : mg "len" = none
  b_isinstance : mg "isinstance" = none
  b_int : mg "int" = none
  b_bool : mg "bool" = none
  b_tuple : mg "tuple" = none
  b_reversed : mg "reversed" = none
  b_sorted : mg "sorted" = none
  b_list : mg "list" = none
  b_min : mg "min" = none
  g_THINGS : ∃ u, mg "THINGS" = some (Value.int 60 u)

section
variable {P : Program} {w : World} {K : PySem.W.Frag} {mg : Str → Option Value} {base : Heap}

/-! ### choices -/
abbrev s_choices : Stmt := topS 5
theorem sc_choices : FnScope ["a", "b", "found", "k"] ["a", "b"] (defScope s_choices) := ⟨rfl, rfl, rfl, by decide +kernel, rfl, by decide +kernel, by decide +kernel⟩
/-- choices(a, b) -/
def sp_choices (K : PySem.W.Frag) : Sp := fun vs H Q _ => ∃ a b : Int, vs = [.int a, .int b] ∧ (0 ≤ a ∧ a < 2 ^ 64 ∧ 0 ≤ b ∧ b ≤ 1000) ∧ RetV (.int (chI a b)) H Q
theorem spv_choices {K : PySem.W.Frag} {H : Hp} {a b : Int} (h : 0 ≤ a ∧ a < 2 ^ 64 ∧ 0 ≤ b ∧ b ≤ 1000) : SpV (sp_choices K) [.int a, .int b] H (.int (chI a b)) := fun H1 e Q q E => ⟨a, b, rfl, h, q⟩
theorem chI_bits {a b : Int} (h : a < 2 ^ 64) (hb : b ≤ 1000) : (chI a b).natAbs < 2 ^ 65000 := by
  have := ch_bits (n := a.toNat) (k := b.toNat) (by omega) (by omega)
  unfold chI
  rw [Int.natAbs_natCast]
  exact this
theorem choices_turn {K : PySem.W.Frag} {sg : L2.St} {H : Hp} {ta tb tc : TE} {a : Int} {i : Nat} (ha : Ev ta sg H (.int (chI a i))) (hb : Ev tb sg H (.int (a - (i : Int)))) (hc : Ev tc sg H (.int ((i : Int) + 1))) (h0 : 0 ≤ a) (h1 : a < 2 ^ 64) (hi : (i : Int) < 1000) :
    Ev (tOp (rI CDivW fun i j => .int (i / j)) (tOp (rI CMulW fun i j => .int (i * j)) ta tb) tc) sg H (.int (chI a ((i : Int) + 1))) := by
  refine ev_is (ev_op (ev_op ha hb (rv_mul 65000 70 (chI_bits h1 (by omega)) (by omega))) hc (rv_div (by omega))) ?_
  have e := ch_turn a.toNat i
  rw [show ((a.toNat : Nat) : Int) = a by omega] at e
  exact congrArg V.int e
theorem ok_choices {f : Addr} {fd : FuncData} (F : Fun K "choices" "choices" s_choices f fd) (T : Tx K mg) : FnOk P w K mg base CX0 1 f fd ["a", "b"] (sp_choices K) := by
  refine F.ok sc_choices (fun vs H Q E h => ?_) (fun cdv A outer s H vs Q E hr h => ?_)
  · obtain ⟨a, b, rfl, _⟩ := h
    rfl
  · obtain ⟨a, b, rfl, ⟨h0, h1, h2, h3⟩, q⟩ := h
    refine ⟨_, (pss_cons (ps_set (i := 2) sc_choices.nd rfl (Or.inl rfl) pe_int)
      (pss_cons (ps_for PassesOwn.never rfl (pi_range1 (by rfl) T.b_range (pa_cons (pv 1) pa_nil)) (pg_name (i := 3) sc_choices.nd rfl (Or.inl rfl))
      (pss_one (ps_set (i := 2) sc_choices.nd rfl (Or.inl rfl) (pe_op op_fdivW (pe_op op_mulW (pv 2) (pe_op op_sub (pv 0) (pv 3))) (pe_op op_add (pv 3) pe_int)))))
      (pss_one (ps_ret (pv 2))))), ?_⟩
    refine q_asg (v := .int 1) ev_c fun H1 e1 => ?_
    refine q_forR1 (n := b) (by walk_at "ea") ⟨h2, by omega⟩ (fun i σ' H' => ∃ y, σ' = [some (.int a), some (.int b), some (.int (chI a i)), y] ∧ Ex H H') (fun H2 e2 => ⟨none, by unfold chI; rw [show ((0 : Nat) : Int).toNat = 0 from rfl, ch_zero]; rfl, e1.trans e2⟩) ?_ ?_
    · rintro i σ' H' hi ⟨y, rfl, e⟩
      exact s_asg (choices_turn (K := K) (ev_var rfl) (by walk_at "ev") (by walk_at "ev") h0 h1 (by omega)) fun H2 e2 => ⟨_, rfl, e.trans e2⟩
    · rintro σ' H' ⟨y, rfl, e⟩
      exact s_ret (ev_var rfl) fun H2 e2 => by
        have z := q H2 (e.trans e2)
        rw [show (b.toNat : Int) = b by omega]
        exact z

/-! ### set_at -/
abbrev s_set_at : Stmt := topS 6
theorem sc_set_at : FnScope ["size", "number", "found", "thing", "k"] ["size", "number"] (defScope s_set_at) := ⟨rfl, rfl, rfl, by decide +kernel, rfl, by decide +kernel, by decide +kernel⟩
/-- set_at(size, number): a set by its number -/
def sp_set_at (K : PySem.W.Frag) : Sp := fun vs H Q _ => ∃ k m : Nat, vs = [.int (k : Int), .int (m : Int)] ∧ (k ≤ 8 ∧ m < Ch 60 k) ∧ RetP (IT K (toI (sa k m))) H Q
theorem spp_set_at {K : PySem.W.Frag} {H : Hp} {k m : Nat} (h : k ≤ 8 ∧ m < Ch 60 k) : SpP (sp_set_at K) [.int (k : Int), .int (m : Int)] H (IT K (toI (sa k m))) := fun H1 e Q q E => ⟨k, m, rfl, h, q⟩
theorem ok_set_at {f : Addr} {fd : FuncData} (F : Fun K "set_at" "set_at" s_set_at f fd) (T : Tx K mg) (c_choices : Cal P w K mg base "choices" 1 ["a", "b"] (sp_choices K)) : FnOk P w K mg base CX0 2 f fd ["size", "number"] (sp_set_at K) := by
  refine F.ok sc_set_at (fun vs H Q E h => ?_) (fun cdv A outer s H vs Q E hr h => ?_)
  · obtain ⟨k, m, rfl, _⟩ := h
    rfl
  · obtain ⟨k, m, rfl, ⟨h1, h2⟩, q⟩ := h
    refine ⟨_, (pss_cons (ps_if (PW.pt (pw_or (pt_cmpR op_lt (pv 1) pe_int (nomark _)) (pw_or1 (pt_cmpR op_ge (pv 1) (pe_cal c_choices (hr.mono (by decide)) (by rfl) (pa_cons (pe_gi T.g_THINGS (by rfl)) (pa_cons (pv 0) pa_nil))) (nomark _))))) (pss_one ps_never) pss_nil)
      (pss_cons (ps_set (i := 2) sc_set_at.nd rfl (Or.inl rfl) (pe_tup pa_nil))
      (pss_cons (ps_set (i := 3) sc_set_at.nd rfl (Or.inl rfl) (pe_gi T.g_THINGS (by rfl)))
      (pss_cons (ps_for PassesOwn.never rfl (pi_range3 (by rfl) T.b_range (pa_cons (pv 0) (pa_cons pe_int (pa_cons (pe_un un_neg pe_int) pa_nil)))) (pg_name (i := 4) sc_set_at.nd rfl (Or.inl rfl))
      (pss_cons (ps_set (i := 3) sc_set_at.nd rfl (Or.inl rfl) (pe_op op_sub (pv 3) pe_int))
      (pss_cons (ps_while PassesOwn.never (pt_cmpR op_gt (pe_cal c_choices (hr.mono (by decide)) (by rfl) (pa_cons (pv 3) (pa_cons (pv 4) pa_nil))) (pv 1) (nomark _))
      (pss_one (ps_set (i := 3) sc_set_at.nd rfl (Or.inl rfl) (pe_op op_sub (pv 3) pe_int))))
      (pss_cons (ps_set (i := 1) sc_set_at.nd rfl (Or.inl rfl) (pe_op op_sub (pv 1) (pe_cal c_choices (hr.mono (by decide)) (by rfl) (pa_cons (pv 3) (pa_cons (pv 4) pa_nil)))))
      (pss_one (ps_set (i := 2) sc_set_at.nd rfl (Or.inl rfl) (pe_op (r := rCatA K) op_catA (pe_tup (pa_cons (pv 3) pa_nil)) (pv 2))))))))
      (pss_one (ps_ret (pv 2))))))), ?_⟩
    refine q_when (b := false) (et_is (et_or (et_test (ev_op (ev_var rfl) ev_c rv_I0)) fun _ => et_test (ev_op (ev_var rfl) (ev_cal (ea_cons ev_c (ea_cons (ev_var rfl) ea_nil)) (spv_choices (a := 60) (b := (k : Int)) ⟨by omega, by omega, by omega, by omega⟩)) rv_I0)) (by
      rw [show (60 : Int) = ((60 : Nat) : Int) from rfl, chI_nat]
      simp
      omega)) (fun hb => absurd hb (by decide)) fun _ H1 e1 => ?_
    refine q_asgP (P := IT K []) (evp_tupI ea_nil (by decide)) fun v0 H2 e2 hv0 => ?_
    refine q_asg (v := .int ((60 : Nat) : Int)) ev_c fun H3 e3 => ?_
    refine q_forR3 (n := ((k : Int) - 0).toNat) (lo := (k : Int)) (hi := 0) (c := -1) (by walk_at "ea") (RgC.neg (by omega) (by omega) (by omega) (by omega)) (fun i σ' H' => ∃ (n t : Nat) (F : List Int) (v : V) (y : Option V), σ' = [some (.int (k : Int)), some (.int (n : Int)), some v, some (.int (t : Int)), y] ∧ IT K F v H' ∧ F.length = i ∧ n < Ch t (k - i) ∧ t ≤ 60 ∧ toI (sa (k - i) n) ++ F = toI (sa k m) ∧ Ex H H') (fun H4 e4 => ⟨m, 60, [], v0, none, rfl, mono_IT _ _ _ (e3.trans e4) hv0, rfl, h2, Nat.le_refl _, by rw [List.append_nil]; rfl, ((e1.trans e2).trans e3).trans e4⟩) ?_ ?_
    · rintro i σ' H' hi ⟨n, t, F, v, y, rfl, hv, hF, hn, ht, hs, e⟩
      obtain ⟨j, hj⟩ : ∃ j, k - i = j + 1 := ⟨k - i - 1, by omega⟩
      have ej : ((k : Int) + (i : Int) * -1) = ((j + 1 : Nat) : Int) := by omega
      have ej2 : k - (i + 1) = j := by omega
      rw [hj] at hn hs
      have htop := top_lt_of hn
      obtain ⟨t', rfl⟩ : ∃ t', t = t' + 1 := ⟨t - 1, by omega⟩
      rw [show ([some (V.int (k : Int)), some (.int (n : Int)), some v, some (.int ((t' + 1 : Nat) : Int)), y] : L2.St).set 4 (some (.int ((k : Int) + (i : Int) * -1))) = [some (.int (k : Int)), some (.int (n : Int)), some v, some (.int ((t' + 1 : Nat) : Int)), some (.int ((j + 1 : Nat) : Int))] by rw [ej]; rfl]
      refine q_asg (v := .int (t' : Int)) (ev_is (ev_op (ev_var rfl) ev_c rv_I0) (congrArg V.int (by omega))) fun H4 e4 => ?_
      refine q_while (fun ν σ' H' => ∃ u : Nat, ν = u ∧ σ' = [some (.int (k : Int)), some (.int (n : Int)), some v, some (.int (u : Int)), some (.int ((j + 1 : Nat) : Int))] ∧ topOf (j + 1) n ≤ u ∧ u < 60 ∧ Ex H4 H') t' ⟨t', rfl, rfl, by omega, by omega, Ex.refl _⟩ ?_
      rintro ν σ' H5 ⟨u, rfl, rfl, hu1, hu2, e5⟩
      refine ⟨decide (chI (ν : Int) ((j + 1 : Nat) : Int) > (n : Int)), et_test (ev_op (ev_cal (by walk_at "ea") (spv_choices ⟨by omega, by omega, by omega, by omega⟩)) (ev_var rfl) rv_I0), fun hb H6 e6 => ⟨_, fun _ _ w => w, ?_⟩, fun hb H6 e6 => ?_⟩
      · have hc : n < Ch ν (j + 1) := by
          have := of_decide_eq_true hb
          rw [chI_nat] at this
          omega
        have hu3 := top_lt_of hc
        exact s_asg (v := .int ((ν - 1 : Nat) : Int)) (ev_is (ev_op (ev_var rfl) ev_c rv_I0) (congrArg V.int (by omega))) fun H7 e7 => ⟨ν - 1, by omega, ν - 1, rfl, rfl, by omega, by omega, (e5.trans e6).trans e7⟩
      · have hc : Ch ν (j + 1) ≤ n := by
          have := of_decide_eq_false hb
          rw [chI_nat] at this
          omega
        have hc2 : n < Ch (ν + 1) (j + 1) := by
          have := ch_mono (j + 1) (show topOf (j + 1) n + 1 ≤ ν + 1 by omega)
          have := top_lt (p := j + 1) (m := n) (Nat.succ_pos j)
          omega
        have et : topOf (j + 1) n = ν := top_uniq (Nat.succ_pos j) hc hc2
        refine q_asg (v := .int ((n - Ch ν (j + 1) : Nat) : Int)) (ev_is (ev_op (ev_var rfl) (ev_cal (by walk_at "ea") (spv_choices ⟨by omega, by omega, by omega, by omega⟩)) rv_I0) (congrArg V.int (by rw [chI_nat]; omega))) fun H7 e7 => ?_
        have eall := (((e.trans e4).trans e5).trans e6).trans e7
        refine s_asgP (P := IT K (((ν : Nat) : Int) :: F)) (evp_catT (xs := [((ν : Nat) : Int)]) (ys := F) (evp_tupI (ns := [((ν : Nat) : Int)]) (ea_cons (ev_var rfl) ea_nil) (by show 1 ≤ 100000; decide)) (evp_itV (ev_var rfl) (mono_IT _ _ _ (((e4.trans e5).trans e6).trans e7) hv)) (by show 1 + F.length ≤ _; omega)) fun w H8 e8 hw => ?_
        refine ⟨n - Ch ν (j + 1), ν, ((ν : Nat) : Int) :: F, w, _, rfl, hw, by rw [List.length_cons, hF], ?_, by omega, ?_, eall.trans e8⟩
        · rw [ej2, ← et]
          exact rest_lt1 j n
        · rw [ej2, ← hs, ← et]
          show _ = toI (sa j (n - Ch (topOf (j + 1) n) (j + 1)) ++ [topOf (j + 1) n]) ++ F
          rw [toI_app, List.append_assoc]
          rfl
    · rintro σ' H' ⟨n, t, F, v, y, rfl, hv, hF, hn, ht, hs, e⟩
      refine s_ret (ev_var rfl) fun H4 e4 => q v H4 (e.trans e4) ?_
      rw [show k - ((k : Int) - 0).toNat = 0 by omega] at hs
      rw [← hs]
      exact mono_IT _ _ _ e4 hv

/-! ### first -/
abbrev s_first : Stmt := topS 8
theorem sc_first : FnScope ["size", "many", "number"] ["size", "many"] (defScope s_first) := ⟨rfl, rfl, rfl, by decide +kernel, rfl, by decide +kernel, by decide +kernel⟩
/-- first(size, many) -/
def fsI (k m : Nat) : List (List Int) := (fs k m).map toI
def sp_first (K : PySem.W.Frag) : Sp := fun vs H Q _ => ∃ k m : Nat, vs = [.int (k : Int), .int (m : Int)] ∧ (k ≤ 8 ∧ m ≤ Ch 60 k ∧ m ≤ 1000) ∧ RetP (LTn K H (fsI k m)) H Q
theorem spp_first {K : PySem.W.Frag} {H : Hp} {k m : Nat} (h : k ≤ 8 ∧ m ≤ Ch 60 k ∧ m ≤ 1000) : SpP (sp_first K) [.int (k : Int), .int (m : Int)] H (LTn K H (fsI k m)) := fun H1 e Q q E => ⟨k, m, rfl, h, fun v H2 e2 ⟨p, h1, h2, h3⟩ => q v H2 e2 ⟨p, h1, fresh_back e h2, h3⟩⟩
theorem ok_first {f : Addr} {fd : FuncData} (F : Fun K "first" "first" s_first f fd) (T : Tx K mg) (c_set_at : Cal P w K mg base "set_at" 2 ["size", "number"] (sp_set_at K)) : FnOk P w K mg base CX0 3 f fd ["size", "many"] (sp_first K) := by
  refine F.ok sc_first (fun vs H Q E h => ?_) (fun cdv A outer s H vs Q E hr h => ?_)
  · obtain ⟨k, m, rfl, _⟩ := h
    rfl
  · obtain ⟨k, m, rfl, ⟨h1, h2, h3⟩, q⟩ := h
    refine ⟨_, (pss_one (ps_ret (pe_lc (own := [("number", 2)]) (g := gName 2) rfl sc_first.nd (pi_range1 (by rfl) T.b_range (pa_cons (pv 1) pa_nil)) (blkOk_by (by kernel_rfl)) (fun _ _ _ _ _ => (pg_name (i := 2) sc_first.nd rfl (Or.inl rfl))) (fun _ _ _ _ _ => pts_nil) (fun _ _ _ _ _ => (pe_cal c_set_at (hr.mono (by decide)) (by rfl) (pa_cons (pv 0) (pa_cons (pv 2) pa_nil))))))), ?_⟩
    refine s_retP (P := LTn K H (fsI k m)) ?_ fun v H1 e1 hv => q v H1 e1 hv
    rw [show fsI k m = (List.range m).map (fun i => toI (sa k i)) by unfold fsI fs; rw [List.map_map]; rfl]
    exact evp_lcRT (fun i => toI (sa k i)) (by walk_at "ea") (by omega) (fun _ => rfl) (fun _ _ _ _ => et_yes) fun i H1 e hi => evp_cal (by walk_at "ea") (spp_set_at ⟨h1, by omega⟩)

/-! ### _law_cell_at -/
abbrev s_law_cell_at : Stmt := topS 10
theorem sc_law_cell_at : FnScope ["script", "k"] ["script", "k"] (defScope s_law_cell_at) := ⟨rfl, rfl, rfl, by decide +kernel, rfl, by decide +kernel, by decide +kernel⟩
/-- a script's cell -/
def cellI (ns : List Int) (k : Nat) : Int := ns.getD k 0
def sp_law_cell_at (K : PySem.W.Frag) : Sp := fun vs H Q _ => ∃ (a : Addr) (ns : List Int) (k : Nat), vs = [.ref a, .int (k : Int)] ∧ SqL K H a (ns.map V.int) ∧ RetV (.int (cellI ns k)) H Q
theorem spv_cell {K : PySem.W.Frag} {H : Hp} {a : Addr} {ns : List Int} (k : Nat) (h : SqL K H a (ns.map V.int)) : SpV (sp_law_cell_at K) [.ref a, .int (k : Int)] H (.int (cellI ns k)) := fun H1 e Q q E => ⟨a, ns, k, rfl, ex_l e h, q⟩
theorem ok_law_cell_at {f : Addr} {fd : FuncData} (F : Fun K "_law_cell_at" "_law_cell_at" s_law_cell_at f fd) (T : Tx K mg) : FnOk P w K mg base CX0 1 f fd ["script", "k"] (sp_law_cell_at K) := by
  refine F.ok sc_law_cell_at (fun vs H Q E h => ?_) (fun cdv A outer s H vs Q E hr h => ?_)
  · obtain ⟨a, ns, k, rfl, _⟩ := h
    rfl
  · obtain ⟨a, ns, k, rfl, hS, q⟩ := h
    refine ⟨_, (pss_cons (ps_if (pt_cmpR op_lt (pv 1) (pe_callB (r := rLenS K) call_len_seq (by rfl) T.b_len PySem.boot_len (pa_cons (pv 0) pa_nil)) (nomark _)) (pss_one (ps_ret (pe_ix (r := rIxL K) ix_list (pv 0) (pv 1) (fun _ _ => rfl)))) pss_nil)
      (pss_one (ps_ret pe_int))), ?_⟩
    refine q_when (b := decide ((k : Int) < ((ns.map V.int).length : Int))) (et_test (ev_op (ev_var rfl) (ev_len (ev_var rfl) hS) rv_I0)) (fun hb H1 e1 => ?_) (fun hb H1 e1 => ?_)
    · have hk : k < ns.length := by
        have := of_decide_eq_true hb
        rw [List.length_map] at this
        omega
      have g : ns[k]? = some (cellI ns k) := by
        unfold cellI
        rw [List.getD_eq_getElem?_getD, List.getElem?_eq_getElem hk]
        rfl
      exact s_ret (ev_op (ev_var rfl) (ev_var rfl) (rv_ixL (ex_l e1 hS) (at_int (j := k) rfl g))) fun H2 e2 => q H2 (e1.trans e2)
    · have hk : ¬ k < ns.length := by
        have := of_decide_eq_false hb
        rw [List.length_map] at this
        omega
      have g : cellI ns k = 0 := by
        unfold cellI
        rw [List.getD_eq_getElem?_getD, List.getElem?_eq_none (by omega)]
        rfl
      exact s_ret ev_c fun H2 e2 => by
        have z := q H2 (e1.trans e2)
        rw [g] at z
        exact z

/-! ### _law_choices -/
abbrev s_law_choices : Stmt := topS 12
theorem sc_law_choices : FnScope ["a", "b", "row", "turn", "k"] ["a", "b"] (defScope s_law_choices) := ⟨rfl, rfl, rfl, by decide +kernel, rfl, by decide +kernel, by decide +kernel⟩
/-- the law's own choices, laid row by row -/
def sp_law_choices (K : PySem.W.Frag) : Sp := fun vs H Q _ => ∃ a b : Int, vs = [.int a, .int b] ∧ (0 ≤ a ∧ a ≤ 1000 ∧ 0 ≤ b ∧ b ≤ 1000) ∧ RetV (.int (chI a b)) H Q
theorem spv_law_choices {K : PySem.W.Frag} {H : Hp} {a b : Int} (h : 0 ≤ a ∧ a ≤ 1000 ∧ 0 ≤ b ∧ b ≤ 1000) : SpV (sp_law_choices K) [.int a, .int b] H (.int (chI a b)) := fun H1 e Q q E => ⟨a, b, rfl, h, q⟩
theorem ok_law_choices {f : Addr} {fd : FuncData} (F : Fun K "_law_choices" "_law_choices" s_law_choices f fd) (T : Tx K mg) : FnOk P w K mg base CX0 1 f fd ["a", "b"] (sp_law_choices K) := by
  refine F.ok sc_law_choices (fun vs H Q E h => ?_) (fun cdv A outer s H vs Q E hr h => ?_)
  · obtain ⟨a, b, rfl, _⟩ := h
    rfl
  · obtain ⟨a, b, rfl, ⟨h0, h1, h2, h3⟩, q⟩ := h
    refine ⟨_, (pss_cons (ps_set (i := 2) sc_law_choices.nd rfl (Or.inl rfl) (pe_op op_cat (pe_lst (pa_cons pe_int pa_nil)) (pe_lc (own := [("k", 4)]) (g := gName 4) rfl sc_law_choices.nd (pi_range1 (by rfl) T.b_range (pa_cons (pv 1) pa_nil)) (blkOk_by (by kernel_rfl)) (fun _ _ _ _ _ => (pg_name (i := 4) sc_law_choices.nd rfl (Or.inl rfl))) (fun _ _ _ _ _ => pts_nil) (fun _ _ _ _ _ => pe_int))))
      (pss_cons (ps_for PassesOwn.never rfl (pi_range1 (by rfl) T.b_range (pa_cons (pv 0) pa_nil)) (pg_name (i := 3) sc_law_choices.nd rfl (Or.inl rfl))
      (pss_one (ps_for PassesOwn.never rfl (pi_range3 (by rfl) T.b_range (pa_cons (pv 1) (pa_cons pe_int (pa_cons (pe_un un_neg pe_int) pa_nil)))) (pg_name (i := 4) sc_law_choices.nd rfl (Or.inl rfl))
      (pss_one (ps_asg (pe_op op_add (pe_ix (r := rIxL K) ix_list (pv 2) (pv 4) (fun _ _ => rfl)) (pe_ix (r := rIxL K) ix_list (pv 2) (pe_op op_sub (pv 4) pe_int) (fun _ _ => rfl))) (pg_sub (pv 2) (pv 4) set_list))))))
      (pss_one (ps_ret (pe_ix (r := rIxL K) ix_list (pv 2) (pv 1) (fun _ _ => rfl)))))), ?_⟩
    obtain ⟨m, rfl⟩ : ∃ m : Nat, a = (m : Int) := ⟨a.toNat, by omega⟩
    obtain ⟨n, rfl⟩ : ∃ n : Nat, b = (n : Int) := ⟨b.toNat, by omega⟩
    have eg : [V.int 1] ++ given (n : Int).toNat (fun _ => true) (fun _ => V.int 0) = (prow 0 n).map V.int := by
      rw [prow_first]
      rw [Int.toNat_natCast, given_all, List.map_cons, List.map_replicate, List.map_const', List.length_range]
      rfl
    refine q_asgL (xs := (prow 0 n).map V.int) (by
      rw [← eg]
      refine el_cat (el_lst (by walk_at "ea") (by decide)) (el_lcR1 (n := (n : Int)) (fun _ => true) (fun _ => V.int 0) (by walk_at "ea") ⟨by omega, by omega⟩ (fun _ => rfl) (fun _ _ _ _ => et_yes) (fun _ _ _ _ _ => ev_c)) ?_
      have := given_len (n : Int).toNat (fun _ => true) (fun _ => V.int 0)
      show 1 + _ ≤ _
      omega) fun p H1 hp e1 hl => ?_
    refine q_forR1 (n := (m : Int)) (by walk_at "ea") ⟨by omega, by omega⟩ (fun i σ' H' => ∃ y z, σ' = [some (.int (m : Int)), some (.int (n : Int)), some (.ref p), y, z] ∧ LI p (prow i n) H' ∧ Ex H H') (fun H2 e2 => ⟨none, none, rfl, e2 _ _ hl, e1.trans e2⟩) ?_ ?_
    · rintro i σ' H' hi ⟨y, z, rfl, hL, e⟩
      refine s_forR3 (n := ((n : Int) - 0).toNat) (lo := (n : Int)) (hi := 0) (c := -1) (by walk_at "ea") (RgC.neg (by omega) (by omega) (by omega) (by omega)) (fun j σ' H' => ∃ z, σ' = [some (.int (m : Int)), some (.int (n : Int)), some (.ref p), some (.int (i : Int)), z] ∧ LI p (mrow i n j) H' ∧ Ex H H') (fun H2 e2 => ⟨z, rfl, by rw [mrow_zero]; exact e2 _ _ hL, e.trans e2⟩) ?_ ?_
      · rintro j σ' H' hj ⟨z, rfl, hM, e⟩
        have hj2 : j < n := by omega
        have e1 : ((n : Int) + (j : Int) * -1) = ((n - j : Nat) : Int) := by omega
        have e2 : ((n : Int) + (j : Int) * -1) - 1 = ((n - j - 1 : Nat) : Int) := by omega
        have g1 := mrow_get (t := i) (b := n) (i := j) (k := n - j) (by omega)
        have g2 := mrow_get (t := i) (b := n) (i := j) (k := n - j - 1) (by omega)
        rw [if_neg (by omega)] at g1 g2
        refine s_setL (v := .int (((Ch i (n - j) : Nat) : Int) + ((Ch i (n - j - 1) : Nat) : Int))) (j := n - j) hM (ev_op (ev_op (ev_var rfl) (ev_var rfl) (rv_ixL (sq_of hM) (at_int e1 g1))) (ev_op (ev_var rfl) (by walk_at "ev") (rv_ixL (sq_of hM) (at_int e2 g2))) rv_I0) (ev_var rfl) (ev_is (ev_var rfl) (congrArg V.int e1)) (by rw [List.length_map, mrow_len]; omega) fun H2 e2 => ⟨some (.int ((n : Int) + (j : Int) * -1)), rfl, ?_, Ex.mut (e.trans e2) hp⟩
        show upd H2 p _ p = _
        rw [upd_same, ← mrow_set hj2, List.map_set]
      · rintro σ' H' ⟨z, rfl, hM, e⟩
        refine ⟨some (.int (i : Int)), z, rfl, ?_, e⟩
        rw [show ((n : Int) - 0).toNat = n by omega, mrow_all] at hM
        exact hM
    · rintro σ' H' ⟨y, z, rfl, hL, e⟩
      exact s_ret (v := .int (chI m n)) (ev_op (ev_var rfl) (ev_var rfl) (rv_ixL (sq_of hL) (at_int rfl (prow_get (by omega))))) fun H2 e2 => q H2 (e.trans e2)

/-! ### _law_whole -/
abbrev s_law_whole : Stmt := topS 11
theorem sc_law_whole : FnScope ["found"] ["found"] (defScope s_law_whole) := ⟨rfl, rfl, rfl, by decide +kernel, rfl, by decide +kernel, by decide +kernel⟩
/-- an int is whole -/
def sp_law_whole (K : PySem.W.Frag) : Sp := fun vs H Q _ => ∃ i : Int, vs = [.int i] ∧ RetV (.bl true) H Q
theorem spv_whole {K : PySem.W.Frag} {H : Hp} (i : Int) : SpV (sp_law_whole K) [.int i] H (.bl true) := fun H1 e Q q E => ⟨i, rfl, q⟩
theorem ok_law_whole {f : Addr} {fd : FuncData} (F : Fun K "_law_whole" "_law_whole" s_law_whole f fd) (T : Tx K mg) : FnOk P w K mg base CX0 1 f fd ["found"] (sp_law_whole K) := by
  refine F.ok sc_law_whole (fun vs H Q E h => ?_) (fun cdv A outer s H vs Q E hr h => ?_)
  · obtain ⟨i, rfl, _⟩ := h
    rfl
  · obtain ⟨i, rfl, q⟩ := h
    refine ⟨_, (pss_one (ps_ret (pe_and (pe_callB (r := rIsi K) call_isi (by rfl) T.b_isinstance (by decide +kernel) (pa_cons (pv 0) (pa_cons (pe_bltn (v := .ty "int") (u := Value.type "int") (by rfl) T.b_int (by decide +kernel) rfl) pa_nil))) (pe_one (pe_not (pe_callB (r := rIsi K) call_isi (by rfl) T.b_isinstance (by decide +kernel) (pa_cons (pv 0) (pa_cons (pe_bltn (v := .ty "bool") (u := Value.type "bool") (by rfl) T.b_bool (by decide +kernel) rfl) pa_nil)))))))), ?_⟩
    have h1 : ∀ H1, Ex H H1 → TyX K H1 (.int i) (.type "int") := fun H1 _ => .base (.int i)
    exact s_ret (v := .bl (true && !false)) (ev_andV (ev_isi (b := "int") (ev_var rfl) h1 (by decide +kernel)) fun _ => ev_notV (ev_isi (b := "bool") (ev_var rfl) h1 (by decide +kernel))) fun H1 e1 => q H1 e1

/-! ### _law_is_sets -/
abbrev s_law_is_sets : Stmt := topS 14
theorem sc_law_is_sets : FnScope ["found", "due", "one", "thing"] ["found", "due"] (defScope s_law_is_sets) := ⟨rfl, rfl, rfl, by decide +kernel, rfl, by decide +kernel, by decide +kernel⟩
/-- _law_is_sets(found, due): are they the same, two lists of tuples of ints -/
def sp_law_is_sets (K : PySem.W.Frag) : Sp := fun vs H Q _ => ∃ (x y : V) (ts us : List (List Int)), vs = [x, y] ∧ ILT K ts x H ∧ ILT K us y H ∧ RetV (.bl (decide (ts = us))) H Q
theorem spv_is_sets {K : PySem.W.Frag} {H : Hp} {x y : V} {ts us : List (List Int)} (h1 : ILT K ts x H) (h2 : ILT K us y H) : SpV (sp_law_is_sets K) [x, y] H (.bl (decide (ts = us))) := fun H1 e Q q E => ⟨x, y, ts, us, rfl, mono_ILT _ _ _ e h1, mono_ILT _ _ _ e h2, q⟩
theorem ev_is_sets {K : PySem.W.Frag} {sg : L2.St} {H : Hp} {ta tb : TE} {E : XK} {ts us : List (List Int)} (ha : EvP ta sg H (ILT K ts)) (hb : EvP tb sg H (ILT K us)) : Ev (tCall (sp_law_is_sets K) [] E (tCons ta (tCons tb tNil))) sg H (.bl (decide (ts = us))) :=
  P_ev (evp_callP (C := fun vs H2 => ∃ x ys, vs = x :: ys ∧ ILT K ts x H2 ∧ ∃ y zs, ys = y :: zs ∧ ILT K us y H2 ∧ zs = []) (eap_cons mono_ILT ha (eap_cons mono_ILT hb eap_nil)) fun vs H1 e hC => by
    obtain ⟨x, ys, rfl, hx, y, zs, rfl, hy, rfl⟩ := hC
    exact fun H2 e2 Q q E => spv_is_sets hx hy H2 e2 Q (fun H3 e3 => q _ H3 e3 rfl) E)
theorem ok_law_is_sets {f : Addr} {fd : FuncData} (F : Fun K "_law_is_sets" "_law_is_sets" s_law_is_sets f fd) (T : Tx K mg) (c_law_whole : Cal P w K mg base "_law_whole" 1 ["found"] (sp_law_whole K)) : FnOk P w K mg base CX0 2 f fd ["found", "due"] (sp_law_is_sets K) := by
  refine F.ok sc_law_is_sets (fun vs H Q E h => ?_) (fun cdv A outer s H vs Q E hr h => ?_)
  · obtain ⟨x, y, ts, us, rfl, _⟩ := h
    rfl
  · obtain ⟨x, y, ts, us, rfl, hx, hy, q⟩ := h
    refine ⟨_, (pss_cons (ps_if (PW.pt (pw_or (pt_not (pt_val (pe_callB (r := rIsi K) call_isi (by rfl) T.b_isinstance (by decide +kernel) (pa_cons (pv 0) (pa_cons (pe_bltn (v := .ty "list") (u := Value.type "list") (by rfl) T.b_list (by decide +kernel) rfl) pa_nil))))) (pw_or1 (pt_cmpR op_ne (pe_callB (r := rLenS K) call_len_seq (by rfl) T.b_len PySem.boot_len (pa_cons (pv 0) pa_nil)) (pe_callB (r := rLenS K) call_len_seq (by rfl) T.b_len PySem.boot_len (pa_cons (pv 1) pa_nil)) (nomark _))))) (pss_one (ps_ret pe_bl)) pss_nil)
      (pss_cons (ps_for PassesOwn.never rfl (pi_listK (K := K) (pv 0)) (pg_name (i := 2) sc_law_is_sets.nd rfl (Or.inl rfl))
      (pss_cons (ps_if (pt_not (pt_val (pe_callB (r := rIsi K) call_isi (by rfl) T.b_isinstance (by decide +kernel) (pa_cons (pv 2) (pa_cons (pe_bltn (v := .ty "tuple") (u := Value.type "tuple") (by rfl) T.b_tuple (by decide +kernel) rfl) pa_nil))))) (pss_one (ps_ret pe_bl)) pss_nil)
      (pss_one (ps_for PassesOwn.never rfl (pi_tupK (K := K) (pv 2)) (pg_name (i := 3) sc_law_is_sets.nd rfl (Or.inl rfl))
      (pss_one (ps_if (pt_not (pt_val (pe_cal c_law_whole (hr.mono (by decide)) (by rfl) (pa_cons (pv 3) pa_nil)))) (pss_one (ps_ret pe_bl)) pss_nil))))))
      (pss_one (ps_ret (pe_cmpR (r := rEqD K) (op_eqD hr.units) (pv 0) (pv 1) (nomark _)))))), ?_⟩
    refine q_when (b := !decide (ts.length = us.length)) (et_is (et_or (a := false) (et_is (et_not (et_B (ev_isi (a := "list") (b := "list") (k := true) (ev_var rfl) (fun H4 e4 => ty_ILT (mono_ILT _ _ _ e4 hx)) (by decide +kernel)))) rfl) fun _ => et_test (ev_op (ev_lenLT (evp_ltV (ev_var rfl) hx)) (ev_lenLT (evp_ltV (ev_var rfl) hy)) (rv_ne rfl))) (by simp; omega)) (fun hb H1 e1 => s_ret (v := .bl false) ev_c fun H2 e2 => by
      have := q H2 (e1.trans e2)
      rw [show decide (ts = us) = false from by
        simp only [Bool.not_eq_true', decide_eq_false_iff_not] at hb
        simp only [decide_eq_false_iff_not]
        exact fun e => hb (congrArg List.length e)] at this
      exact this) fun hb H1 e1 => ?_
    obtain ⟨a, vs, rfl, hs, hT⟩ := id hx
    refine q_forLn (a := a) (xs := vs) (ev_var rfl) (ex_l e1 hs) (fun i σ' H' => ∃ y1 y2, σ' = [some (.ref a), some y, y1, y2] ∧ Ex H H') (fun H2 e2 => ⟨none, none, rfl, e1.trans e2⟩) (fun i σ' H' _ ⟨_, _, _, e⟩ => ex_l e hs) ?_ ?_
    · rintro i v σ' H' hv ⟨y1, y2, rfl, e⟩
      obtain ⟨xs, h1, h2⟩ := hT.getV hv
      have h2' := mono_IT _ _ _ e h2
      refine q_when (b := false) (et_is (et_not (et_B (ev_isi (a := "tuple") (b := "tuple") (k := true) (ev_var rfl) (fun H4 e4 => ty_IT (mono_IT _ _ _ e4 h2')) (by decide +kernel)))) rfl) (fun hb => absurd hb (by decide)) fun _ H2 e2 => ?_
      obtain ⟨b, rfl, hb⟩ := id h2'
      refine s_forTn (a := b) (xs := xs.map V.int) (ev_var rfl) (ex_t e2 hb) (fun i σ' H'' => ∃ y2, σ' = [some (.ref a), some y, some (.ref b), y2] ∧ Ex H' H'') (fun H3 e3 => ⟨y2, rfl, e2.trans e3⟩) (fun i σ' H' _ ⟨_, _, e⟩ => ex_t e hb) ?_ ?_
      · rintro k n σ' H'' hn ⟨y2, rfl, e3⟩
        rw [List.getElem?_map] at hn
        cases hx : xs[k]? with
        | none => rw [hx] at hn; simp at hn
        | some n0 =>
          rw [hx] at hn
          have hn : n = V.int n0 := by simpa using hn.symm
          subst hn
          exact s_when (b := false) (et_is (et_not (et_B (ev_cal (ea_cons (ev_var rfl) ea_nil) (spv_whole n0)))) rfl) (fun hb => absurd hb (by decide)) fun _ H4 e4 => ⟨_, rfl, e3.trans e4⟩
      · rintro σ' H'' ⟨y2, rfl, e3⟩
        exact ⟨_, _, rfl, e.trans e3⟩
    · rintro σ' H' ⟨y1, y2, rfl, e⟩
      exact s_ret (ev_eqLT (evp_ltV (ev_var rfl) (mono_ILT _ _ _ e hx)) (evp_ltV (ev_var rfl) (mono_ILT _ _ _ e hy))) fun H2 e2 => q H2 (e.trans e2)

/-! ### _law_sets -/
abbrev s_law_sets : Stmt := topS 13
theorem sc_law_sets : FnScope ["things", "size", "sets", "k", "longer", "one", "thing", "back"] ["things", "size"] (defScope s_law_sets) := ⟨rfl, rfl, rfl, by decide +kernel, rfl, by decide +kernel, by decide +kernel⟩
/-- _law_sets(things, size): all sets of a size, in order -/
def sp_law_sets (K : PySem.W.Frag) : Sp := fun vs H Q _ => ∃ n k : Nat, vs = [.int (n : Int), .int (k : Int)] ∧ (n ≤ 1000 ∧ 0 < k ∧ k ≤ 100 ∧ ∀ j, j ≤ k → Ch n j ≤ 30000) ∧ RetP (LTn K H (fsI k (Ch n k))) H Q
theorem spp_sets {K : PySem.W.Frag} {H : Hp} {n k : Nat} (h : n ≤ 1000 ∧ 0 < k ∧ k ≤ 100 ∧ ∀ j, j ≤ k → Ch n j ≤ 30000) : SpP (sp_law_sets K) [.int (n : Int), .int (k : Int)] H (LTn K H (fsI k (Ch n k))) := fun H1 e Q q E => ⟨n, k, rfl, h, fun v H2 e2 ⟨p, h1, h2, h3⟩ => q v H2 e2 ⟨p, h1, fresh_back e h2, h3⟩⟩
/-- what stands after some sets, and some things at the next one -/
def lxI (n k : Nat) : List (List Int) := (lx n k).map toI
def extT (t : Nat) (one : List Nat) : List (List Int) := (((List.range t).filter (okNext one)).map fun t => one ++ [t]).map toI
def grown (n : Nat) (l : List (List Nat)) (i : Nat) : List (List Int) := ((l.take i).flatMap (extOne n)).map toI
theorem grown_succ {n i : Nat} {l : List (List Nat)} {one : List Nat} (h : l[i]? = some one) : grown n l (i + 1) = grown n l i ++ extT n one := by
  unfold grown
  rw [List.take_add_one, h, List.flatMap_append, List.map_append]
  show _ ++ ([one].flatMap (extOne n)).map toI = _
  rw [List.flatMap_singleton]
  rfl
theorem extT_yes {t : Nat} {one : List Nat} (h : okNext one t = true) : extT (t + 1) one = extT t one ++ [toI one ++ [((t : Nat) : Int)]] := by
  unfold extT
  rw [List.range_succ, List.filter_append, List.map_append, List.map_append]
  simp [h, toI]
theorem extT_no {t : Nat} {one : List Nat} (h : okNext one t = false) : extT (t + 1) one = extT t one := by
  unfold extT
  rw [List.range_succ, List.filter_append, List.map_append, List.map_append]
  simp [h]
theorem extT_len (n t : Nat) (one : List Nat) (h : t ≤ n) : (extT t one).length ≤ n := by
  unfold extT
  rw [List.length_map, List.length_map]
  refine Nat.le_trans (List.length_filter_le _ _) ?_
  rw [List.length_range]
  exact h
theorem grown_len {n k : Nat} (i : Nat) : (grown n (lx n k) i).length ≤ Ch n (k + 1) := by
  have h : ((lx n k).take i).flatMap (extOne n) <+: (lx n k).flatMap (extOne n) := by
    have e := congrArg (List.flatMap (extOne n)) (List.take_append_drop i (lx n k))
    rw [List.flatMap_append] at e
    exact ⟨_, e⟩
  unfold grown
  rw [List.length_map]
  have := h.length_le
  have e := lx_len n (k + 1)
  show _ ≤ _
  rw [← e]
  exact this
theorem ok_law_sets {f : Addr} {fd : FuncData} (F : Fun K "_law_sets" "_law_sets" s_law_sets f fd) (T : Tx K mg) : FnOk P w K mg base CX0 1 f fd ["things", "size"] (sp_law_sets K) := by
  refine F.ok sc_law_sets (fun vs H Q E h => ?_) (fun cdv A outer s H vs Q E hr h => ?_)
  · obtain ⟨n, k, rfl, _⟩ := h
    rfl
  · obtain ⟨n, k, rfl, ⟨h1, h0, h2, h3⟩, q⟩ := h
    refine ⟨_, (pss_cons (ps_set (i := 2) sc_law_sets.nd rfl (Or.inl rfl) (pe_lst (pa_cons (pe_tup pa_nil) pa_nil)))
      (pss_cons (ps_for PassesOwn.never rfl (pi_range1 (by rfl) T.b_range (pa_cons (pv 1) pa_nil)) (pg_name (i := 3) sc_law_sets.nd rfl (Or.inl rfl))
      (pss_cons (ps_set (i := 4) sc_law_sets.nd rfl (Or.inl rfl) (pe_lst pa_nil))
      (pss_cons (ps_for PassesOwn.never rfl (pi_listK (K := K) (pv 2)) (pg_name (i := 5) sc_law_sets.nd rfl (Or.inl rfl))
      (pss_one (ps_for PassesOwn.never rfl (pi_range1 (by rfl) T.b_range (pa_cons (pv 0) pa_nil)) (pg_name (i := 6) sc_law_sets.nd rfl (Or.inl rfl))
      (pss_one (ps_if (PW.pt (pw_or (pt_cmpR (r := rEqD K) (op_eqD hr.units) (pv 5) (pe_tup pa_nil) (nomark _)) (pw_or1 (pt_cmpR op_gt (pv 6) (pe_ix (r := rIxT K) ix_tup (pv 5) (pe_un un_neg pe_int) (fun _ _ => rfl)) (nomark _))))) (pss_one (ps_expr (pe_bm PySem.F.plainAttrs_list PySem.F.slot_list_append PySem.F.type_list_append mt_append (pv 4) (pa_cons (pe_op (r := rCatA K) op_catA (pv 5) (pe_tup (pa_cons (pv 6) pa_nil))) pa_nil)))) pss_nil)))))
      (pss_one (ps_set (i := 2) sc_law_sets.nd rfl (Or.inl rfl) (pv 4))))))
      (pss_one (ps_ret (pe_lc (own := [("back", 7)]) (g := gName 7) rfl sc_law_sets.nd (pi_listK (K := K) (pe_callB (r := rSortedTs K) (cr_sortedTs hr.units) (by rfl) T.b_sorted (by decide +kernel) (pa_cons (pe_lc (own := [("one", 5)]) (g := gName 5) rfl sc_law_sets.nd (pi_listK (K := K) (pv 2)) (blkOk_by (by kernel_rfl)) (fun _ _ _ _ _ => (pg_name (i := 5) sc_law_sets.nd rfl (Or.inl rfl))) (fun _ _ _ _ _ => pts_nil) (fun _ _ _ _ _ => (pe_tupRt (K := K) rfl (by rfl) T.b_tuple (by rfl) T.b_reversed (pv 5)))) pa_nil))) (blkOk_by (by kernel_rfl)) (fun _ _ _ _ _ => (pg_name (i := 7) sc_law_sets.nd rfl (Or.inl rfl))) (fun _ _ _ _ _ => pts_nil) (fun _ _ _ _ _ => (pe_tupRt (K := K) rfl (by rfl) T.b_tuple (by rfl) T.b_reversed (pv 7)))))))), ?_⟩
    refine q_asgP (P := LTn K H [[]]) (evp_lst1 (evp_tupI ea_nil (by decide))) fun v1 H1 e1 hv1 => ?_
    refine q_forR1 (n := (k : Int)) (by walk_at "ea") ⟨by omega, by omega⟩ (fun i σ' H' => ∃ p y1 y2 y3 y4, σ' = [some (.int (n : Int)), some (.int (k : Int)), some (.ref p), y1, y2, y3, y4, none] ∧ H p = none ∧ LT K p (lxI n i) H' ∧ Ex H H') (fun H2 e2 => by
      obtain ⟨p, rfl, hp, hl⟩ := hv1
      exact ⟨p, none, none, none, none, rfl, hp, hl.ex e2, e1.trans e2⟩) ?_ ?_
    · rintro i σ' H' hi ⟨p, y1, y2, y3, y4, rfl, hp, ⟨vs, hl, hT⟩, e⟩
      have hik : i + 1 ≤ k := by omega
      refine q_asgL (xs := []) (el_lst ea_nil (by decide)) fun l H2 hl2 e2 hL2 => ?_
      have hne : p ≠ l := fun z => by
        subst z
        rw [hl] at hl2
        exact nomatch hl2
      have hlen : vs.length = (lx n i).length := by rw [hT.length]; unfold lxI; rw [List.length_map]
      refine q_forLn (a := p) (xs := vs) (ev_var rfl) (sq_of (e2 _ _ hl)) (fun j σ' H'' => ∃ y3 y4, σ' = [some (.int (n : Int)), some (.int (k : Int)), some (.ref p), some (.int (i : Int)), some (.ref l), y3, y4, none] ∧ LT K l (grown n (lx n i) j) H'' ∧ H'' p = some (.lst vs) ∧ Ex H' H'') (fun H3 e3 => ⟨y3, y4, rfl, ⟨[], e3 _ _ hL2, .nil⟩, e3 _ _ (e2 _ _ hl), e2.trans e3⟩) (fun j σ' H' _ ⟨_, _, _, _, h, _⟩ => sq_of h) ?_ ?_
      · rintro j v σ' H3 hv ⟨y3, y4, rfl, hG, hP, e3⟩
        obtain ⟨xs, hx1, hx2⟩ := hT.getV hv
        unfold lxI at hx1
        rw [List.getElem?_map] at hx1
        cases hone : (lx n i)[j]? with
        | none => rw [hone] at hx1; simp at hx1
        | some one =>
        rw [hone] at hx1
        have hx1 : xs = toI one := by simpa using hx1.symm
        subst hx1
        have hmem := List.mem_of_getElem? hone
        obtain ⟨m1, m2, m3⟩ := mem_lx.mp hmem
        refine s_forR1 (n := (n : Int)) (by walk_at "ea") ⟨by omega, by omega⟩ (fun t σ' H'' => ∃ y4, σ' = [some (.int (n : Int)), some (.int (k : Int)), some (.ref p), some (.int (i : Int)), some (.ref l), some v, y4, none] ∧ LT K l (grown n (lx n i) j ++ extT t one) H'' ∧ H'' p = some (.lst vs) ∧ Ex H' H'') (fun H4 e4 => ⟨y4, rfl, by rw [show extT 0 one = [] from rfl, List.append_nil]; exact hG.ex e4, e4 _ _ hP, e3.trans e4⟩) ?_ ?_
        · rintro t σ' H4 ht ⟨y4, rfl, ⟨ws, hG1, hG2⟩, hP, e4⟩
          have ht : t < n := by omega
          have hv4 : IT K (toI one) v H4 := mono_IT _ _ _ e4 hx2
          have hwl : ws.length < 100000 := by
            rw [hG2.length, List.length_append]
            have := grown_len (n := n) (k := i) j
            have := extT_len n t one (by omega)
            have := h3 (i + 1) hik
            omega
          refine s_when (b := okNext one t) ?_ (fun hb H5 e5 => ?_) (fun hb H5 e5 => ?_)
          · rcases snoc_cases one with z | ⟨r, x, z⟩
            · subst z
              exact et_is (et_or (a := true) (b := true) (et_is (et_test (ev_eqIT (evp_itV (ev_var rfl) hv4) (evp_tupI (ns := []) ea_nil (by decide)))) rfl) (fun h => absurd h (by decide))) rfl
            · subst z
              rw [toI_app] at hv4
              refine et_is (et_or (a := false) (et_is (et_test (ev_eqIT (evp_itV (ev_var rfl) hv4) (evp_tupI (ns := []) ea_nil (by decide)))) (by simp [toI])) (fun _ => et_test (ev_op (ev_var rfl) (ev_lastIT (evp_itV (ev_var rfl) hv4) (ev_un ev_c ru_neg)) rv_I0))) ?_
              show (false || decide ((t : Int) > (x : Int))) = _
              unfold okNext
              rw [show (r ++ [x]).getLast? = some x by simp]
              simp
          · refine s_appP (P := IT K (toI one ++ [((t : Nat) : Int)])) (e5 _ _ hG1) (ev_var rfl) (evp_catT (evp_itV (ev_var rfl) (mono_IT _ _ _ e5 hv4)) (evp_tupI (ns := [((t : Nat) : Int)]) (ea_cons (ev_var rfl) ea_nil) (by show 1 ≤ 100000; decide)) (by rw [toI_len, List.length_singleton]; omega)) hwl fun w H6 e6 hw => ⟨_, rfl, ?_, ?_, Ex.mut ((e4.trans e5).trans e6) hl2⟩
            · rw [extT_yes hb, ← List.append_assoc]
              exact LT.app ((e5.trans e6) _ _ hG1) (hG2.ex (e5.trans e6)) hw
            · rw [upd_ne hne]
              exact (e5.trans e6) _ _ hP
          · exact ⟨_, rfl, by rw [extT_no hb]; exact ⟨ws, e5 _ _ hG1, hG2.ex e5⟩, e5 _ _ hP, e4.trans e5⟩
        · rintro σ' H4 ⟨y4, rfl, hG, hP, e4⟩
          rw [Int.toNat_natCast, ← grown_succ hone] at hG
          exact ⟨_, _, rfl, hG, hP, e4⟩
      · rintro σ' H3 ⟨y3, y4, rfl, hG, hP, e3⟩
        refine s_asg (v := .ref l) (ev_var rfl) fun H4 e4 => ⟨l, _, _, _, _, rfl, fresh_back e hl2, ?_, (e.trans e3).trans e4⟩
        rw [hlen] at hG
        unfold grown at hG
        rw [List.take_length] at hG
        exact hG.ex e4
    · rintro σ' H' ⟨p, y1, y2, y3, y4, rfl, hp, hL, e⟩
      rw [Int.toNat_natCast] at hL
      have hlen : (lxI n k).length ≤ 30000 := by
        unfold lxI
        rw [List.length_map, lx_len]
        exact h3 k (Nat.le_refl k)
      have hz2 : ((lxI n k).map List.reverse).length ≤ 40000 := by rw [List.length_map]; omega
      have main : (((lxI n k).map List.reverse).mergeSort tleB).map List.reverse = fsI k (Ch n k) := by
        have := lx_sorted n k
        unfold lxI
        rw [List.map_map]
        exact this
      refine s_retP (P := LTn K H' (fsI k (Ch n k))) ?_ fun v H2 e2 ⟨p2, g1, g2, g3⟩ => q v H2 (e.trans e2) ⟨p2, g1, fresh_back e g2, g3⟩
      rw [← main]
      refine evp_mapLT List.reverse (evp_il (evp_sortedTs (evp_il (evp_mapLT List.reverse (evp_ltV (ev_var rfl) hL.il) (by omega) (fun _ => rfl) (fun _ _ _ _ _ _ => et_yes) fun x xs H1 _ _ hx => evp_tupRt (evp_itV (ev_var rfl) hx))) ?_)) (by rw [List.length_mergeSort]; exact hz2) (fun _ => rfl) (fun _ _ _ _ _ _ => et_yes) fun x xs H1 _ _ hx => evp_tupRt (evp_itV (ev_var rfl) hx)
      intro t ht
      obtain ⟨u, hu, rfl⟩ := List.mem_map.mp ht
      obtain ⟨s, hs, rfl⟩ := List.mem_map.mp hu
      have hk := (mem_lx.mp hs).1
      intro z
      have z2 := congrArg List.length z
      rw [List.length_reverse, toI_len, hk, List.length_nil] at z2
      omega

/-! ### _law_first -/
abbrev s_law_first : Stmt := topS 15
theorem sc_law_first : FnScope ["size", "many", "things"] ["size", "many"] (defScope s_law_first) := ⟨rfl, rfl, rfl, by decide +kernel, rfl, by decide +kernel, by decide +kernel⟩
/-- _law_first(size, many): the first sets, gone through -/
def sp_law_first (K : PySem.W.Frag) : Sp := fun vs H Q _ => ∃ k m : Nat, vs = [.int (k : Int), .int (m : Int)] ∧ (0 < k ∧ k ≤ 6 ∧ m ≤ 200) ∧ RetP (LTn K H (fsI k m)) H Q
theorem spp_lfirst {K : PySem.W.Frag} {H : Hp} {k m : Nat} (h : 0 < k ∧ k ≤ 6 ∧ m ≤ 200) : SpP (sp_law_first K) [.int (k : Int), .int (m : Int)] H (LTn K H (fsI k m)) := fun H1 e Q q E => ⟨k, m, rfl, h, fun v H2 e2 ⟨p, h1, h2, h3⟩ => q v H2 e2 ⟨p, h1, fresh_back e h2, h3⟩⟩
theorem small_ch {n k : Nat} (hk : 0 < k) (hk6 : k ≤ 6) (h : n = k ∨ (k < n ∧ Ch (n - 1) k < 200)) : n ≤ 200 ∧ ∀ j, j ≤ k → Ch n j ≤ 30000 := by
  have bound : ∀ a, 200 ≤ Ch a k → n ≤ a ∨ n = k := fun a ha => by
    rcases h with h | ⟨h1, h2⟩
    · exact Or.inr h
    · refine Or.inl ?_
      rcases Nat.lt_or_ge a (n - 1 + 1) with c | c
      · have := ch_mono k (show a ≤ n - 1 by omega)
        omega
      · omega
  have all : ∀ a, (∀ j, j ≤ k → Ch a j ≤ 30000) → n ≤ a → ∀ j, j ≤ k → Ch n j ≤ 30000 := fun a ha hn j hj => Nat.le_trans (ch_mono j hn) (ha j hj)
  have d : ∀ k a : Nat, (List.range (k + 1)).all (fun j => decide (Ch a j ≤ 30000)) = true → ∀ j, j ≤ k → Ch a j ≤ 30000 := fun k a h j hj => of_decide_eq_true (List.all_eq_true.mp h j (List.mem_range.mpr (by omega)))
  rcases (by omega : k = 1 ∨ k = 2 ∨ k = 3 ∨ k = 4 ∨ k = 5 ∨ k = 6) with rfl | rfl | rfl | rfl | rfl | rfl
  · have hn : n ≤ 200 := by
      rcases bound 200 (by rw [ch_one]; decide) with c | c <;> omega
    exact ⟨hn, fun j hj => by
      rcases (by omega : j = 0 ∨ j = 1) with rfl | rfl
      · rw [ch_zero]; decide
      · rw [ch_one]; omega⟩
  · have hn : n ≤ 21 := by
      rcases bound 21 (by decide +kernel) with c | c <;> omega
    exact ⟨by omega, all 21 (d 2 21 (by decide +kernel)) hn⟩
  · have hn : n ≤ 12 := by
      rcases bound 12 (by decide +kernel) with c | c <;> omega
    exact ⟨by omega, all 12 (d 3 12 (by decide +kernel)) hn⟩
  · have hn : n ≤ 10 := by
      rcases bound 10 (by decide +kernel) with c | c <;> omega
    exact ⟨by omega, all 10 (d 4 10 (by decide +kernel)) hn⟩
  · have hn : n ≤ 10 := by
      rcases bound 10 (by decide +kernel) with c | c <;> omega
    exact ⟨by omega, all 10 (d 5 10 (by decide +kernel)) hn⟩
  · have hn : n ≤ 10 := by
      rcases bound 10 (by decide +kernel) with c | c <;> omega
    exact ⟨by omega, all 10 (d 6 10 (by decide +kernel)) hn⟩
theorem ok_law_first {f : Addr} {fd : FuncData} (F : Fun K "_law_first" "_law_first" s_law_first f fd) (T : Tx K mg) (c_law_choices : Cal P w K mg base "_law_choices" 1 ["a", "b"] (sp_law_choices K)) (c_law_sets : Cal P w K mg base "_law_sets" 1 ["things", "size"] (sp_law_sets K)) : FnOk P w K mg base CX0 2 f fd ["size", "many"] (sp_law_first K) := by
  refine F.ok sc_law_first (fun vs H Q E h => ?_) (fun cdv A outer s H vs Q E hr h => ?_)
  · obtain ⟨k, m, rfl, _⟩ := h
    rfl
  · obtain ⟨k, m, rfl, ⟨h1, h2, h3⟩, q⟩ := h
    refine ⟨_, (pss_cons (ps_set (i := 2) sc_law_first.nd rfl (Or.inl rfl) (pv 0))
      (pss_cons (ps_while PassesOwn.never (pt_cmpR op_lt (pe_cal c_law_choices (hr.mono (by decide)) (by rfl) (pa_cons (pv 2) (pa_cons (pv 0) pa_nil))) (pv 1) (nomark _))
      (pss_one (ps_set (i := 2) sc_law_first.nd rfl (Or.inl rfl) (pe_op op_add (pv 2) pe_int))))
      (pss_one (ps_ret (pe_slice (r := rSlL K) sl_list (pe_cal c_law_sets (hr.mono (by decide)) (by rfl) (pa_cons (pv 2) (pa_cons (pv 0) pa_nil))) po_none (po_some (pv 1))))))), ?_⟩
    refine q_asg (v := .int (k : Int)) (ev_var rfl) fun H1 e1 => ?_
    refine q_while (fun ν σ' H' => ∃ n : Nat, ν = 1000 - n ∧ σ' = [some (.int (k : Int)), some (.int (m : Int)), some (.int (n : Int))] ∧ (n = k ∨ (k < n ∧ Ch (n - 1) k < 200)) ∧ Ex H H') (1000 - k) ⟨k, rfl, rfl, Or.inl rfl, e1⟩ ?_
    rintro ν σ' H' ⟨n, rfl, rfl, hn, e⟩
    obtain ⟨hn2, hall⟩ := small_ch h1 h2 hn
    refine ⟨decide (chI (n : Int) (k : Int) < (m : Int)), et_test (ev_op (ev_cal (by walk_at "ea") (spv_law_choices ⟨by omega, by omega, by omega, by omega⟩)) (ev_var rfl) rv_I0), fun hb H2 e2 => ⟨_, fun _ _ w => w, ?_⟩, fun hb H2 e2 => ?_⟩
    · have hc := of_decide_eq_true hb
      rw [chI_nat] at hc
      have hge : k ≤ n := by omega
      exact s_asg (v := .int ((n + 1 : Nat) : Int)) (ev_is (ev_op (ev_var rfl) ev_c rv_I0) (congrArg V.int (by omega))) fun H3 e3 => ⟨1000 - (n + 1), by omega, n + 1, rfl, rfl, Or.inr ⟨by omega, by rw [Nat.add_sub_cancel]; omega⟩, (e.trans e2).trans e3⟩
    · have hc := of_decide_eq_false hb
      rw [chI_nat] at hc
      refine s_retP (P := LTn K H2 (fsI k m)) ?_ fun v H3 e3 ⟨p, g1, g2, g3⟩ => q v H3 ((e.trans e2).trans e3) ⟨p, g1, fresh_back (e.trans e2) g2, g3⟩
      have ht : (fsI k (Ch n k)).take m = fsI k m := by
        unfold fsI
        rw [← List.map_take, fs_take (by omega)]
      rw [← ht]
      exact evp_slLT (evp_il (evp_cal (by walk_at "ea") ((spp_sets (K := K) (H := H2) ⟨by omega, h1, by omega, hall⟩)))) eo_none (eo_some (ev_var rfl)) (cut_toT m)

end
end SH

namespace SH
open PySem PySem.Spec PyProof.Rows L2 Evl SM
local macro_rules | `(tactic| walk_at "ev") => `(tactic| first
  | exact ev_c
  | (refine ev_var ?_; rfl)
  | (refine ev_op ?shA ?shB rv_I0; (case shA => walk_at "ev"); (case shB => walk_at "ev"))
  | (refine ev_op ?shA ?shB (rv_mod ?shC); (case shA => walk_at "ev"); (case shB => walk_at "ev"); (case shC => first | decide | omega))
  | (refine ev_op ?shA ?shB (rv_div ?shC); (case shA => walk_at "ev"); (case shB => walk_at "ev"); (case shC => first | decide | omega))
  | (refine ev_un ?shA ru_neg; (case shA => walk_at "ev"))
  | assumption)
local macro_rules | `(tactic| walk_at "ea") => `(tactic| first
  | exact ea_nil
  | (refine ea_cons ?shA ?shB; (case shA => walk_at "ev"); (case shB => walk_at "ea")))

section
variable {P : Program} {w : World} {K : PySem.W.Frag} {mg : Str → Option Value} {base : Heap}

/-! ### law -/
abbrev s_law : Stmt := topS 16
theorem sc_law : FnScope ["script", "size", "many", "due", "found"] ["script"] (defScope s_law) := ⟨rfl, rfl, rfl, by decide +kernel, rfl, by decide +kernel, by decide +kernel⟩
theorem fsI_last (k m : Nat) : (fsI k m).dropLast = fsI k (m - 1) := by
  have hl : (fsI k m).length = m := by unfold fsI; rw [List.length_map, fs_len]
  rw [List.dropLast_eq_take, hl]
  unfold fsI
  rw [← List.map_take, fs_take (by omega)]
def sp_law (K : PySem.W.Frag) : Sp := fun vs H Q _ => ∃ (a : Addr) (ns : List Int), vs = [.ref a] ∧ SqL K H a (ns.map V.int) ∧ ns.length ≤ 63 ∧ ∀ H', Q (.bl true) H'
theorem ok_law {f : Addr} {fd : FuncData} (F : Fun K "law" "law" s_law f fd) (T : Tx K mg) (c_law_first : Cal P w K mg base "_law_first" 2 ["size", "many"] (sp_law_first K)) (c_first : Cal P w K mg base "first" 3 ["size", "many"] (sp_first K)) (c_law_is_sets : Cal P w K mg base "_law_is_sets" 2 ["found", "due"] (sp_law_is_sets K)) (c_law_cell_at : Cal P w K mg base "_law_cell_at" 1 ["script", "k"] (sp_law_cell_at K)) (c_law_choices : Cal P w K mg base "_law_choices" 1 ["a", "b"] (sp_law_choices K)) : FnOk P w K mg base CX0 4 f fd ["script"] (sp_law K) := by
  refine F.ok sc_law (fun vs H Q E h => ?_) (fun cdv A outer s H vs Q E hr h => ?_)
  · obtain ⟨a, ns, rfl, _⟩ := h
    rfl
  · obtain ⟨a, ns, rfl, hS, hlen, q⟩ := h
    refine ⟨_, (pss_cons (ps_set (i := 1) sc_law.nd rfl (Or.inl rfl) (pe_op op_add pe_int (pe_op op_mod (pe_cal c_law_cell_at (hr.mono (by decide)) (by rfl) (pa_cons (pv 0) (pa_cons pe_int pa_nil))) pe_int)))
      (pss_cons (ps_set (i := 2) sc_law.nd rfl (Or.inl rfl) (pe_op op_mod (pe_cal c_law_cell_at (hr.mono (by decide)) (by rfl) (pa_cons (pv 0) (pa_cons pe_int pa_nil))) (pe_op op_add (pe_callB (call_min2 rfl) (by rfl) T.b_min (by decide +kernel) (pa_cons pe_int (pa_cons (pe_cal c_law_choices (hr.mono (by decide)) (by rfl) (pa_cons pe_int (pa_cons (pv 1) pa_nil))) pa_nil))) pe_int)))
      (pss_cons (ps_set (i := 3) sc_law.nd rfl (Or.inl rfl) (pe_cal c_law_first (hr.mono (by decide)) (by rfl) (pa_cons (pv 1) (pa_cons (pv 2) pa_nil))))
      (pss_cons (ps_set (i := 4) sc_law.nd rfl (Or.inl rfl) (pe_cal c_first (hr.mono (by decide)) (by rfl) (pa_cons (pv 1) (pa_cons (pv 2) pa_nil))))
      (pss_cons (ps_if (pt_not (pt_val (pe_cal c_law_is_sets (hr.mono (by decide)) (by rfl) (pa_cons (pv 4) (pa_cons (pv 3) pa_nil))))) (pss_one (ps_ret pe_bl)) pss_nil)
      (pss_cons (ps_expr (pe_bm PySem.F.plainAttrs_list PySem.F.slot_list_append PySem.F.type_list_append mt_append (pv 4) (pa_cons (pe_tup pa_nil) pa_nil)))
      (pss_cons (ps_if (PW.pt (pw_and (pt_cmpR op_gt (pv 2) pe_int (nomark _)) (pw_and1 (pt_not (pt_val (pe_cal c_law_is_sets (hr.mono (by decide)) (by rfl) (pa_cons (pe_cal c_first (hr.mono (by decide)) (by rfl) (pa_cons (pv 1) (pa_cons (pe_op op_sub (pv 2) pe_int) pa_nil))) (pa_cons (pe_slice (r := rSlL K) sl_list (pv 3) po_none (po_some (pe_un un_neg pe_int))) pa_nil)))))))) (pss_one (ps_ret pe_bl)) pss_nil)
      (pss_one (ps_ret (pe_cal c_law_is_sets (hr.mono (by decide)) (by rfl) (pa_cons (pe_cal c_first (hr.mono (by decide)) (by rfl) (pa_cons (pv 1) (pa_cons (pv 2) pa_nil))) (pa_cons (pv 3) pa_nil)))))))))))), ?_⟩
    obtain ⟨k, hk⟩ : ∃ k : Nat, 1 + cellI ns 0 % 6 = (k : Int) := ⟨(1 + cellI ns 0 % 6).toNat, by omega⟩
    have hk1 : 0 < k := by omega
    have hk6 : k ≤ 6 := by omega
    refine q_asg (v := .int (k : Int)) (ev_is (ev_op ev_c (ev_op (ev_cal (by walk_at "ea") (spv_cell 0 hS)) ev_c (rv_mod (by decide))) rv_I0) (congrArg V.int hk)) fun H1 e1 => ?_
    have hc60 : (0 : Int) ≤ chI (60 : Int) (k : Int) := by
      rw [show (60 : Int) = ((60 : Nat) : Int) from rfl, chI_nat]
      omega
    obtain ⟨m, hm⟩ : ∃ m : Nat, cellI ns 1 % (min 200 (chI 60 (k : Int)) + 1) = (m : Int) := ⟨(cellI ns 1 % (min 200 (chI 60 (k : Int)) + 1)).toNat, by
      have := Int.emod_nonneg (cellI ns 1) (show min 200 (chI 60 (k : Int)) + 1 ≠ 0 by omega)
      omega⟩
    have hm2 : (m : Int) < min 200 (chI 60 (k : Int)) + 1 := by
      rw [← hm]
      exact Int.emod_lt_of_pos _ (by omega)
    have hm3 : m ≤ 200 := by omega
    have hm4 : m ≤ Ch 60 k := by
      have h2 : (m : Int) ≤ chI (60 : Int) (k : Int) := by omega
      rw [show (60 : Int) = ((60 : Nat) : Int) from rfl, chI_nat] at h2
      omega
    refine q_asg (v := .int (m : Int)) (ev_is (ev_op (ev_cal (by walk_at "ea") (spv_cell 1 (ex_l e1 hS))) (ev_op (ev_min2 ev_c (ev_cal (ea_cons ev_c (ea_cons (ev_var rfl) ea_nil)) (spv_law_choices ⟨by omega, by omega, by omega, by omega⟩))) ev_c rv_I0) (rv_mod (by omega))) (congrArg V.int hm)) fun H2 e2 => ?_
    refine q_asgP (evp_cal (by walk_at "ea") (spp_lfirst (K := K) (H := H2) ⟨hk1, hk6, hm3⟩)) ?_
    rintro _ H3 e3 ⟨p, rfl, hp, hD⟩
    refine q_asgP (evp_cal (by walk_at "ea") (spp_first (K := K) (H := H3) ⟨by omega, hm4, by omega⟩)) ?_
    rintro _ H4 e4 ⟨l, rfl, hl, hF⟩
    have hne : p ≠ l := fun z => by
      obtain ⟨us, hu, _⟩ := hD
      subst z
      rw [hl] at hu
      exact nomatch hu
    have hD4 := hD.ex e4
    refine q_when (b := false) (et_is (et_not (et_B (ev_is_sets (evp_ltV (ev_var rfl) hF.il) (evp_ltV (ev_var rfl) hD4.il)))) (by simp)) (fun hb => absurd hb (by decide)) fun _ H5 e5 => ?_
    obtain ⟨us, hu, hU⟩ := hF
    refine q_appP (P := IT K []) (l := l) (xs := us) (e5 _ _ hu) (ev_var rfl) (evp_tupI ea_nil (by decide)) (by
      rw [hU.length]
      unfold fsI
      rw [List.length_map, fs_len]
      omega) fun w H6 e6 hw => ?_
    have hD6 : LT K p (fsI k m) (L2.upd H6 l (.lst (us ++ [w]))) := ((hD4.ex e5).ex e6).ne (e6 _ _ (e5 _ _ hu)) hne
    refine q_when (b := false) (et_is (et_and (b := false) (et_test (ev_op (ev_var rfl) ev_c rv_I0)) fun hpos => ?_) (by simp)) (fun hb => absurd hb (by decide)) fun _ H7 e7 => ?_
    · have hm0 : 0 < m := by
        have := of_decide_eq_true hpos
        omega
      refine et_is (et_not (et_B (ev_is_sets (us := fsI k (m - 1)) (evp_il (evp_cal (ea_cons (ev_var rfl) (ea_cons (ev_is (ev_op (ev_var rfl) ev_c rv_I0) (congrArg V.int (show (m : Int) - 1 = ((m - 1 : Nat) : Int) by omega))) ea_nil)) (spp_first ⟨by omega, by omega, by omega⟩))) (evp_il (evp_slLT (evp_ltV (ev_var rfl) hD6.il) eo_none (eo_some (ev_un ev_c ru_neg)) (by rw [← fsI_last]; exact cut_lastT)))))) (by simp)
    · refine s_ret (ev_is (ev_is_sets (evp_il (evp_cal (by walk_at "ea") (spp_first ⟨by omega, hm4, by omega⟩))) (evp_ltV (ev_var rfl) (hD6.ex e7).il)) (by simp)) fun H8 e8 => q H8

end
end SH

namespace SH
open PySem PySem.Spec PyProof.Rows L2 Evl SM
/-! ### the end -/
theorem all_mk {l : PySem.W.OpenLaw} {w : World} {K : PySem.W.Frag} {h : Heap} {mg : Str → Option Value} {fa f0 f1 f2 f3 f4 f5 f6 f7 f8 f9 : Addr} (X : K.In h) (G : h.Ns mainGlobals mg) (hfa : mg "law" = some (.ref fa))
    {od0 an0 : Option Addr} {sl0 : Array (Option Value)} {oc0 kV0 dc0 pm0 cd0 ct0 : Value}
    {od1 an1 : Option Addr} {sl1 : Array (Option Value)} {oc1 kV1 dc1 pm1 cd1 ct1 : Value}
    {od2 an2 : Option Addr} {sl2 : Array (Option Value)} {oc2 kV2 dc2 pm2 cd2 ct2 : Value}
    {od3 an3 : Option Addr} {sl3 : Array (Option Value)} {oc3 kV3 dc3 pm3 cd3 ct3 : Value}
    {od4 an4 : Option Addr} {sl4 : Array (Option Value)} {oc4 kV4 dc4 pm4 cd4 ct4 : Value}
    {od5 an5 : Option Addr} {sl5 : Array (Option Value)} {oc5 kV5 dc5 pm5 cd5 ct5 : Value}
    {od6 an6 : Option Addr} {sl6 : Array (Option Value)} {oc6 kV6 dc6 pm6 cd6 ct6 : Value}
    {od7 an7 : Option Addr} {sl7 : Array (Option Value)} {oc7 kV7 dc7 pm7 cd7 ct7 : Value}
    {od8 an8 : Option Addr} {sl8 : Array (Option Value)} {oc8 kV8 dc8 pm8 cd8 ct8 : Value}
    {od9 an9 : Option Addr} {sl9 : Array (Option Value)} {oc9 kV9 dc9 pm9 cd9 ct9 : Value}
    {u_THINGS : Tok}
    (a0 : PySem.W.nsIn K mainGlobals "_law_choices" = some (some (.ref f0))) (l0 : K.lookup f0 = some ⟨oc0, od0, .func (PySem.W.fnOf "_law_choices" "_law_choices" (defArgs s_law_choices) (defBody s_law_choices) (defScope s_law_choices) .none kV0 dc0 pm0 an0 cd0 ct0), sl0⟩) (c0 : PySem.W.codeIn K cd0 "_law_choices" = true) (k0 : PySem.W.keepIn K (.ref f0) = true)
    (a1 : PySem.W.nsIn K mainGlobals "_law_sets" = some (some (.ref f1))) (l1 : K.lookup f1 = some ⟨oc1, od1, .func (PySem.W.fnOf "_law_sets" "_law_sets" (defArgs s_law_sets) (defBody s_law_sets) (defScope s_law_sets) .none kV1 dc1 pm1 an1 cd1 ct1), sl1⟩) (c1 : PySem.W.codeIn K cd1 "_law_sets" = true) (k1 : PySem.W.keepIn K (.ref f1) = true)
    (a2 : PySem.W.nsIn K mainGlobals "_law_first" = some (some (.ref f2))) (l2 : K.lookup f2 = some ⟨oc2, od2, .func (PySem.W.fnOf "_law_first" "_law_first" (defArgs s_law_first) (defBody s_law_first) (defScope s_law_first) .none kV2 dc2 pm2 an2 cd2 ct2), sl2⟩) (c2 : PySem.W.codeIn K cd2 "_law_first" = true) (k2 : PySem.W.keepIn K (.ref f2) = true)
    (a3 : PySem.W.nsIn K mainGlobals "choices" = some (some (.ref f3))) (l3 : K.lookup f3 = some ⟨oc3, od3, .func (PySem.W.fnOf "choices" "choices" (defArgs s_choices) (defBody s_choices) (defScope s_choices) .none kV3 dc3 pm3 an3 cd3 ct3), sl3⟩) (c3 : PySem.W.codeIn K cd3 "choices" = true) (k3 : PySem.W.keepIn K (.ref f3) = true)
    (a4 : PySem.W.nsIn K mainGlobals "set_at" = some (some (.ref f4))) (l4 : K.lookup f4 = some ⟨oc4, od4, .func (PySem.W.fnOf "set_at" "set_at" (defArgs s_set_at) (defBody s_set_at) (defScope s_set_at) .none kV4 dc4 pm4 an4 cd4 ct4), sl4⟩) (c4 : PySem.W.codeIn K cd4 "set_at" = true) (k4 : PySem.W.keepIn K (.ref f4) = true)
    (a5 : PySem.W.nsIn K mainGlobals "first" = some (some (.ref f5))) (l5 : K.lookup f5 = some ⟨oc5, od5, .func (PySem.W.fnOf "first" "first" (defArgs s_first) (defBody s_first) (defScope s_first) .none kV5 dc5 pm5 an5 cd5 ct5), sl5⟩) (c5 : PySem.W.codeIn K cd5 "first" = true) (k5 : PySem.W.keepIn K (.ref f5) = true)
    (a6 : PySem.W.nsIn K mainGlobals "_law_whole" = some (some (.ref f6))) (l6 : K.lookup f6 = some ⟨oc6, od6, .func (PySem.W.fnOf "_law_whole" "_law_whole" (defArgs s_law_whole) (defBody s_law_whole) (defScope s_law_whole) .none kV6 dc6 pm6 an6 cd6 ct6), sl6⟩) (c6 : PySem.W.codeIn K cd6 "_law_whole" = true) (k6 : PySem.W.keepIn K (.ref f6) = true)
    (a7 : PySem.W.nsIn K mainGlobals "_law_is_sets" = some (some (.ref f7))) (l7 : K.lookup f7 = some ⟨oc7, od7, .func (PySem.W.fnOf "_law_is_sets" "_law_is_sets" (defArgs s_law_is_sets) (defBody s_law_is_sets) (defScope s_law_is_sets) .none kV7 dc7 pm7 an7 cd7 ct7), sl7⟩) (c7 : PySem.W.codeIn K cd7 "_law_is_sets" = true) (k7 : PySem.W.keepIn K (.ref f7) = true)
    (a8 : PySem.W.nsIn K mainGlobals "_law_cell_at" = some (some (.ref f8))) (l8 : K.lookup f8 = some ⟨oc8, od8, .func (PySem.W.fnOf "_law_cell_at" "_law_cell_at" (defArgs s_law_cell_at) (defBody s_law_cell_at) (defScope s_law_cell_at) .none kV8 dc8 pm8 an8 cd8 ct8), sl8⟩) (c8 : PySem.W.codeIn K cd8 "_law_cell_at" = true) (k8 : PySem.W.keepIn K (.ref f8) = true)
    (a9 : PySem.W.nsIn K mainGlobals "law" = some (some (.ref f9))) (l9 : K.lookup f9 = some ⟨oc9, od9, .func (PySem.W.fnOf "law" "law" (defArgs s_law) (defBody s_law) (defScope s_law) .none kV9 dc9 pm9 an9 cd9 ct9), sl9⟩) (c9 : PySem.W.codeIn K cd9 "law" = true) (k9 : PySem.W.keepIn K (.ref f9) = true)
    (z_range : PySem.W.nsIn K mainGlobals "range" = some none)
    (z_len : PySem.W.nsIn K mainGlobals "len" = some none)
    (z_isinstance : PySem.W.nsIn K mainGlobals "isinstance" = some none)
    (z_int : PySem.W.nsIn K mainGlobals "int" = some none)
    (z_bool : PySem.W.nsIn K mainGlobals "bool" = some none)
    (z_tuple : PySem.W.nsIn K mainGlobals "tuple" = some none)
    (z_reversed : PySem.W.nsIn K mainGlobals "reversed" = some none)
    (z_sorted : PySem.W.nsIn K mainGlobals "sorted" = some none)
    (z_list : PySem.W.nsIn K mainGlobals "list" = some none)
    (z_min : PySem.W.nsIn K mainGlobals "min" = some none)
    (z_THINGS : PySem.W.nsIn K mainGlobals "THINGS" = some (some (Value.int 60 u_THINGS))) :
    ∃ fd : FuncData, (∀ (s : Shared) (v : Value), BindsTo s fd ⟨[v], []⟩ [("script", v)]) ∧ ∀ base : Heap, K.In base → base.Ns mainGlobals mg → FnOk l.prog w K mg base CX0 4 fa fd ["script"] (sp_law K) := by
  have e := hfa.symm.trans (PySem.W.mg_of X G a9)
  cases e
  have T : Tx K mg := ⟨PySem.W.mg_none_of X G z_range, PySem.W.mg_none_of X G z_len, PySem.W.mg_none_of X G z_isinstance, PySem.W.mg_none_of X G z_int, PySem.W.mg_none_of X G z_bool, PySem.W.mg_none_of X G z_tuple, PySem.W.mg_none_of X G z_reversed, PySem.W.mg_none_of X G z_sorted, PySem.W.mg_none_of X G z_list, PySem.W.mg_none_of X G z_min, ⟨_, PySem.W.mg_of X G z_THINGS⟩⟩
  have F0 := fun_mk (st := s_law_choices) l0 c0 k0
  have b0 := F0.binds (ps := ["a", "b"]) fun _ _ _ _ _ _ us hl => match us, hl with | [_, _], _ => rfl
  have F1 := fun_mk (st := s_law_sets) l1 c1 k1
  have b1 := F1.binds (ps := ["things", "size"]) fun _ _ _ _ _ _ us hl => match us, hl with | [_, _], _ => rfl
  have F2 := fun_mk (st := s_law_first) l2 c2 k2
  have b2 := F2.binds (ps := ["size", "many"]) fun _ _ _ _ _ _ us hl => match us, hl with | [_, _], _ => rfl
  have F3 := fun_mk (st := s_choices) l3 c3 k3
  have b3 := F3.binds (ps := ["a", "b"]) fun _ _ _ _ _ _ us hl => match us, hl with | [_, _], _ => rfl
  have F4 := fun_mk (st := s_set_at) l4 c4 k4
  have b4 := F4.binds (ps := ["size", "number"]) fun _ _ _ _ _ _ us hl => match us, hl with | [_, _], _ => rfl
  have F5 := fun_mk (st := s_first) l5 c5 k5
  have b5 := F5.binds (ps := ["size", "many"]) fun _ _ _ _ _ _ us hl => match us, hl with | [_, _], _ => rfl
  have F6 := fun_mk (st := s_law_whole) l6 c6 k6
  have b6 := F6.binds (ps := ["found"]) fun _ _ _ _ _ _ us hl => match us, hl with | [_], _ => rfl
  have F7 := fun_mk (st := s_law_is_sets) l7 c7 k7
  have b7 := F7.binds (ps := ["found", "due"]) fun _ _ _ _ _ _ us hl => match us, hl with | [_, _], _ => rfl
  have F8 := fun_mk (st := s_law_cell_at) l8 c8 k8
  have b8 := F8.binds (ps := ["script", "k"]) fun _ _ _ _ _ _ us hl => match us, hl with | [_, _], _ => rfl
  have F9 := fun_mk (st := s_law) l9 c9 k9
  refine ⟨PySem.W.fnOf "law" "law" (defArgs s_law) (defBody s_law) (defScope s_law) .none kV9 dc9 pm9 an9 cd9 ct9, fun s v => .of_eq rfl, fun base _ _ => ?_⟩
  have C0 : Cal l.prog w K mg base "_law_choices" 1 ["a", "b"] (sp_law_choices K) := cal_mk F0 (PySem.W.mg_of X G a0) b0 (ok_law_choices F0 T)
  have C1 : Cal l.prog w K mg base "_law_sets" 1 ["things", "size"] (sp_law_sets K) := cal_mk F1 (PySem.W.mg_of X G a1) b1 (ok_law_sets F1 T)
  have C2 : Cal l.prog w K mg base "_law_first" 2 ["size", "many"] (sp_law_first K) := cal_mk F2 (PySem.W.mg_of X G a2) b2 (ok_law_first F2 T C0 C1)
  have C3 : Cal l.prog w K mg base "choices" 1 ["a", "b"] (sp_choices K) := cal_mk F3 (PySem.W.mg_of X G a3) b3 (ok_choices F3 T)
  have C4 : Cal l.prog w K mg base "set_at" 2 ["size", "number"] (sp_set_at K) := cal_mk F4 (PySem.W.mg_of X G a4) b4 (ok_set_at F4 T C3)
  have C5 : Cal l.prog w K mg base "first" 3 ["size", "many"] (sp_first K) := cal_mk F5 (PySem.W.mg_of X G a5) b5 (ok_first F5 T C4)
  have C6 : Cal l.prog w K mg base "_law_whole" 1 ["found"] (sp_law_whole K) := cal_mk F6 (PySem.W.mg_of X G a6) b6 (ok_law_whole F6 T)
  have C7 : Cal l.prog w K mg base "_law_is_sets" 2 ["found", "due"] (sp_law_is_sets K) := cal_mk F7 (PySem.W.mg_of X G a7) b7 (ok_law_is_sets F7 T C6)
  have C8 : Cal l.prog w K mg base "_law_cell_at" 1 ["script", "k"] (sp_law_cell_at K) := cal_mk F8 (PySem.W.mg_of X G a8) b8 (ok_law_cell_at F8 T)
  exact ok_law F9 T C2 C5 C7 C8 C0
end SH
open PySem PySem.W PyProof.Rows
set_option maxRecDepth 100000 in
set_option maxHeartbeats 0 in
theorem PySem.Challenge.cw_shadowheaps_k06_first_sets_holds : PySem.Challenge.rw_shadowheaps_k06_first_sets.Holds := by
  w_on; o_law; k_head; (case hw => w_witness2)
  k_fill
  refine L2.walk_of (l := PySem.Challenge.rw_shadowheaps_k06_first_sets) (n := 63) (k := 4) (x := "script") (CX := fun _ => L2.CX0) (sp := fun w => SH.sp_law _) rfl (by decide) rfl ⟨rfl, by decide, by decide⟩ (fun w h Y => PySem.W.kIn_of Y) ?F (fun _ _ a ns hl _ hS => ⟨a, ns, rfl, hS, hl, fun _ => rfl⟩) (fun _ _ _ _ _ h => h)
  case F =>
    intro w mg fa h KX G hmg
    refine' SH.all_mk KX G hmg ?a0 ?l0 ?c0 ?k0 ?a1 ?l1 ?c1 ?k1 ?a2 ?l2 ?c2 ?k2 ?a3 ?l3 ?c3 ?k3 ?a4 ?l4 ?c4 ?k4 ?a5 ?l5 ?c5 ?k5 ?a6 ?l6 ?c6 ?k6 ?a7 ?l7 ?c7 ?k7 ?a8 ?l8 ?c8 ?k8 ?a9 ?l9 ?c9 ?k9 ?z_range ?z_len ?z_isinstance ?z_int ?z_bool ?z_tuple ?z_reversed ?z_sorted ?z_list ?z_min ?z_THINGS
    (case a0 => k_is)
    (case l0 => k_is)
    (case c0 => k_is)
    (case k0 => k_is)
    (case a1 => k_is)
    (case l1 => k_is)
    (case c1 => k_is)
    (case k1 => k_is)
    (case a2 => k_is)
    (case l2 => k_is)
    (case c2 => k_is)
    (case k2 => k_is)
    (case a3 => k_is)
    (case l3 => k_is)
    (case c3 => k_is)
    (case k3 => k_is)
    (case a4 => k_is)
    (case l4 => k_is)
    (case c4 => k_is)
    (case k4 => k_is)
    (case a5 => k_is)
    (case l5 => k_is)
    (case c5 => k_is)
    (case k5 => k_is)
    (case a6 => k_is)
    (case l6 => k_is)
    (case c6 => k_is)
    (case k6 => k_is)
    (case a7 => k_is)
    (case l7 => k_is)
    (case c7 => k_is)
    (case k7 => k_is)
    (case a8 => k_is)
    (case l8 => k_is)
    (case c8 => k_is)
    (case k8 => k_is)
    (case a9 => k_is)
    (case l9 => k_is)
    (case c9 => k_is)
    (case k9 => k_is)
    (case z_range => k_is)
    (case z_len => k_is)
    (case z_isinstance => k_is)
    (case z_int => k_is)
    (case z_bool => k_is)
    (case z_tuple => k_is)
    (case z_reversed => k_is)
    (case z_sorted => k_is)
    (case z_list => k_is)
    (case z_min => k_is)
    (case z_THINGS => k_is)
#print axioms PySem.Challenge.cw_shadowheaps_k06_first_sets_holds
