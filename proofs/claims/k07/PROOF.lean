import PyProof.Rows.All
import Wide.All
import OpenK.AllK
import Wide.FinOn
import HandS.ForMost
import HandS.Evl
import HandS.IsInst
import HandS.Wide
import HandS.TupAny
import HandS.Conv
import HandS.SortInts
import HandS.Deep
import PySem.Challenge.RW_shadowheaps_k07_heaps
set_option Elab.async false
set_option linter.all false
set_option maxHeartbeats 4000000
set_option maxRecDepth 100000
/-! readings that end in a value of which something is said -/
namespace SH
open PySem PySem.Spec PyProof.Rows L2 Evl

def EvP (te : TE) (sg : L2.St) (H : Hp) (P : V → Hp → Prop) : Prop :=
  ∀ H1, Ex H H1 → ∀ Q : VK, (∀ v H2, Ex H1 H2 → P v H2 → Q v H2) → te sg H1 Q
def EvAP (ta : TA) (sg : L2.St) (H : Hp) (P : List V → Hp → Prop) : Prop :=
  ∀ H1, Ex H H1 → ∀ Q : List V → Hp → Prop, (∀ vs H2, Ex H1 H2 → P vs H2 → Q vs H2) → ta sg H1 Q
def RVP (r : R2) (x y : V) (H : Hp) (P : V → Hp → Prop) : Prop :=
  ∀ H1, Ex H H1 → ∀ Q : VK, (∀ v H2, Ex H1 H2 → P v H2 → Q v H2) → r x y H1 Q
def RCP (r : List V → Hp → VK → Prop) (vs : List V) (H : Hp) (P : V → Hp → Prop) : Prop :=
  ∀ H1, Ex H H1 → ∀ Q : VK, (∀ v H2, Ex H1 H2 → P v H2 → Q v H2) → r vs H1 Q
/-- a promise's end -/
def RetP (P : V → Hp → Prop) (H : Hp) (Q : VK) : Prop := ∀ v H2, Ex H H2 → P v H2 → Q v H2
def SpP (sp : Sp) (vs : List V) (H : Hp) (P : V → Hp → Prop) : Prop :=
  ∀ H1, Ex H H1 → ∀ Q : VK, RetP P H1 Q → ∀ E : XK, sp vs H1 Q E
def Mono (P : V → Hp → Prop) : Prop := ∀ v H H', Ex H H' → P v H → P v H'

section
variable {K : PySem.W.Frag} {sg : L2.St} {H H' : Hp} {ta tb te tx : TE} {t u : TT} {x y z v : V} {r : R2} {P A B : V → Hp → Prop} {D : Ends} {tu tw tz : TS}
theorem RetP.go {Q : VK} (k : RetP P H Q) (e : Ex H H') : RetP P H' Q := fun v H2 e2 p => k v H2 (e.trans e2) p
theorem EvP.mono (e : Ex H H') (h : EvP te sg H P) : EvP te sg H' P := fun H1 a Q q => h H1 (e.trans a) Q q
theorem EvP.imp (h : EvP te sg H A) (k : ∀ v H2, Ex H H2 → A v H2 → P v H2) : EvP te sg H P := fun H1 e Q q =>
  h H1 e Q fun v H2 e2 p => q v H2 e2 (k v H2 (e.trans e2) p)
theorem EvAP.mono {ta : TA} {A : List V → Hp → Prop} (e : Ex H H') (h : EvAP ta sg H A) : EvAP ta sg H' A := fun H1 a Q q => h H1 (e.trans a) Q q
theorem ev_P (h : Ev te sg H v) (k : ∀ H2, Ex H H2 → P v H2) : EvP te sg H P := fun H1 e Q q =>
  h H1 e Q fun H2 e2 => q v H2 e2 (k H2 (e.trans e2))
theorem ev_M (m : Mono P) (h : Ev te sg H v) (k : P v H) : EvP te sg H P := ev_P h fun H2 e => m v H H2 e k
theorem el_P {xs : List V} (h : EvL te sg H xs) (k : ∀ p H2, H p = none → Ex H H2 → H2 p = some (.lst xs) → P (.ref p) H2) : EvP te sg H P := fun H1 e Q q =>
  h H1 e Q fun p H2 hp e2 h2 => q _ H2 e2 (k p H2 (fresh_back e hp) (e.trans e2) h2)
theorem eu_P {xs : List V} (h : EvU te sg H xs) (k : ∀ p H2, H p = none → Ex H H2 → H2 p = some (.tup xs) → P (.ref p) H2) : EvP te sg H P := fun H1 e Q q =>
  h H1 e Q fun p H2 hp e2 h2 => q _ H2 e2 (k p H2 (fresh_back e hp) (e.trans e2) h2)
theorem P_ev (h : EvP te sg H (fun w _ => w = v)) : Ev te sg H v := fun H1 e Q q =>
  h H1 e Q fun w H2 e2 p => by rw [p]; exact q H2 e2
theorem RV.toP (h : RV r x y H z) (k : ∀ H2, Ex H H2 → P z H2) : RVP r x y H P := fun H1 e Q q => h H1 e Q fun H2 e2 => q z H2 e2 (k H2 (e.trans e2))
theorem RVP.mono (e : Ex H H') (h : RVP r x y H P) : RVP r x y H' P := fun H1 a Q q => h H1 (e.trans a) Q q
/-- two operands, something is known of each -/
theorem evp_op (mA : Mono A) (ha : EvP ta sg H A) (hb : EvP tb sg H B) (hr : ∀ x y H1, Ex H H1 → A x H1 → B y H1 → RVP r x y H1 P) : EvP (tOp r ta tb) sg H P := fun H1 e Q q =>
  ha H1 e _ fun x H2 e2 a => hb H2 (e.trans e2) _ fun y H3 e3 b =>
    hr x y H3 ((e.trans e2).trans e3) (mA x H2 H3 e3 a) b H3 (Ex.refl H3) Q fun v H4 e4 p => q v H4 ((e2.trans e3).trans e4) p
theorem evp_opV (ha : Ev ta sg H x) (hb : Ev tb sg H y) (hr : RVP r x y H P) : EvP (tOp r ta tb) sg H P := fun H1 e Q q =>
  ha H1 e _ fun H2 e2 => hb H2 (e.trans e2) _ fun H3 e3 => hr H3 ((e.trans e2).trans e3) Q fun v H4 e4 p => q v H4 ((e2.trans e3).trans e4) p
/-- the right operand's reading may lean on what the left one laid -/
theorem evp_opD (mA : Mono A) (ha : EvP ta sg H A) (hb : ∀ x H1, Ex H H1 → A x H1 → EvP tb sg H1 B) (hr : ∀ x y H1, Ex H H1 → A x H1 → B y H1 → RVP r x y H1 P) : EvP (tOp r ta tb) sg H P := fun H1 e Q q =>
  ha H1 e _ fun x H2 e2 a => hb x H2 (e.trans e2) a H2 (Ex.refl H2) _ fun y H3 e3 b =>
    hr x y H3 ((e.trans e2).trans e3) (mA x H2 H3 e3 a) b H3 (Ex.refl H3) Q fun v H4 e4 p => q v H4 ((e2.trans e3).trans e4) p
theorem eap_nil : EvAP tNil sg H (fun vs _ => vs = []) := fun H1 _ Q q => q [] H1 (Ex.refl H1) rfl
theorem eap_cons {tr : TA} {C : List V → Hp → Prop} (mA : Mono A) (h : EvP te sg H A) (hr : EvAP tr sg H C) : EvAP (tCons te tr) sg H (fun vs H2 => ∃ x ys, vs = x :: ys ∧ A x H2 ∧ C ys H2) := fun H1 e Q q =>
  h H1 e _ fun x H2 e2 a => hr H2 (e.trans e2) _ fun ys H3 e3 c => q (x :: ys) H3 (e2.trans e3) ⟨x, ys, rfl, mA x H2 H3 e3 a, c⟩
theorem ea_P {ta : TA} {vs : List V} {C : List V → Hp → Prop} (h : EvA ta sg H vs) (k : ∀ H2, Ex H H2 → C vs H2) : EvAP ta sg H C := fun H1 e Q q =>
  h H1 e Q fun H2 e2 => q vs H2 e2 (k H2 (e.trans e2))
/-- a call: exact arguments; arguments of which something is known -/
theorem evp_call {sp : Sp} {dvs vs : List V} {E : XK} {ta : TA} (h : EvA ta sg H vs) (hs : SpP sp (vs ++ dvs) H P) : EvP (tCall sp dvs E ta) sg H P := fun H1 e Q q =>
  h H1 e _ fun H2 e2 => hs H2 (e.trans e2) Q (fun v H3 e3 p => q v H3 (e2.trans e3) p) E
theorem evp_callP {sp : Sp} {dvs : List V} {E : XK} {ta : TA} {C : List V → Hp → Prop} (h : EvAP ta sg H C) (hs : ∀ vs H1, Ex H H1 → C vs H1 → SpP sp (vs ++ dvs) H1 P) : EvP (tCall sp dvs E ta) sg H P := fun H1 e Q q =>
  h H1 e _ fun vs H2 e2 c => hs vs H2 (e.trans e2) c H2 (Ex.refl H2) Q (fun v H3 e3 p => q v H3 (e2.trans e3) p) E
theorem evp_cb {r : List V → Hp → VK → Prop} {ta : TA} {vs : List V} (h : EvA ta sg H vs) (hr : RCP r vs H P) : EvP (tCB r ta) sg H P := fun H1 e Q q =>
  h H1 e _ fun H2 e2 => hr H2 (e.trans e2) Q fun v H3 e3 p => q v H3 (e2.trans e3) p
theorem evp_cbP {r : List V → Hp → VK → Prop} {ta : TA} {C : List V → Hp → Prop} (h : EvAP ta sg H C) (hr : ∀ vs H1, Ex H H1 → C vs H1 → RCP r vs H1 P) : EvP (tCB r ta) sg H P := fun H1 e Q q =>
  h H1 e _ fun vs H2 e2 c => hr vs H2 (e.trans e2) c H2 (Ex.refl H2) Q fun v H3 e3 p => q v H3 (e2.trans e3) p
theorem SpP.ev {sp : Sp} {vs : List V} (h : SpP sp vs H (fun w _ => w = v)) : SpV sp vs H v := fun H1 e Q q E =>
  h H1 e Q (fun w H2 e2 p => by rw [p]; exact q H2 e2) E
/-- statements -/
theorem s_asgP {i : Nat} (h : EvP te sg H P) (k : ∀ v H1, Ex H H1 → P v H1 → D.nx (sg.set i (some v)) H1) : tAsg te (gName i) D sg H := h H (Ex.refl H) _ k
theorem q_asgP {i : Nat} (h : EvP te sg H P) (k : ∀ v H1, Ex H H1 → P v H1 → tz D (sg.set i (some v)) H1) : tSeq (tAsg te (gName i)) tz D sg H := s_asgP (D := { D with nx := tz D }) h k
theorem s_retP (h : EvP te sg H P) (k : ∀ v H1, Ex H H1 → P v H1 → D.rt v H1) : tRet te D sg H := h H (Ex.refl H) _ k
theorem s_dropP (h : EvP te sg H P) (k : ∀ v H1, Ex H H1 → P v H1 → D.nx sg H1) : tDrop te D sg H := h H (Ex.refl H) _ k
theorem q_dropP (h : EvP te sg H P) (k : ∀ v H1, Ex H H1 → P v H1 → tz D sg H1) : tSeq (tDrop te) tz D sg H := s_dropP (D := { D with nx := tz D }) h k
theorem q_next (k : tz D sg H) : tSeq tNext tz D sg H := k
/-- a test of a value of which something is known -/
theorem et_testP {b : Bool} (h : EvP te sg H (fun w _ => w = .bl b)) : EvT (tTest te) sg H b := et_test (P_ev h)

/-! ### what stands where -/
def IT (K : PySem.W.Frag) (xs : List Int) : V → Hp → Prop := fun v H => ∃ a, v = .ref a ∧ SqT K H a (xs.map V.int)
def IL (K : PySem.W.Frag) (ns : List Int) : V → Hp → Prop := fun v H => ∃ a, v = .ref a ∧ SqL K H a (ns.map V.int)
def ITs (K : PySem.W.Frag) (H : Hp) : List V → List (List Int) → Prop := Paired (fun v xs => IT K xs v H)
def ILT (K : PySem.W.Frag) (ts : List (List Int)) : V → Hp → Prop := fun v H => ∃ a vs, v = .ref a ∧ SqL K H a vs ∧ ITs K H vs ts
/-- the same, the list to be changed -/
def LI (p : Addr) (ns : List Int) (H : Hp) : Prop := H p = some (.lst (ns.map V.int))
def LT (K : PySem.W.Frag) (p : Addr) (ts : List (List Int)) (H : Hp) : Prop := ∃ vs, H p = some (.lst vs) ∧ ITs K H vs ts
theorem mono_IT {xs : List Int} : Mono (IT K xs) := fun v H H' e ⟨a, h1, h2⟩ => ⟨a, h1, ex_t e h2⟩
theorem mono_IL {xs : List Int} : Mono (IL K xs) := fun v H H' e ⟨a, h1, h2⟩ => ⟨a, h1, ex_l e h2⟩
theorem ITs.mapR {H H' : Hp} (k : ∀ v xs, IT K xs v H → IT K xs v H') : ∀ {vs : List V} {ts : List (List Int)}, ITs K H vs ts → ITs K H' vs ts
  | _, _, .nil => .nil
  | _, _, .cons a b => .cons (k _ _ a) (ITs.mapR k b)
theorem ITs.ex {vs : List V} {ts : List (List Int)} (e : Ex H H') (h : ITs K H vs ts) : ITs K H' vs ts := h.mapR fun v xs => mono_IT v H H' e
theorem mono_ILT {ts : List (List Int)} : Mono (ILT K ts) := fun v H H' e ⟨a, vs, h1, h2, h3⟩ => ⟨a, vs, h1, ex_l e h2, h3.ex e⟩
theorem mono_is {w : V} : Mono (fun v _ => v = w) := fun v H H' e h => h
theorem LT.ex {p : Addr} {ts : List (List Int)} (e : Ex H H') (h : LT K p ts H) : LT K p ts H' := let ⟨vs, a, b⟩ := h; ⟨vs, e p _ a, b.ex e⟩
theorem LI.ex {p : Addr} {ns : List Int} (e : Ex H H') (h : LI p ns H) : LI p ns H' := e p _ h
/-- a tuple stays where a list is changed -/
theorem IT.upd {p : Addr} {us ws : List V} {xs : List Int} (hp : H p = some (.lst us)) (h : IT K xs v H) : IT K xs v (upd H p (.lst ws)) := by
  obtain ⟨a, h1, h2⟩ := h
  refine ⟨a, h1, ?_⟩
  rcases h2 with (h2 | ⟨o, h2⟩) | h2
  · exact Or.inl (Or.inl (by rw [upd_ne (ne_of h2 hp (fun z => nomatch z))]; exact h2))
  · exact Or.inl (Or.inr ⟨o, by rw [upd_ne (ne_of h2 hp (fun z => nomatch z))]; exact h2⟩)
  · exact Or.inr h2
theorem ITs.upd {p : Addr} {us ws zs : List V} {ts : List (List Int)} (hp : H p = some (.lst us)) (h : ITs K H zs ts) : ITs K (upd H p (.lst ws)) zs ts := h.mapR fun _ _ q => q.upd hp
theorem LT.ne {p q : Addr} {us ws : List V} {ts : List (List Int)} (hq : H q = some (.lst us)) (hn : p ≠ q) (h : LT K p ts H) : LT K p ts (L2.upd H q (.lst ws)) :=
  let ⟨vs, a, b⟩ := h; ⟨vs, by rw [upd_ne hn]; exact a, b.upd hq⟩
theorem LI.ne {p q : Addr} {o : HO} {ns : List Int} (hn : p ≠ q) (h : LI p ns H) : LI p ns (L2.upd H q o) := by
  unfold LI
  rw [upd_ne hn]
  exact h
theorem ITs.length {vs : List V} {ts : List (List Int)} (h : ITs K H vs ts) : vs.length = ts.length := Paired.length h
theorem ITs.app : ∀ {vs ws : List V} {ts us : List (List Int)}, ITs K H vs ts → ITs K H ws us → ITs K H (vs ++ ws) (ts ++ us)
  | _, _, _, _, .nil, s => s
  | _, _, _, _, .cons a b, s => .cons a (ITs.app b s)
theorem ITs.get : ∀ {vs : List V} {ts : List (List Int)} {i : Nat} {xs : List Int}, ITs K H vs ts → ts[i]? = some xs → ∃ v, vs[i]? = some v ∧ IT K xs v H
  | _, _, _, _, .nil, e => by simp at e
  | _, _, 0, _, .cons a _, e => by simp at e; subst e; exact ⟨_, rfl, a⟩
  | _, _, i + 1, _, .cons _ b, e => by
    obtain ⟨v, h1, h2⟩ := ITs.get (i := i) b (by simpa using e)
    exact ⟨v, by simpa using h1, h2⟩
theorem ITs.getV : ∀ {vs : List V} {ts : List (List Int)} {i : Nat} {v : V}, ITs K H vs ts → vs[i]? = some v → ∃ xs, ts[i]? = some xs ∧ IT K xs v H
  | _, _, _, _, .nil, e => by simp at e
  | _, _, 0, _, .cons a _, e => by simp at e; subst e; exact ⟨_, rfl, a⟩
  | _, _, i + 1, _, .cons _ b, e => by
    obtain ⟨v, h1, h2⟩ := ITs.getV (i := i) b (by simpa using e)
    exact ⟨v, by simpa using h1, h2⟩
theorem ITs.take : ∀ {vs : List V} {ts : List (List Int)} (n : Nat), ITs K H vs ts → ITs K H (vs.take n) (ts.take n)
  | _, _, 0, _ => .nil
  | _, _, _ + 1, .nil => .nil
  | _, _, n + 1, .cons a b => .cons a (ITs.take n b)
theorem ITs.drop : ∀ {vs : List V} {ts : List (List Int)} (n : Nat), ITs K H vs ts → ITs K H (vs.drop n) (ts.drop n)
  | _, _, 0, h => h
  | _, _, _ + 1, .nil => .nil
  | _, _, n + 1, .cons _ b => ITs.drop n b
theorem ITs.rev {vs : List V} {ts : List (List Int)} (h : ITs K H vs ts) : ITs K H vs.reverse ts.reverse := by
  induction h with
  | nil => exact .nil
  | cons a b ih =>
    rw [List.reverse_cons, List.reverse_cons]
    exact ih.app (.cons a .nil)
theorem LT.app {p : Addr} {us : List V} {ts : List (List Int)} {xs : List Int} (hp : H p = some (.lst us)) (h : ITs K H us ts) (hv : IT K xs v H) : LT K p (ts ++ [xs]) (L2.upd H p (.lst (us ++ [v]))) :=
  ⟨us ++ [v], upd_same, (h.app (.cons hv .nil)).upd hp⟩
/-- an item of a tuple of ints -/
theorem at_int {ns : List Int} {i : Int} {j : Nat} {n : Int} (e : i = (j : Int)) (h : ns[j]? = some n) : atI (ns.map V.int) i = some (.int n) :=
  at_of e (by rw [List.getElem?_map, h]; rfl)
end
end SH

/-! a def with its promise by name; the module's constants; loops and comprehensions in the words of ShA -/
namespace SH
open PySem PySem.Spec PyProof.Rows L2 Evl

/-- a def that stands under its own name and keeps its promise -/
def Cal (P : Program) (w : World) (K : PySem.W.Frag) (mg : Str → Option Value) (base : Heap) (x : Str) (k : Nat) (ps : List Str) (sp : Sp) : Prop :=
  ∃ f fd, mg x = some (.ref f) ∧ PySem.W.keepIn K (.ref f) = true ∧ Binds K fd ps [] ∧ FnOk P w K mg base CX0 k f fd ps sp
theorem cal_mk {P : Program} {w : World} {K : PySem.W.Frag} {mg : Str → Option Value} {base : Heap} {x q : Str} {st : Stmt} {f : Addr} {fd : FuncData} {k : Nat} {ps : List Str} {sp : Sp}
    (F : Fun K x q st f fd) (g : mg x = some (.ref f)) (b : Binds K fd ps []) (o : FnOk P w K mg base CX0 k f fd ps sp) : Cal P w K mg base x k ps sp := ⟨f, fd, g, F.kp, b, o⟩
section
variable {X : Cx} {x : Str} {p pos : Pos} {e : Expr} {es : List Expr} {t : TA} {k j : Nat} {ps : List Str} {sp : Sp}
theorem pe_cal (c : Cal X.prog X.w X.K X.mg X.base x k ps sp) (hr : Room k X.A) (hg : Gl X x) (ha : PA X (e :: es) t) (hdb : (x == ("__debug__" : Str)) = false := by decide)
    (he : starEach (e :: es) X.env = (false, eval e X.env) :: starEach es X.env := by rfl) (hpl : (backTo pos (starEach es X.env)).any (·.1) = false := by rfl) :
    PE X (.Call (.Name x p) (e :: es) [] pos) (tCall sp [] E0 t) := by
  obtain ⟨f, fd, g, kp, b, o⟩ := c
  exact pe_call o hr hg g kp b .nil pass0 ha hdb he hpl
theorem pe_gi {n : Int} (h : ∃ u, X.mg x = some (Value.int n u)) (hg : Gl X x) (hd : (x == ("__debug__" : Str)) = false := by decide) : PE X (.Name x p) (tC (.int n)) := by
  obtain ⟨u, h⟩ := h
  exact pe_glob hg h ⟨_, rfl⟩ hd
theorem pe_gs {z : Str} (h : ∃ u, X.mg x = some (Value.str z u)) (hg : Gl X x) (hd : (x == ("__debug__" : Str)) = false := by decide) : PE X (.Name x p) (tC (.str z)) := by
  obtain ⟨u, h⟩ := h
  exact pe_glob hg h ⟨_, rfl⟩ hd
theorem pi_listK {K : PySem.W.Frag} {tg l : Expr} {tl : TE} (hl : PE X l tl) (hK : X.K = K := by rfl) : PI X tg l (iList K tl) := by
  subst hK
  exact pi_list hl
theorem pi_tupK {K : PySem.W.Frag} {tg l : Expr} {tl : TE} (hl : PE X l tl) (hK : X.K = K := by rfl) : PI X tg l (iTup K tl) := by
  subst hK
  exact pi_tup hl
def rJoin (K : PySem.W.Frag) : V → List V → Hp → VK → Prop := fun x xs H Q => ∃ a p, ∃ ys : List Str, x = .str a ∧ xs = [.ref p] ∧ (SqL K H p (ys.map V.str) ∨ SqT K H p (ys.map V.str)) ∧
  (ys.map (·.length)).sum + ys.length * a.length ≤ 16777216 ∧ Q (.str (Txt.join a ys)) H
theorem pe_joinK {K : PySem.W.Frag} {o : Expr} {to te : TE} {apos : Pos} (ho : PE X o to) (he : PE X e te) (hK : X.K = K := by rfl) (hs : starEach [e] X.env = [(false, eval e X.env)] := by rfl) (hbase : attributeBase o "join" X.env (eval o X.env) = eval o X.env := by rfl) (hline : (apos.endLine == pos.line) = true := by rfl) :
    PE X (.Call (.Attribute o "join" apos) [e] [] pos) (tM1 (rJoin K) to te) := by
  subst hK
  exact pe_join ho he hs hbase hline
end
theorem un65 {k : Nat} {A : Around} (r : Room k A) : A.units + 65 < cLine := by
  have := r.un
  omega
/-- the module's ints -/
theorem gi_of {K : PySem.W.Frag} {h : Heap} {mg : Str → Option Value} {x : Str} {n : Int} {u : Tok} (X : K.In h) (G : h.Ns mainGlobals mg) (a : PySem.W.nsIn K mainGlobals x = some (some (.int n u))) : ∃ u, mg x = some (Value.int n u) :=
  ⟨u, PySem.W.mg_of X G a⟩

section
variable {K : PySem.W.Frag} {sg : L2.St} {H H' : Hp} {ta tb te tx tl : TE} {t : TT} {x y z v : V} {r : R2} {P A B : V → Hp → Prop} {D : Ends} {tu tw tz : TS}
theorem ev_cal {sp : Sp} {vs : List V} {E : XK} {ta : TA} (h : EvA ta sg H vs) (hs : SpV sp vs H z) : Ev (tCall sp [] E ta) sg H z := ev_call h (by rw [List.append_nil]; exact hs)
theorem el_cal {sp : Sp} {vs xs : List V} {E : XK} {ta : TA} (h : EvA ta sg H vs) (hs : SpL sp vs H xs) : EvL (tCall sp [] E ta) sg H xs := el_call h (by rw [List.append_nil]; exact hs)
theorem evp_cal {sp : Sp} {vs : List V} {E : XK} {ta : TA} (h : EvA ta sg H vs) (hs : SpP sp vs H P) : EvP (tCall sp [] E ta) sg H P := evp_call h (by rw [List.append_nil]; exact hs)
theorem given_all (n : Nat) (f : Nat → V) : given n (fun _ => true) f = (List.range n).map f := by
  unfold given
  rw [List.filter_eq_self.mpr (fun _ _ => rfl)]
theorem et_yes : EvT tYes sg H true := fun H1 _ Q q => q H1 (Ex.refl H1)
/-! ### operators -/
theorem rv_div {i j : Int} (h : 0 < j ∧ j < 2 ^ 64) : RV (rI CDivW fun i j => .int (i / j)) (.int i) (.int j) H (.int (i / j)) :=
  rv_I (wide_div (b := 64) h.1 (by omega) (by decide) (by decide))
theorem rv_mul {i j : Int} (a b : Nat) (ha : i.natAbs < 2 ^ a) (hb : j.natAbs < 2 ^ b) (h : a + b ≤ 1000000 := by decide) (h0 : 0 < a := by decide) (h1 : 0 < b := by decide) :
    RV (rI CMulW fun i j => .int (i * j)) (.int i) (.int j) H (.int (i * j)) := rv_I (wide_mul ha hb h0 h1 h)
theorem rv_mod {i j : Int} (h : 0 < j) : RV (rI (fun _ j => 0 < j) fun i j => .int (i % j)) (.int i) (.int j) H (.int (i % j)) := rv_I h
theorem rv_pow {i j : Int} (h : CPow i j) : RV (rI CPow fun i j => .int (i ^ j.toNat)) (.int i) (.int j) H (.int (i ^ j.toNat)) := rv_I h
/-- + of two lists just laid -/
theorem el_cat {xs ys : List V} (ha : EvL ta sg H xs) (hb : EvL tb sg H ys) (hz : xs.length + ys.length ≤ 100000) : EvL (tOp rCat ta tb) sg H (xs ++ ys) := fun H1 e Q q =>
  ha H1 e _ fun l H2 hl e2 h2 => hb H2 (e.trans e2) _ fun b H3 hb3 e3 h3 =>
    ⟨l, b, xs, ys, rfl, rfl, e3 l _ h2, h3, sz_of hz, fun p hp => q p _ (fresh_back (e2.trans e3) hp) ((e2.trans e3).trans (Ex.new hp)) upd_same⟩
/-- + of two lists that stand -/
theorem el_catV {a b : Addr} {xs ys : List V} (ha : Ev ta sg H (.ref a)) (hb : Ev tb sg H (.ref b)) (h1 : H a = some (.lst xs)) (h2 : H b = some (.lst ys)) (hz : xs.length + ys.length ≤ 100000) : EvL (tOp rCat ta tb) sg H (xs ++ ys) := fun H1 e Q q =>
  ha H1 e _ fun H2 e2 => hb H2 (e.trans e2) _ fun H3 e3 =>
    ⟨a, b, xs, ys, rfl, rfl, ((e.trans e2).trans e3) a _ h1, ((e.trans e2).trans e3) b _ h2, sz_of hz, fun p hp => q p _ (fresh_back (e2.trans e3) hp) ((e2.trans e3).trans (Ex.new hp)) upd_same⟩
/-- len of a list or a tuple -/
theorem ev_lenT {p : Addr} {xs : List V} (ha : Ev ta sg H (.ref p)) (h : SqT K H p xs) : Ev (tCB (rLenS K) (tCons ta tNil)) sg H (.int (xs.length : Int)) := fun H1 e Q q =>
  ha H1 e _ fun H2 e2 => ⟨p, xs, rfl, Or.inr (ex_t (e.trans e2) h), q H2 e2⟩
theorem ev_min2 {i j : Int} (ha : Ev ta sg H (.int i)) (hb : Ev tb sg H (.int j)) : Ev (tCB (fun xs H Q => ∃ i j, xs = [.int i, .int j] ∧ Q (.int (if j < i then j else i)) H) (tCons ta (tCons tb tNil))) sg H (.int (min i j)) := fun H1 e Q q =>
  ha H1 e _ fun H2 e2 => hb H2 (e.trans e2) _ fun H3 e3 => ⟨i, j, rfl, by
    have h := q H3 (e2.trans e3)
    have em : min i j = if j < i then j else i := by
      split <;> omega
    rw [em] at h
    exact h⟩
theorem ev_maxx {i j : Int} (ha : Ev ta sg H (.int i)) (hb : Ev tb sg H (.int j)) : Ev (tCB (fun xs H Q => ∃ i j, xs = [.int i, .int j] ∧ Q (.int (if j > i then j else i)) H) (tCons ta (tCons tb tNil))) sg H (.int (max i j)) := fun H1 e Q q =>
  ha H1 e _ fun H2 e2 => hb H2 (e.trans e2) _ fun H3 e3 => ⟨i, j, rfl, by
    have h := q H3 (e2.trans e3)
    have em : max i j = if j > i then j else i := by
      split <;> omega
    rw [em] at h
    exact h⟩
/-- isinstance of a value against a built-in class -/
theorem ev_isi {a b : String} {k : Bool} (ha : Ev ta sg H x) (hx : ∀ H1, Ex H H1 → TyX K H1 x (.type a)) (hk : kitB a b = some k) : Ev (tCB (rIsi K) (tCons ta (tCons (tC (.ty b)) tNil))) sg H (.bl k) := fun H1 e Q q =>
  ha H1 e _ fun H2 e2 => ⟨x, .ty b, .type a, .type b, k, rfl, .ty b, hx H2 (e.trans e2), kit_ty hk, q H2 e2⟩
/-! ### loops whose counted name goes down or by steps -/
theorem s_forR3 {ta : TA} {j : Nat} {lo hi c : Int} {n : Nat} (h : EvA ta sg H [.int lo, .int hi, .int c]) (hn : RgC lo hi c n) (Pv : Nat → L2.St → Hp → Prop) (h0 : ∀ H1, Ex H H1 → Pv 0 sg H1)
    (hs : ∀ (i : Nat) s' H', i < n → Pv i s' H' → tu { D with nx := Pv (i + 1), ct := Pv (i + 1), bk := D.nx } (s'.set j (some (.int (lo + (i : Nat) * c)))) H') (hd : ∀ s' H', Pv n s' H' → D.nx s' H') : tFor (iRng3 ta) (gName j) tu D sg H :=
  h H (Ex.refl H) _ fun H1 e => ⟨lo, hi, c, n, rfl, hn, for_rangeC (lo := lo) (c := c) (n := n) Pv (h0 H1 e) (fun i s' H' q p => hs i s' H' q p) hd⟩
theorem q_forR3 {ta : TA} {j : Nat} {lo hi c : Int} {n : Nat} (h : EvA ta sg H [.int lo, .int hi, .int c]) (hn : RgC lo hi c n) (Pv : Nat → L2.St → Hp → Prop) (h0 : ∀ H1, Ex H H1 → Pv 0 sg H1)
    (hs : ∀ (i : Nat) s' H', i < n → Pv i s' H' → tu { D with nx := Pv (i + 1), ct := Pv (i + 1), bk := tz D } (s'.set j (some (.int (lo + (i : Nat) * c)))) H') (hd : ∀ s' H', Pv n s' H' → tz D s' H') : tSeq (tFor (iRng3 ta) (gName j) tu) tz D sg H :=
  s_forR3 (D := { D with nx := tz D }) h hn Pv h0 hs hd
/-- over a tuple, the target a name -/
theorem s_forTn {a : Addr} {xs : List V} {tl : TE} {j : Nat} (h : Ev tl sg H (.ref a)) (hx : SqT K H a xs) (Pv : Nat → L2.St → Hp → Prop) (h0 : ∀ H1, Ex H H1 → Pv 0 sg H1) (hl : ∀ i s' H', i ≤ xs.length → Pv i s' H' → SqT K H' a xs)
    (hs : ∀ i x s' H', xs[i]? = some x → Pv i s' H' → tu { D with nx := Pv (i + 1), ct := Pv (i + 1), bk := D.nx } (s'.set j (some x)) H') (hd : ∀ s' H', Pv xs.length s' H' → D.nx s' H') : tFor (iTup K tl) (gName j) tu D sg H :=
  s_forT h hx Pv h0 hl hs hd
theorem q_forTn {a : Addr} {xs : List V} {tl : TE} {j : Nat} (h : Ev tl sg H (.ref a)) (hx : SqT K H a xs) (Pv : Nat → L2.St → Hp → Prop) (h0 : ∀ H1, Ex H H1 → Pv 0 sg H1) (hl : ∀ i s' H', i ≤ xs.length → Pv i s' H' → SqT K H' a xs)
    (hs : ∀ i x s' H', xs[i]? = some x → Pv i s' H' → tu { D with nx := Pv (i + 1), ct := Pv (i + 1), bk := tz D } (s'.set j (some x)) H') (hd : ∀ s' H', Pv xs.length s' H' → tz D s' H') : tSeq (tFor (iTup K tl) (gName j) tu) tz D sg H :=
  q_forT h hx Pv h0 hl hs hd
/-! ### a comprehension whose elements are told by a word -/
/-- ys: what the turns have given so far, told by W of the turn -/
def CwP (H : Hp) (W : Nat → List V → Hp → Prop) (Dl : Addr) (i : Nat) (H' : Hp) : Prop := H Dl = none ∧ Ex H H' ∧ ∃ ys, H' Dl = some (.lst ys) ∧ ys.length ≤ i ∧ W i ys H'
/-- a word of values that stays while heaps grow and while the list at another place changes -/
structure WMono (H : Hp) (W : Nat → List V → Hp → Prop) : Prop where
  ex : ∀ i ys H1 H2, Ex H1 H2 → W i ys H1 → W i ys H2
  upd : ∀ i ys H1 p us ws, H1 p = some (.lst us) → H p = none → W i ys H1 → W i ys (L2.upd H1 p (.lst ws))
theorem cwp_turn {W : Nat → List V → Hp → Prop} {Dl : Addr} {i : Nat} {s2 : L2.St} {b : Bool} (m : WMono H W) (p : CwP H W Dl i H') (hi : i < 50000) (ht : EvT t s2 H b)
    (he : b = true → ∀ ys H1, Ex H H1 → W i ys H1 → EvP te s2 H1 (fun y H2 => W (i + 1) (ys ++ [y]) H2)) (hn : b = false → ∀ ys H1, W i ys H1 → W (i + 1) ys H1) :
    t s2 H' fun b H3 => if b = true then te s2 H3 fun y H4 => ∃ acc, H4 Dl = some (.lst acc) ∧ acc.length < sizeLine ∧ CwP H W Dl (i + 1) (L2.upd H4 Dl (.lst (acc ++ [y]))) else CwP H W Dl (i + 1) H3 := by
  obtain ⟨p1, p2, ys, p3, p4, p5⟩ := p
  refine ht H' p2 _ fun H3 e3 => ?_
  have w3 := m.ex _ _ _ _ e3 p5
  cases b with
  | true =>
    show te s2 H3 fun y H4 => ∃ acc, H4 Dl = some (.lst acc) ∧ acc.length < sizeLine ∧ CwP H W Dl (i + 1) (L2.upd H4 Dl (.lst (acc ++ [y])))
    refine he rfl ys H3 (p2.trans e3) w3 H3 (Ex.refl H3) _ fun y H4 e4 q => ⟨ys, e4 Dl _ (e3 Dl _ p3), sz_lt (by omega), p1, Ex.mut ((p2.trans e3).trans e4) p1, ys ++ [y], upd_same, ?_, ?_⟩
    · rw [List.length_append, List.length_singleton]
      omega
    · exact m.upd _ _ _ _ _ _ (e4 Dl _ (e3 Dl _ p3)) p1 q
  | false =>
    show CwP H W Dl (i + 1) H3
    exact ⟨p1, p2.trans e3, ys, e3 Dl _ p3, by omega, hn rfl ys H3 w3⟩
/-- what a comprehension hands back -/
def LcR (H : Hp) (W : List V → Hp → Prop) : V → Hp → Prop := fun v H2 => ∃ p ys, v = .ref p ∧ H p = none ∧ H2 p = some (.lst ys) ∧ W ys H2
theorem evp_lcR1 {ta : TA} {j : Nat} {vs : List Nat} {n : Int} (f : Nat → Bool) (W : Nat → List V → Hp → Prop) (m : ∀ H1, Ex H H1 → WMono H1 W) (h : EvA ta sg H [.int n]) (hn : 0 ≤ n ∧ n ≤ 40000) (hw : ∀ x, wipe ((wipe sg vs).set j (some x)) vs = wipe sg vs)
    (h0 : ∀ H1, Ex H H1 → W 0 [] H1) (ht : ∀ (i : Nat) H1, Ex H H1 → (i : Int) < n → EvT t ((wipe sg vs).set j (some (.int (i : Int)))) H1 (f i))
    (he : ∀ (i : Nat) ys H1, Ex H H1 → (i : Int) < n → f i = true → W i ys H1 → EvP te ((wipe sg vs).set j (some (.int (i : Int)))) H1 (fun y H2 => W (i + 1) (ys ++ [y]) H2))
    (hf : ∀ (i : Nat) ys H1, (i : Int) < n → f i = false → W i ys H1 → W (i + 1) ys H1) :
    EvP (tLc (iRng1 ta) (gName j) t te vs) sg H (LcR H (W n.toNat)) := fun H0 e Q q => h H0 e _ fun H1 e1 => ⟨n, rfl, by omega, by omega, fun Dl hD =>
  lc_range (lo := 0) (n := n.toNat) (CwP H1 W Dl) ⟨hD, Ex.new hD, [], upd_same, Nat.le_refl _, h0 _ ((e.trans e1).trans (Ex.new hD))⟩ (fun i H' hi p => by
    have e0 : (0 : Int) + (i : Int) = (i : Int) := Int.zero_add _
    show wipe ((wipe sg vs).set j (some (.int ((0 : Int) + (i : Int))))) vs = wipe sg vs ∧ t ((wipe sg vs).set j (some (.int ((0 : Int) + (i : Int))))) H' fun b H3 => if b = true then te ((wipe sg vs).set j (some (.int ((0 : Int) + (i : Int))))) H3 fun y H4 => ∃ acc, H4 Dl = some (.lst acc) ∧ acc.length < sizeLine ∧ CwP H1 W Dl (i + 1) (L2.upd H4 Dl (.lst (acc ++ [y]))) else CwP H1 W Dl (i + 1) H3
    rw [e0]
    exact ⟨hw _, cwp_turn (m H1 (e.trans e1)) p (by omega) (ht i H1 (e.trans e1) (by omega)) (fun hb ys H2 e2 w => he i ys H2 ((e.trans e1).trans e2) (by omega) hb w) (fun hb ys H2 w => hf i ys H2 (by omega) hb w)⟩) (fun H' p => by
    obtain ⟨p1, p2, ys, p3, _, p5⟩ := p
    exact q _ H' (e1.trans p2) ⟨Dl, ys, rfl, fresh_back (e.trans e1) p1, p3, p5⟩)⟩
theorem evp_lcL {a : Addr} {xs : List V} {j : Nat} {vs : List Nat} (f : Nat → Bool) (W : Nat → List V → Hp → Prop) (m : ∀ H1, Ex H H1 → WMono H1 W) (h : Ev tl sg H (.ref a)) (hx : SqL K H a xs) (hz : xs.length ≤ 40000) (hw : ∀ x, wipe ((wipe sg vs).set j (some x)) vs = wipe sg vs)
    (h0 : ∀ H1, Ex H H1 → W 0 [] H1) (ht : ∀ (i : Nat) (x : V) H1, Ex H H1 → xs[i]? = some x → EvT t ((wipe sg vs).set j (some x)) H1 (f i))
    (he : ∀ (i : Nat) (x : V) ys H1, Ex H H1 → xs[i]? = some x → f i = true → W i ys H1 → EvP te ((wipe sg vs).set j (some x)) H1 (fun y H2 => W (i + 1) (ys ++ [y]) H2))
    (hf : ∀ (i : Nat) ys H1, i < xs.length → f i = false → W i ys H1 → W (i + 1) ys H1) :
    EvP (tLc (iList K tl) (gName j) t te vs) sg H (LcR H (W xs.length)) := fun H0 e Q q => h H0 e _ fun H1 e1 => ⟨a, rfl, ⟨xs, ex_l (e.trans e1) hx⟩, fun Dl hD =>
  lc_list (xs := xs) (CwP H1 W Dl) ⟨hD, Ex.new hD, [], upd_same, Nat.le_refl _, h0 _ ((e.trans e1).trans (Ex.new hD))⟩ (fun i H' _ p => ex_l ((e.trans e1).trans p.2.1) hx) (fun i x H' hi p =>
    have hl : i < xs.length := (List.getElem?_eq_some_iff.mp hi).1
    ⟨hw x, cwp_turn (m H1 (e.trans e1)) p (by omega) (ht i x H1 (e.trans e1) hi) (fun hb ys H2 e2 w => he i x ys H2 ((e.trans e1).trans e2) hi hb w) (fun hb ys H2 w => hf i ys H2 hl hb w)⟩) (fun H' p => by
    obtain ⟨p1, p2, ys, p3, _, p5⟩ := p
    exact q _ H' (e1.trans p2) ⟨Dl, ys, rfl, fresh_back (e.trans e1) p1, p3, p5⟩)⟩
end
end SH

/-! lists and tuples of ints, lists of such tuples, as data: ==, in -/
namespace SH
open PySem PySem.Spec PyProof.Rows L2 Evl
def dI (ns : List Int) : List PyData := ns.map .int
def dT (ns : List Int) : PyData := .tuple (dI ns)
def dLI (ns : List Int) : PyData := .list (dI ns)
def dLT (ts : List (List Int)) : PyData := .list (ts.map dT)
def dLB (bs : List Bool) : PyData := .list (bs.map .bool)
theorem eqvAll_I : ∀ xs ys : List Int, PyData.eqvAll (dI xs) (dI ys) = decide (xs = ys)
  | [], [] => by simp [dI, PyData.eqvAll]
  | [], y :: ys => by simp [dI, PyData.eqvAll]
  | x :: xs, [] => by simp [dI, PyData.eqvAll]
  | x :: xs, y :: ys => by
    show (PyData.eqv (.int x) (.int y) && PyData.eqvAll (dI xs) (dI ys)) = _
    rw [eqvAll_I xs ys]
    simp only [PyData.eqv]
    by_cases h : x = y <;> by_cases h2 : xs = ys <;> simp [h, h2]
theorem eqv_T (xs ys : List Int) : PyData.eqv (dT xs) (dT ys) = decide (xs = ys) := by
  show PyData.eqv (.tuple (dI xs)) (.tuple (dI ys)) = _
  simp only [PyData.eqv]
  exact eqvAll_I xs ys
theorem eqv_LI (xs ys : List Int) : PyData.eqv (dLI xs) (dLI ys) = decide (xs = ys) := by
  show PyData.eqv (.list (dI xs)) (.list (dI ys)) = _
  simp only [PyData.eqv]
  exact eqvAll_I xs ys
theorem eqvAll_T : ∀ xs ys : List (List Int), PyData.eqvAll (xs.map dT) (ys.map dT) = decide (xs = ys)
  | [], [] => by simp [PyData.eqvAll]
  | [], y :: ys => by simp [PyData.eqvAll]
  | x :: xs, [] => by simp [PyData.eqvAll]
  | x :: xs, y :: ys => by
    show (PyData.eqv (dT x) (dT y) && PyData.eqvAll (xs.map dT) (ys.map dT)) = _
    rw [eqvAll_T xs ys, eqv_T]
    by_cases h : x = y <;> by_cases h2 : xs = ys <;> simp [h, h2]
theorem eqv_LT (xs ys : List (List Int)) : PyData.eqv (dLT xs) (dLT ys) = decide (xs = ys) := by
  show PyData.eqv (.list (xs.map dT)) (.list (ys.map dT)) = _
  simp only [PyData.eqv]
  exact eqvAll_T xs ys
theorem eqvAll_B : ∀ xs ys : List Bool, PyData.eqvAll (xs.map .bool) (ys.map .bool) = decide (xs = ys)
  | [], [] => by simp [PyData.eqvAll]
  | [], y :: ys => by simp [PyData.eqvAll]
  | x :: xs, [] => by simp [PyData.eqvAll]
  | x :: xs, y :: ys => by
    show (PyData.eqv (.bool x) (.bool y) && PyData.eqvAll (xs.map .bool) (ys.map .bool)) = _
    rw [eqvAll_B xs ys]
    simp only [PyData.eqv]
    cases x <;> cases y <;> by_cases h2 : xs = ys <;> simp [h2]
theorem eqv_LB (xs ys : List Bool) : PyData.eqv (dLB xs) (dLB ys) = decide (xs = ys) := by
  show PyData.eqv (.list (xs.map .bool)) (.list (ys.map .bool)) = _
  simp only [PyData.eqv]
  exact eqvAll_B xs ys
theorem lay_I : ∀ xs : List Int, PyData.canLayAll0 (dI xs) = true
  | [] => by simp [dI, PyData.canLayAll0]
  | x :: xs => by
    have ih := lay_I xs
    show (PyData.canLay0 (.int x) && PyData.canLayAll0 (dI xs)) = true
    rw [ih]
    simp [PyData.canLay0]
theorem dep_I : ∀ xs : List Int, PyData.depthAll (dI xs) = 0
  | [] => by simp [dI, PyData.depthAll]
  | x :: xs => by
    have ih := dep_I xs
    show max (PyData.depth (.int x)) (PyData.depthAll (dI xs)) = 0
    rw [ih]
    simp [PyData.depth]
theorem sh_T (xs : List Int) : SeqAt.shaped (dT xs) = true := by
  unfold SeqAt.shaped dT
  simp [PyData.canLay0, PyData.depth, lay_I, dep_I]
theorem sh_LI (xs : List Int) : SeqAt.shaped (dLI xs) = true := by
  unfold SeqAt.shaped dLI
  simp [PyData.canLay0, PyData.depth, lay_I, dep_I]
theorem lay_LT : ∀ xs : List (List Int), PyData.canLayAll0 (xs.map dT) = true ∧ PyData.depthAll (xs.map dT) ≤ 1
  | [] => by simp [PyData.canLayAll0, PyData.depthAll]
  | x :: xs => by
    have ih := lay_LT xs
    refine ⟨?_, ?_⟩
    · show (PyData.canLay0 (dT x) && PyData.canLayAll0 (xs.map dT)) = true
      rw [ih.1]
      simp [dT, PyData.canLay0, lay_I]
    · show max (PyData.depth (dT x)) (PyData.depthAll (xs.map dT)) ≤ 1
      have : PyData.depth (dT x) = 1 := by simp [dT, PyData.depth, dep_I]
      omega
theorem sh_LT (xs : List (List Int)) : SeqAt.shaped (dLT xs) = true := by
  have h := lay_LT xs
  unfold SeqAt.shaped dLT
  simp [PyData.canLay0, PyData.depth, h.1]
  omega
theorem lay_LB : ∀ xs : List Bool, PyData.canLayAll0 (xs.map PyData.bool) = true ∧ PyData.depthAll (xs.map PyData.bool) = 0
  | [] => by simp [PyData.canLayAll0, PyData.depthAll]
  | x :: xs => by
    have ih := lay_LB xs
    refine ⟨?_, ?_⟩
    · show (PyData.canLay0 (.bool x) && PyData.canLayAll0 (xs.map PyData.bool)) = true
      rw [ih.1]
      simp [PyData.canLay0]
    · show max (PyData.depth (.bool x)) (PyData.depthAll (xs.map PyData.bool)) = 0
      rw [ih.2]
      simp [PyData.depth]
theorem sh_LB (xs : List Bool) : SeqAt.shaped (dLB xs) = true := by
  have h := lay_LB xs
  unfold SeqAt.shaped dLB
  simp [PyData.canLay0, PyData.depth, h.1, h.2]
section
variable {K : PySem.W.Frag} {sg : L2.St} {H H' : Hp} {ta tb te tx tl : TE} {t : TT} {x y z v : V} {r : R2} {P A B : V → Hp → Prop}
theorem dpa_I : ∀ xs : List Int, DpAll K H (xs.map V.int) (dI xs)
  | [] => .nil
  | x :: xs => .cons (.int x) (dpa_I xs)
theorem dpa_B : ∀ xs : List Bool, DpAll K H (xs.map V.bl) (xs.map .bool)
  | [] => .nil
  | x :: xs => .cons (.bl x) (dpa_B xs)
theorem dp_T {xs : List Int} (h : IT K xs v H) : Dp K H v (dT xs) := by
  obtain ⟨a, rfl, h⟩ := h
  exact .tup h (dpa_I xs)
theorem dp_LI {xs : List Int} (h : IL K xs v H) : Dp K H v (dLI xs) := by
  obtain ⟨a, rfl, h⟩ := h
  exact .lst h (dpa_I xs)
theorem dpa_T {vs : List V} {ts : List (List Int)} (h : ITs K H vs ts) : DpAll K H vs (ts.map dT) := by
  induction h with
  | nil => exact .nil
  | cons a b ih => exact .cons (dp_T a) ih
theorem dp_LT {ts : List (List Int)} (h : ILT K ts v H) : Dp K H v (dLT ts) := by
  obtain ⟨a, vs, rfl, h1, h2⟩ := h
  exact .lst h1 (dpa_T h2)
theorem dp_LB {p : Addr} {bs : List Bool} (h : SqL K H p (bs.map V.bl)) : Dp K H (.ref p) (dLB bs) := .lst h (dpa_B bs)
/-- == and != of data -/
theorem rvp_eqD {d e : PyData} {b : Bool} (h1 : Dp K H x d) (h2 : Dp K H y e) (s1 : SeqAt.shaped d = true) (s2 : SeqAt.shaped e = true) (hb : PyData.eqv d e = b) (m1 : ∀ H1, Ex H H1 → Dp K H1 x d) (m2 : ∀ H1, Ex H H1 → Dp K H1 y e) :
    RVP (rEqD K) x y H (fun v _ => v = .bl b) := fun H1 e1 Q q => ⟨d, e, m1 H1 e1, m2 H1 e1, s1, s2, by rw [hb]; exact q _ H1 (Ex.refl H1) rfl⟩
theorem rvp_eqLT {ts us : List (List Int)} (h1 : ILT K ts x H) (h2 : ILT K us y H) : RVP (rEqD K) x y H (fun v _ => v = .bl (decide (ts = us))) :=
  rvp_eqD (dp_LT h1) (dp_LT h2) (sh_LT _) (sh_LT _) (eqv_LT _ _) (fun H1 e => dp_LT (mono_ILT _ _ _ e h1)) (fun H1 e => dp_LT (mono_ILT _ _ _ e h2))
theorem rvp_eqLI {ts us : List Int} (h1 : IL K ts x H) (h2 : IL K us y H) : RVP (rEqD K) x y H (fun v _ => v = .bl (decide (ts = us))) :=
  rvp_eqD (dp_LI h1) (dp_LI h2) (sh_LI _) (sh_LI _) (eqv_LI _ _) (fun H1 e => dp_LI (mono_IL _ _ _ e h1)) (fun H1 e => dp_LI (mono_IL _ _ _ e h2))
theorem rvp_eqT {ts us : List Int} (h1 : IT K ts x H) (h2 : IT K us y H) : RVP (rEqD K) x y H (fun v _ => v = .bl (decide (ts = us))) :=
  rvp_eqD (dp_T h1) (dp_T h2) (sh_T _) (sh_T _) (eqv_T _ _) (fun H1 e => dp_T (mono_IT _ _ _ e h1)) (fun H1 e => dp_T (mono_IT _ _ _ e h2))
theorem rvp_neD {d e : PyData} {b : Bool} (s1 : SeqAt.shaped d = true) (s2 : SeqAt.shaped e = true) (hb : PyData.eqv d e = b) (m1 : ∀ H1, Ex H H1 → Dp K H1 x d) (m2 : ∀ H1, Ex H H1 → Dp K H1 y e) :
    RVP (rNeD K) x y H (fun v _ => v = .bl (!b)) := fun H1 e1 Q q => ⟨d, e, m1 H1 e1, m2 H1 e1, s1, s2, by rw [hb]; exact q _ H1 (Ex.refl H1) rfl⟩
theorem rvp_neLT {ts us : List (List Int)} (h1 : ILT K ts x H) (h2 : ILT K us y H) : RVP (rNeD K) x y H (fun v _ => v = .bl (!decide (ts = us))) :=
  rvp_neD (sh_LT _) (sh_LT _) (eqv_LT _ _) (fun H1 e => dp_LT (mono_ILT _ _ _ e h1)) (fun H1 e => dp_LT (mono_ILT _ _ _ e h2))
theorem rvp_neLI {ts us : List Int} (h1 : IL K ts x H) (h2 : IL K us y H) : RVP (rNeD K) x y H (fun v _ => v = .bl (!decide (ts = us))) :=
  rvp_neD (sh_LI _) (sh_LI _) (eqv_LI _ _) (fun H1 e => dp_LI (mono_IL _ _ _ e h1)) (fun H1 e => dp_LI (mono_IL _ _ _ e h2))
theorem any_T (ts : List (List Int)) (xs : List Int) : (ts.map dT).any (fun z => PyData.eqv z (dT xs)) = decide (xs ∈ ts) := by
  induction ts with
  | nil => rfl
  | cons t ts ih =>
    rw [List.map_cons, List.any_cons, ih, eqv_T]
    by_cases h : t = xs
    · simp [h]
    · have h' : ¬ xs = t := fun e => h e.symm
      by_cases h2 : xs ∈ ts <;> simp [h, h', h2]
/-- a tuple in a list of tuples -/
theorem rvp_inLT {ts : List (List Int)} {xs : List Int} (h1 : IT K xs x H) (h2 : ILT K ts y H) : RVP (rInD K) x y H (fun v _ => v = .bl (decide (xs ∈ ts))) := fun H1 e1 Q q =>
  ⟨dT xs, ts.map dT, dp_T (mono_IT _ _ _ e1 h1), dp_LT (mono_ILT _ _ _ e1 h2), sh_T xs, sh_LT ts, by rw [any_T]; exact q _ H1 (Ex.refl H1) rfl⟩
theorem rvp_notInLT {ts : List (List Int)} {xs : List Int} (h1 : IT K xs x H) (h2 : ILT K ts y H) : RVP (rNotInD K) x y H (fun v _ => v = .bl (!decide (xs ∈ ts))) := fun H1 e1 Q q =>
  ⟨dT xs, ts.map dT, dp_T (mono_IT _ _ _ e1 h1), dp_LT (mono_ILT _ _ _ e1 h2), sh_T xs, sh_LT ts, by rw [any_T]; exact q _ H1 (Ex.refl H1) rfl⟩
theorem inV_ints (ns : List Int) (k : Int) : inV (.int k) (ns.map V.int) = decide (k ∈ ns) := by
  unfold inV
  induction ns with
  | nil => rfl
  | cons n ns ih =>
    rw [List.map_cons, List.any_cons, ih]
    by_cases h : n = k
    · subst h; simp [eqV]
    · have h' : ¬ k = n := fun e => h e.symm
      by_cases h2 : k ∈ ns <;> simp [h', h2, eqV, h]
theorem flat_ints (ns : List Int) : (ns.map V.int).all flatV = true := by
  rw [List.all_eq_true]
  intro x hx
  obtain ⟨n, _, rfl⟩ := List.mem_map.mp hx
  rfl
/-- an int in a tuple, in a list of ints -/
theorem rv_inTI {p : Addr} {ns : List Int} {k : Int} (h : SqT K H p (ns.map V.int)) : RV (rIn K false) (.int k) (.ref p) H (.bl (decide (k ∈ ns))) := by
  have q := rv_isT (x := .int k) h rfl (flat_ints ns)
  rw [inV_ints] at q
  exact q
theorem rv_niTI {p : Addr} {ns : List Int} {k : Int} (h : SqT K H p (ns.map V.int)) : RV (rIn K true) (.int k) (.ref p) H (.bl (!decide (k ∈ ns))) := by
  have q := rv_niT (x := .int k) h rfl (flat_ints ns)
  rw [inV_ints] at q
  exact q
/-- slices -/
theorem cut_last (xs : List V) (v : V) : cutV (xs ++ [v]) none (some (-1)) = xs := by
  unfold cutV
  have h1 : HT.sIx (xs ++ [v]).length (xs ++ [v]).length (some (-1)) = xs.length := by
    show (if (-1 : Int) < 0 then ((-1 : Int) + ((xs ++ [v]).length : Int)).toNat else min (-1 : Int).toNat (xs ++ [v]).length) = xs.length
    rw [if_pos (by decide), List.length_append, List.length_singleton]
    omega
  rw [HT.sIx_none, h1, List.drop_zero, Nat.sub_zero]
  exact List.take_left
theorem cut_to (xs : List V) (n : Nat) : cutV xs none (some (n : Int)) = xs.take n := by
  unfold cutV
  rw [HT.sIx_none, HT.sIx_nat, List.drop_zero, Nat.sub_zero]
  rcases Nat.lt_or_ge n xs.length with h | h
  · rw [Nat.min_eq_left (Nat.le_of_lt h)]
  · rw [Nat.min_eq_right h, List.take_of_length_le (Nat.le_refl _), List.take_of_length_le h]
theorem cut_from (xs : List V) (n : Nat) : cutV xs (some (n : Int)) none = xs.drop n := by
  unfold cutV
  rw [HT.sIx_none, HT.sIx_nat]
  rcases Nat.lt_or_ge n xs.length with h | h
  · rw [Nat.min_eq_left (Nat.le_of_lt h), List.take_of_length_le (by rw [List.length_drop]; exact Nat.le_refl _)]
  · rw [Nat.min_eq_right h, List.drop_of_length_le (Nat.le_refl _), List.drop_of_length_le h, List.take_nil]
/-- sum of a list of ints just laid -/
theorem ev_sum {ns : List Int} (ha : EvL ta sg H (ns.map V.int)) : Ev (tCB (rSum K) (tCons ta tNil)) sg H (.int ns.sum) := fun H1 e Q q =>
  ha H1 e _ fun p H2 _ e2 h2 => ⟨p, ns, rfl, sq_of h2, q H2 e2⟩
end
end SH

/-! choices, in plain Lean -/
namespace SM
def Ch : Nat → Nat → Nat
  | _, 0 => 1
  | 0, _ + 1 => 0
  | n + 1, k + 1 => Ch n k + Ch n (k + 1)
theorem ch_zero (n : Nat) : Ch n 0 = 1 := by cases n <;> rfl
theorem ch_succ (n k : Nat) : Ch (n + 1) (k + 1) = Ch n k + Ch n (k + 1) := rfl
theorem ch_gt : ∀ {n k : Nat}, n < k → Ch n k = 0
  | 0, k + 1, _ => rfl
  | n + 1, k + 1, h => by
    rw [ch_succ, ch_gt (n := n) (k := k) (by omega), ch_gt (n := n) (k := k + 1) (by omega)]
theorem ch_self : ∀ n : Nat, Ch n n = 1
  | 0 => rfl
  | n + 1 => by rw [ch_succ, ch_self n, ch_gt (Nat.lt_succ_self n)]
theorem ch_one : ∀ n : Nat, Ch n 1 = n
  | 0 => rfl
  | n + 1 => by rw [ch_succ, ch_zero, ch_one n]; omega
theorem ch_pos : ∀ {n k : Nat}, k ≤ n → 0 < Ch n k
  | n, 0, _ => by rw [ch_zero]; decide
  | n + 1, k + 1, h => by
    have := ch_pos (n := n) (k := k) (by omega)
    rw [ch_succ]
    omega
theorem ch_mono1 (n k : Nat) : Ch n k ≤ Ch (n + 1) k := by
  cases k with
  | zero => rw [ch_zero, ch_zero]; exact Nat.le_refl _
  | succ k => rw [ch_succ]; omega
theorem ch_mono {n m : Nat} (k : Nat) (h : n ≤ m) : Ch n k ≤ Ch m k := by
  induction h with
  | refl => exact Nat.le_refl _
  | step _ ih => exact Nat.le_trans ih (ch_mono1 _ k)
/-- C(n, k) (n - k) = C(n, k + 1) (k + 1) -/
theorem ch_step : ∀ n k : Nat, Ch n k * (n - k) = Ch n (k + 1) * (k + 1)
  | 0, k => by
    have h : (0 : Nat) - k = 0 := by omega
    rw [h, Nat.mul_zero]
    show 0 = 0 * (k + 1)
    rw [Nat.zero_mul]
  | n + 1, 0 => by
    rw [ch_zero, ch_one]
    omega
  | n + 1, k + 1 => by
    have a := ch_step n k
    have b := ch_step n (k + 1)
    rw [ch_succ, ch_succ n (k + 1), Nat.add_mul, Nat.add_mul, ← b]
    have e : n + 1 - (k + 1) = n - k := by omega
    rw [e, a]
    by_cases h : n ≤ k
    · rw [ch_gt (n := n) (k := k + 1) (by omega)]
      omega
    · obtain ⟨d, hd⟩ : ∃ d, n = k + 1 + d := ⟨n - (k + 1), by omega⟩
      have h1 : n - k = d + 1 := by omega
      have h2 : n - (k + 1) = d := by omega
      rw [h1, h2]
      have : Ch n (k + 1) * (k + 1) + Ch n (k + 1) * (d + 1) = Ch n (k + 1) * (k + 1 + 1) + Ch n (k + 1) * d := by
        rw [← Nat.mul_add, ← Nat.mul_add]
        congr 1
        omega
      exact this
theorem ch_stepI (n k : Nat) : (Ch n k : Int) * ((n : Int) - (k : Int)) = (Ch n (k + 1) : Int) * ((k : Int) + 1) := by
  by_cases h : k ≤ n
  · have e : ((n : Int) - (k : Int)) = ((n - k : Nat) : Int) := by omega
    rw [e, ← Int.natCast_mul, ch_step, Int.natCast_mul]
    rfl
  · rw [ch_gt (n := n) (k := k) (by omega), ch_gt (n := n) (k := k + 1) (by omega)]
    simp
/-- one turn of the program's loop -/
theorem ch_turn (n k : Nat) : (Ch n k : Int) * ((n : Int) - (k : Int)) / ((k : Int) + 1) = (Ch n (k + 1) : Int) := by
  rw [ch_stepI]
  exact Int.mul_ediv_cancel _ (by omega)
theorem ch_le_pow (n : Nat) : ∀ k : Nat, Ch n k ≤ n ^ k
  | 0 => by rw [ch_zero]; exact Nat.le_refl _
  | k + 1 => by
    have h := ch_step n k
    have ih := ch_le_pow n k
    have h1 : Ch n (k + 1) ≤ Ch n (k + 1) * (k + 1) := Nat.le_mul_of_pos_right _ (Nat.succ_pos k)
    have h2 : Ch n k * (n - k) ≤ n ^ k * n := Nat.mul_le_mul ih (Nat.sub_le n k)
    rw [Nat.pow_succ]
    omega
theorem ch_bits {n k : Nat} (hn : n < 2 ^ 64) (hk : k ≤ 1000) : Ch n k < 2 ^ 65000 := by
  have h1 : n ^ k ≤ (2 ^ 64) ^ k := Nat.pow_le_pow_left (Nat.le_of_lt hn) k
  have h2 : (2 ^ 64) ^ k = 2 ^ (64 * k) := (Nat.pow_mul 2 64 k).symm
  have h3 : 2 ^ (64 * k) < 2 ^ 65000 := Nat.pow_lt_pow_right (by decide) (by omega)
  have := ch_le_pow n k
  omega
/-- C(n + 1, k + 1) grows by at least one -/
theorem ch_lower : ∀ {n k : Nat}, 0 < k → k ≤ n + 1 → n + 1 ≤ Ch n k + k
  | 0, k, _, h => by omega
  | n + 1, 0, h, _ => absurd h (Nat.lt_irrefl 0)
  | n + 1, k + 1, _, h => by
    by_cases h2 : k + 1 ≤ n + 1
    · have a := ch_lower (n := n) (k := k + 1) (Nat.succ_pos k) h2
      have b := ch_pos (n := n) (k := k) (by omega)
      rw [ch_succ]
      omega
    · omega
def chI (a b : Int) : Int := (Ch a.toNat b.toNat : Nat)
theorem chI_nat (a b : Nat) : chI a b = (Ch a b : Nat) := rfl
theorem chI_nonneg (a b : Int) : 0 ≤ chI a b := Int.natCast_nonneg _
end SM

/-! heaps (cascades), in plain Lean -/
namespace SM
/-- the greatest t up to f with C(t, p) ≤ m -/
def srch (p m : Nat) : Nat → Nat
  | 0 => 0
  | f + 1 => if Ch (f + 1) p ≤ m then f + 1 else srch p m f
def topOf (p m : Nat) : Nat := srch p m (m + p)
theorem srch_le (p m : Nat) : ∀ f, srch p m f ≤ f
  | 0 => Nat.le_refl _
  | f + 1 => by
    unfold srch
    split
    · exact Nat.le_refl _
    · exact Nat.le_trans (srch_le p m f) (Nat.le_succ f)
theorem srch_ok {p m : Nat} (h0 : Ch 0 p ≤ m) : ∀ f, Ch (srch p m f) p ≤ m
  | 0 => h0
  | f + 1 => by
    unfold srch
    split
    · rename_i h; exact h
    · exact srch_ok h0 f
theorem srch_max {p m : Nat} : ∀ f t, t ≤ f → Ch t p ≤ m → t ≤ srch p m f
  | 0, t, h, _ => h
  | f + 1, t, h, hc => by
    unfold srch
    split
    · exact h
    · rename_i hn
      refine srch_max f t ?_ hc
      rcases Nat.lt_or_ge t (f + 1) with c | c
      · exact Nat.le_of_lt_succ c
      · have : t = f + 1 := Nat.le_antisymm h c
        rw [this] at hc
        exact absurd hc hn
theorem ch_zero_le {p m : Nat} (hp : 0 < p) : Ch 0 p ≤ m := by
  cases p with
  | zero => exact absurd hp (Nat.lt_irrefl 0)
  | succ p => exact Nat.zero_le _
theorem top_ok {p m : Nat} (hp : 0 < p) : Ch (topOf p m) p ≤ m := srch_ok (ch_zero_le hp) _
theorem top_lt {p m : Nat} (hp : 0 < p) : m < Ch (topOf p m + 1) p := by
  rcases Nat.lt_or_ge m (Ch (topOf p m + 1) p) with h | h
  · exact h
  · exfalso
    have hb : topOf p m + 1 ≤ m + p := by
      by_cases c : p ≤ topOf p m + 1 + 1
      · have := ch_lower (n := topOf p m + 1) hp c
        omega
      · omega
    have : topOf p m + 1 ≤ topOf p m := srch_max (m + p) _ hb h
    omega
theorem top_uniq {p m t : Nat} (hp : 0 < p) (h1 : Ch t p ≤ m) (h2 : m < Ch (t + 1) p) : topOf p m = t := by
  have a := top_ok (m := m) hp
  have b := top_lt (m := m) hp
  rcases Nat.lt_trichotomy (topOf p m) t with c | c | c
  · have := ch_mono p (show topOf p m + 1 ≤ t from c)
    omega
  · exact c
  · have := ch_mono p (show t + 1 ≤ topOf p m from c)
    omega
theorem top_ge {p m : Nat} (hp : 0 < p) (hm : 0 < m) : p ≤ topOf p m := by
  refine srch_max (m + p) p (by omega) ?_
  rw [ch_self]
  exact hm
/-- the heap of m, sizes from k down -/
def hp : Nat → Nat → List Nat
  | 0, _ => []
  | k + 1, m => if m = 0 then [] else topOf (k + 1) m :: hp k (m - Ch (topOf (k + 1) m) (k + 1))
theorem hp_zero (k : Nat) : hp k 0 = [] := by cases k <;> simp [hp]
theorem hp_cons {k m : Nat} (hk : 0 < k) (hm : 0 < m) : hp k m = topOf k m :: hp (k - 1) (m - Ch (topOf k m) k) := by
  cases k with
  | zero => exact absurd hk (Nat.lt_irrefl 0)
  | succ k =>
    have h : ¬ m = 0 := by omega
    simp [hp, h]
theorem hp_cons1 {k m : Nat} (hm : 0 < m) : hp (k + 1) m = topOf (k + 1) m :: hp k (m - Ch (topOf (k + 1) m) (k + 1)) := hp_cons (k := k + 1) (Nat.succ_pos k) hm
theorem rest_lt {k m : Nat} (hk : 0 < k) : m - Ch (topOf k m) k < Ch (topOf k m) (k - 1) := by
  cases k with
  | zero => exact absurd hk (Nat.lt_irrefl 0)
  | succ k =>
    have a := top_ok (p := k + 1) (m := m) hk
    have b := top_lt (p := k + 1) (m := m) hk
    rw [ch_succ] at b
    show m - Ch (topOf (k + 1) m) (k + 1) < Ch (topOf (k + 1) m) k
    omega
/-- what is left is nought where no size is left -/
theorem rest_zero {k m : Nat} (hk : 0 < k) (h : k - 1 = 0) : m - Ch (topOf k m) k = 0 := by
  have := rest_lt (m := m) hk
  rw [h, ch_zero] at this
  omega
theorem hp_len : ∀ k m : Nat, (hp k m).length ≤ k
  | 0, _ => Nat.le_refl _
  | k + 1, m => by
    by_cases h : m = 0
    · rw [h, hp_zero]; exact Nat.zero_le _
    · rw [hp_cons1 (by omega), List.length_cons]
      have := hp_len k (m - Ch (topOf (k + 1) m) (k + 1))
      show (hp k _).length + 1 ≤ k + 1
      omega
/-- the sum of the choices with a list's places counted from k down -/
def chs : Nat → List Nat → Nat
  | _, [] => 0
  | k, t :: r => Ch t k + chs (k - 1) r
/-- one place less -/
def chd : Nat → List Nat → Nat
  | _, [] => 0
  | k, t :: r => Ch t (k - 1) + chd (k - 1) r
theorem hp_sum : ∀ k m : Nat, (k = 0 → m = 0) → chs k (hp k m) = m
  | 0, m, h => by rw [h rfl]; rfl
  | k + 1, m, _ => by
    by_cases h : m = 0
    · rw [h, hp_zero]; rfl
    · rw [hp_cons1 (by omega)]
      show Ch (topOf (k + 1) m) (k + 1) + chs k (hp k (m - Ch (topOf (k + 1) m) (k + 1))) = m
      rw [hp_sum k _ fun hk => rest_zero (k := k + 1) (Nat.succ_pos k) (by omega)]
      have := top_ok (p := k + 1) (m := m) (Nat.succ_pos k)
      omega
/-- each place: at least its size; what the next one finds; the rest at each place -/
structure HpAt (k m : Nat) (row : List Nat) : Prop where
  len : row.length ≤ k
  at_ : ∀ j t, row[j]? = some t → k - j ≤ t ∧ 0 < k - j ∧ Ch t (k - j) ≤ m - chs k (row.take j) ∧ m - chs k (row.take j) < Ch (t + 1) (k - j) ∧ chs k (row.take j) ≤ m
  fall : ∀ j t u, row[j]? = some t → row[j + 1]? = some u → u < t
  sum : chs k row = m
theorem hp_first_lt {k m b : Nat} (hk : 0 < k) (hm : 0 < m) (h : m < Ch b k) : topOf k m < b := by
  rcases Nat.lt_or_ge (topOf k m) b with c | c
  · exact c
  · have a := ch_mono k c
    have := top_ok (m := m) hk
    omega
theorem hp_at : ∀ k m : Nat, (k = 0 → m = 0) → HpAt k m (hp k m)
  | 0, m, h => by
    rw [h rfl]
    exact ⟨Nat.le_refl _, fun j t e => by simp [hp] at e, fun j t u e => by simp [hp] at e, rfl⟩
  | k + 1, m, _ => by
    by_cases h : m = 0
    · rw [h, hp_zero]
      exact ⟨Nat.zero_le _, fun j t e => by simp at e, fun j t u e => by simp at e, rfl⟩
    · have hz : k = 0 → m - Ch (topOf (k + 1) m) (k + 1) = 0 := fun hk => rest_zero (k := k + 1) (Nat.succ_pos k) (by omega)
      have ih := hp_at k (m - Ch (topOf (k + 1) m) (k + 1)) hz
      have a := top_ok (p := k + 1) (m := m) (Nat.succ_pos k)
      have b := top_lt (p := k + 1) (m := m) (Nat.succ_pos k)
      have c := top_ge (p := k + 1) (m := m) (Nat.succ_pos k) (by omega)
      have rl : m - Ch (topOf (k + 1) m) (k + 1) < Ch (topOf (k + 1) m) k := rest_lt (k := k + 1) (m := m) (Nat.succ_pos k)
      have hs := hp_sum (k + 1) m fun z => absurd z (Nat.succ_ne_zero k)
      rw [hp_cons1 (by omega)] at hs ⊢
      have hfst : ∀ u, (hp k (m - Ch (topOf (k + 1) m) (k + 1)))[0]? = some u → u < topOf (k + 1) m := fun u hu => by
        by_cases h0 : m - Ch (topOf (k + 1) m) (k + 1) = 0
        · rw [h0, hp_zero] at hu
          simp at hu
        · have hk : 0 < k := by
            rcases Nat.eq_zero_or_pos k with z | z
            · exact absurd (hz z) h0
            · exact z
          rw [hp_cons hk (by omega)] at hu
          have e : topOf k (m - Ch (topOf (k + 1) m) (k + 1)) = u := by simpa using hu
          rw [← e]
          exact hp_first_lt hk (by omega) rl
      show HpAt (k + 1) m (topOf (k + 1) m :: hp k (m - Ch (topOf (k + 1) m) (k + 1)))
      generalize hp k (m - Ch (topOf (k + 1) m) (k + 1)) = row at ih hs hfst ⊢
      generalize topOf (k + 1) m = t0 at ih hs hfst a b c rl ⊢
      refine ⟨by rw [List.length_cons]; have := ih.len; omega, fun j t e => ?_, fun j t u e1 e2 => ?_, hs⟩
      · cases j with
        | zero =>
          have e : t0 = t := by simpa using e
          subst e
          refine ⟨c, by omega, ?_, ?_, Nat.zero_le _⟩
          · show Ch t0 (k + 1) ≤ m - chs (k + 1) []
            show Ch t0 (k + 1) ≤ m - 0
            omega
          · show m - 0 < Ch (t0 + 1) (k + 1)
            omega
        | succ j =>
          have e : row[j]? = some t := by simpa using e
          obtain ⟨h1, h2, h3, h4, h5⟩ := ih.at_ j t e
          have es : k + 1 - (j + 1) = k - j := by omega
          have et : chs (k + 1) ((t0 :: row).take (j + 1)) = Ch t0 (k + 1) + chs k (row.take j) := rfl
          rw [es, et]
          refine ⟨h1, h2, ?_, ?_, by omega⟩
          · rw [← Nat.sub_sub]; exact h3
          · rw [← Nat.sub_sub]; exact h4
      · cases j with
        | zero =>
          have e1 : t0 = t := by simpa using e1
          have e2 : row[0]? = some u := by simpa using e2
          subst e1
          exact hfst u e2
        | succ j =>
          exact ih.fall j t u (by simpa using e1) (by simpa using e2)
theorem chs_take : ∀ (row : List Nat) (k j t : Nat), row[j]? = some t → chs k (row.take (j + 1)) = chs k (row.take j) + Ch t (k - j)
  | [], k, j, t, h => by simp at h
  | a :: r, k, 0, t, h => by
    have e : a = t := by simpa using h
    subst e
    show Ch a k + 0 = 0 + Ch a (k - 0)
    rw [Nat.add_zero, Nat.zero_add, Nat.sub_zero]
  | a :: r, k, j + 1, t, h => by
    have ih := chs_take r (k - 1) j t (by simpa using h)
    show Ch a k + chs (k - 1) (r.take (j + 1)) = Ch a k + chs (k - 1) (r.take j) + Ch t (k - (j + 1))
    have e : k - (j + 1) = k - 1 - j := by omega
    rw [ih, e]
    omega
theorem chd_take : ∀ (row : List Nat) (k j t : Nat), row[j]? = some t → chd k (row.take (j + 1)) = chd k (row.take j) + Ch t (k - j - 1)
  | [], k, j, t, h => by simp at h
  | a :: r, k, 0, t, h => by
    have e : a = t := by simpa using h
    subst e
    show Ch a (k - 1) + 0 = 0 + Ch a (k - 0 - 1)
    rw [Nat.add_zero, Nat.zero_add, Nat.sub_zero]
  | a :: r, k, j + 1, t, h => by
    have ih := chd_take r (k - 1) j t (by simpa using h)
    show Ch a (k - 1) + chd (k - 1) (r.take (j + 1)) = Ch a (k - 1) + chd (k - 1) (r.take j) + Ch t (k - (j + 1) - 1)
    have e : k - (j + 1) = k - 1 - j := by omega
    rw [ih, e]
    omega
/-- the least shadow -/
def lsh (k m : Nat) : Nat := chd k (hp k m)
/-- tops stay below m + k -/
theorem hp_bd {k m : Nat} (h : k = 0 → m = 0) : ∀ (j t : Nat), (hp k m)[j]? = some t → t ≤ m + k := fun j t e => by
  obtain ⟨h1, h2, h3, h4, h5⟩ := (hp_at k m h).at_ j t e
  have := ch_lower (n := t) (k := k - j) h2 (by omega)
  omega
/-! Pascal's rows, as they are laid in place -/
def prow (t b : Nat) : List Int := (List.range (b + 1)).map fun k => ((Ch t k : Nat) : Int)
def mrow (t b i : Nat) : List Int := (List.range (b + 1)).map fun k => if b - i < k then ((Ch (t + 1) k : Nat) : Int) else ((Ch t k : Nat) : Int)
theorem prow_len (t b : Nat) : (prow t b).length = b + 1 := by simp [prow]
theorem mrow_len (t b i : Nat) : (mrow t b i).length = b + 1 := by simp [mrow]
theorem mrow_zero (t b : Nat) : mrow t b 0 = prow t b := by
  unfold mrow prow
  refine List.map_congr_left fun k hk => ?_
  have : k < b + 1 := List.mem_range.mp hk
  rw [if_neg (by omega)]
theorem mrow_all (t b : Nat) : mrow t b b = prow (t + 1) b := by
  unfold mrow prow
  refine List.map_congr_left fun k hk => ?_
  by_cases h : k = 0
  · subst h
    rw [if_neg (by omega), ch_zero, ch_zero]
  · rw [if_pos (by omega)]
theorem mrow_get {t b i k : Nat} (h : k < b + 1) : (mrow t b i)[k]? = some (if b - i < k then ((Ch (t + 1) k : Nat) : Int) else ((Ch t k : Nat) : Int)) := by
  unfold mrow
  rw [List.getElem?_map, List.getElem?_range h]
  rfl
theorem prow_get {t b k : Nat} (h : k < b + 1) : (prow t b)[k]? = some ((Ch t k : Nat) : Int) := by
  unfold prow
  rw [List.getElem?_map, List.getElem?_range h]
  rfl
theorem mrow_set {t b i : Nat} (h : i < b) : (mrow t b i).set (b - i) (((Ch t (b - i) : Nat) : Int) + ((Ch t (b - i - 1) : Nat) : Int)) = mrow t b (i + 1) := by
  refine List.ext_getElem? fun k => ?_
  by_cases hk : k < b + 1
  · rw [List.getElem?_set, mrow_get (i := i + 1) hk]
    by_cases e : b - i = k
    · subst e
      rw [if_pos rfl, if_pos (by rw [mrow_len]; exact hk), if_pos (by omega)]
      obtain ⟨d, hd⟩ : ∃ d, b - i = d + 1 := ⟨b - i - 1, by omega⟩
      rw [hd, ch_succ]
      show some (((Ch t (d + 1) : Nat) : Int) + ((Ch t d : Nat) : Int)) = some ((Ch t d + Ch t (d + 1) : Nat) : Int)
      rw [Int.natCast_add, Int.add_comm]
    · rw [if_neg e, mrow_get hk]
      by_cases c : b - i < k
      · rw [if_pos c, if_pos (by omega)]
      · rw [if_neg c, if_neg (by omega)]
  · rw [List.getElem?_eq_none (by rw [List.length_set, mrow_len]; omega), List.getElem?_eq_none (by rw [mrow_len]; omega)]
theorem prow_first (b : Nat) : prow 0 b = 1 :: List.replicate b 0 := by
  refine List.ext_getElem? fun k => ?_
  cases k with
  | zero =>
    rw [prow_get (by omega), ch_zero]
    rfl
  | succ k =>
    by_cases hk : k + 1 < b + 1
    · rw [prow_get hk, ch_gt (Nat.succ_pos k), List.getElem?_cons_succ, List.getElem?_replicate, if_pos (by omega)]
      rfl
    · rw [List.getElem?_eq_none (by rw [prow_len]; omega), List.getElem?_eq_none (by rw [List.length_cons, List.length_replicate]; omega)]
end SM

namespace SH
open PySem PySem.Spec PyProof.Rows L2 Evl SM
local macro_rules | `(tactic| walk_at "ev") => `(tactic| first
  | exact ev_c
  | (refine ev_var ?_; rfl)
  | (refine ev_op ?shA ?shB rv_I0; (case shA => walk_at "ev"); (case shB => walk_at "ev"))
  | (refine ev_op ?shA ?shB (rv_mod ?shC); (case shA => walk_at "ev"); (case shB => walk_at "ev"); (case shC => first | decide | omega))
  | (refine ev_op ?shA ?shB (rv_div ?shC); (case shA => walk_at "ev"); (case shB => walk_at "ev"); (case shC => first | decide | omega))
  | (refine ev_un ?shA ru_neg; (case shA => walk_at "ev"))
  | assumption)
local macro_rules | `(tactic| walk_at "ea") => `(tactic| first
  | exact ea_nil
  | (refine ea_cons ?shA ?shB; (case shA => walk_at "ev"); (case shB => walk_at "ea")))

def topS (i : Nat) : Stmt := PySem.Challenge.pw_shadowheaps_k07_heaps.main.body.getD i (.Pass ⟨0, 0, 0, 0⟩)
/-- the built-ins and the constants as the top leaves them -/
structure Tx (K : PySem.W.Frag) (mg : Str → Option Value) : Prop where
  b_range : mg "range" = none
  b_sum : mg "sum" = none
  b_len : mg "len" = none
  b_isinstance : mg "isinstance" = none
  b_int : mg "int" = none
  b_bool : mg "bool" = none
  b_max : mg "max" = none
  b_min : mg "min" = none
  b_list : mg "list" = none

section
variable {P : Program} {w : World} {K : PySem.W.Frag} {mg : Str → Option Value} {base : Heap}

/-! ### choices -/
abbrev s_choices : Stmt := topS 1
theorem sc_choices : FnScope ["a", "b", "found", "k"] ["a", "b"] (defScope s_choices) := ⟨rfl, rfl, rfl, by decide +kernel, rfl, by decide +kernel, by decide +kernel⟩
/-- choices(a, b) -/
def sp_choices (K : PySem.W.Frag) : Sp := fun vs H Q _ => ∃ a b : Int, vs = [.int a, .int b] ∧ (0 ≤ a ∧ a < 2 ^ 64 ∧ 0 ≤ b ∧ b ≤ 1000) ∧ RetV (.int (chI a b)) H Q
theorem spv_choices {K : PySem.W.Frag} {H : Hp} {a b : Int} (h : 0 ≤ a ∧ a < 2 ^ 64 ∧ 0 ≤ b ∧ b ≤ 1000) : SpV (sp_choices K) [.int a, .int b] H (.int (chI a b)) := fun H1 e Q q E => ⟨a, b, rfl, h, q⟩
theorem chI_bits {a b : Int} (h : a < 2 ^ 64) (hb : b ≤ 1000) : (chI a b).natAbs < 2 ^ 65000 := by
  have := ch_bits (n := a.toNat) (k := b.toNat) (by omega) (by omega)
  unfold chI
  rw [Int.natAbs_natCast]
  exact this
theorem choices_turn {K : PySem.W.Frag} {sg : L2.St} {H : Hp} {ta tb tc : TE} {a : Int} {i : Nat} (ha : Ev ta sg H (.int (chI a i))) (hb : Ev tb sg H (.int (a - (i : Int)))) (hc : Ev tc sg H (.int ((i : Int) + 1))) (h0 : 0 ≤ a) (h1 : a < 2 ^ 64) (hi : (i : Int) < 1000) :
    Ev (tOp (rI CDivW fun i j => .int (i / j)) (tOp (rI CMulW fun i j => .int (i * j)) ta tb) tc) sg H (.int (chI a ((i : Int) + 1))) := by
  refine ev_is (ev_op (ev_op ha hb (rv_mul 65000 70 (chI_bits h1 (by omega)) (by omega))) hc (rv_div (by omega))) ?_
  have e := ch_turn a.toNat i
  rw [show ((a.toNat : Nat) : Int) = a by omega] at e
  exact congrArg V.int e
theorem ok_choices {f : Addr} {fd : FuncData} (F : Fun K "choices" "choices" s_choices f fd) (T : Tx K mg) : FnOk P w K mg base CX0 1 f fd ["a", "b"] (sp_choices K) := by
  refine F.ok sc_choices (fun vs H Q E h => ?_) (fun cdv A outer s H vs Q E hr h => ?_)
  · obtain ⟨a, b, rfl, _⟩ := h
    rfl
  · obtain ⟨a, b, rfl, ⟨h0, h1, h2, h3⟩, q⟩ := h
    refine ⟨_, (pss_cons (ps_set (i := 2) sc_choices.nd rfl (Or.inl rfl) pe_int)
      (pss_cons (ps_for PassesOwn.never rfl (pi_range1 (by rfl) T.b_range (pa_cons (pv 1) pa_nil)) (pg_name (i := 3) sc_choices.nd rfl (Or.inl rfl))
      (pss_one (ps_set (i := 2) sc_choices.nd rfl (Or.inl rfl) (pe_op op_fdivW (pe_op op_mulW (pv 2) (pe_op op_sub (pv 0) (pv 3))) (pe_op op_add (pv 3) pe_int)))))
      (pss_one (ps_ret (pv 2))))), ?_⟩
    refine q_asg (v := .int 1) ev_c fun H1 e1 => ?_
    refine q_forR1 (n := b) (by walk_at "ea") ⟨h2, by omega⟩ (fun i σ' H' => ∃ y, σ' = [some (.int a), some (.int b), some (.int (chI a i)), y] ∧ Ex H H') (fun H2 e2 => ⟨none, by unfold chI; rw [show ((0 : Nat) : Int).toNat = 0 from rfl, ch_zero]; rfl, e1.trans e2⟩) ?_ ?_
    · rintro i σ' H' hi ⟨y, rfl, e⟩
      exact s_asg (choices_turn (K := K) (ev_var rfl) (by walk_at "ev") (by walk_at "ev") h0 h1 (by omega)) fun H2 e2 => ⟨_, rfl, e.trans e2⟩
    · rintro σ' H' ⟨y, rfl, e⟩
      exact s_ret (ev_var rfl) fun H2 e2 => by
        have z := q H2 (e.trans e2)
        rw [show (b.toNat : Int) = b by omega]
        exact z

/-! ### _law_up -/
abbrev s_law_up : Stmt := topS 10
theorem sc_law_up : FnScope ["a", "b", "found", "k"] ["a", "b"] (defScope s_law_up) := ⟨rfl, rfl, rfl, by decide +kernel, rfl, by decide +kernel, by decide +kernel⟩
theorem ok_law_up {f : Addr} {fd : FuncData} (F : Fun K "_law_up" "_law_up" s_law_up f fd) (T : Tx K mg) : FnOk P w K mg base CX0 1 f fd ["a", "b"] (sp_choices K) := by
  refine F.ok sc_law_up (fun vs H Q E h => ?_) (fun cdv A outer s H vs Q E hr h => ?_)
  · obtain ⟨a, b, rfl, _⟩ := h
    rfl
  · obtain ⟨a, b, rfl, ⟨h0, h1, h2, h3⟩, q⟩ := h
    refine ⟨_, (pss_cons (ps_set (i := 2) sc_law_up.nd rfl (Or.inl rfl) pe_int)
      (pss_cons (ps_for PassesOwn.never rfl (pi_range1 (by rfl) T.b_range (pa_cons (pv 1) pa_nil)) (pg_name (i := 3) sc_law_up.nd rfl (Or.inl rfl))
      (pss_one (ps_set (i := 2) sc_law_up.nd rfl (Or.inl rfl) (pe_op op_fdivW (pe_op op_mulW (pv 2) (pe_op op_sub (pv 0) (pv 3))) (pe_op op_add (pv 3) pe_int)))))
      (pss_one (ps_ret (pv 2))))), ?_⟩
    refine q_asg (v := .int 1) ev_c fun H1 e1 => ?_
    refine q_forR1 (n := b) (by walk_at "ea") ⟨h2, by omega⟩ (fun i σ' H' => ∃ y, σ' = [some (.int a), some (.int b), some (.int (chI a i)), y] ∧ Ex H H') (fun H2 e2 => ⟨none, by unfold chI; rw [show ((0 : Nat) : Int).toNat = 0 from rfl, ch_zero]; rfl, e1.trans e2⟩) ?_ ?_
    · rintro i σ' H' hi ⟨y, rfl, e⟩
      exact s_asg (choices_turn (K := K) (ev_var rfl) (by walk_at "ev") (by walk_at "ev") h0 h1 (by omega)) fun H2 e2 => ⟨_, rfl, e.trans e2⟩
    · rintro σ' H' ⟨y, rfl, e⟩
      exact s_ret (ev_var rfl) fun H2 e2 => by
        have z := q H2 (e.trans e2)
        rw [show (b.toNat : Int) = b by omega]
        exact z

/-! ### _law_cell_at -/
abbrev s_law_cell_at : Stmt := topS 7
theorem sc_law_cell_at : FnScope ["script", "k"] ["script", "k"] (defScope s_law_cell_at) := ⟨rfl, rfl, rfl, by decide +kernel, rfl, by decide +kernel, by decide +kernel⟩
/-- a script's cell -/
def cellI (ns : List Int) (k : Nat) : Int := ns.getD k 0
def sp_law_cell_at (K : PySem.W.Frag) : Sp := fun vs H Q _ => ∃ (a : Addr) (ns : List Int) (k : Nat), vs = [.ref a, .int (k : Int)] ∧ SqL K H a (ns.map V.int) ∧ RetV (.int (cellI ns k)) H Q
theorem spv_cell {K : PySem.W.Frag} {H : Hp} {a : Addr} {ns : List Int} (k : Nat) (h : SqL K H a (ns.map V.int)) : SpV (sp_law_cell_at K) [.ref a, .int (k : Int)] H (.int (cellI ns k)) := fun H1 e Q q E => ⟨a, ns, k, rfl, ex_l e h, q⟩
theorem ok_law_cell_at {f : Addr} {fd : FuncData} (F : Fun K "_law_cell_at" "_law_cell_at" s_law_cell_at f fd) (T : Tx K mg) : FnOk P w K mg base CX0 1 f fd ["script", "k"] (sp_law_cell_at K) := by
  refine F.ok sc_law_cell_at (fun vs H Q E h => ?_) (fun cdv A outer s H vs Q E hr h => ?_)
  · obtain ⟨a, ns, k, rfl, _⟩ := h
    rfl
  · obtain ⟨a, ns, k, rfl, hS, q⟩ := h
    refine ⟨_, (pss_cons (ps_if (pt_cmpR op_lt (pv 1) (pe_callB (r := rLenS K) call_len_seq (by rfl) T.b_len PySem.boot_len (pa_cons (pv 0) pa_nil)) (nomark _)) (pss_one (ps_ret (pe_ix (r := rIxL K) ix_list (pv 0) (pv 1) (fun _ _ => rfl)))) pss_nil)
      (pss_one (ps_ret pe_int))), ?_⟩
    refine q_when (b := decide ((k : Int) < ((ns.map V.int).length : Int))) (et_test (ev_op (ev_var rfl) (ev_len (ev_var rfl) hS) rv_I0)) (fun hb H1 e1 => ?_) (fun hb H1 e1 => ?_)
    · have hk : k < ns.length := by
        have := of_decide_eq_true hb
        rw [List.length_map] at this
        omega
      have g : ns[k]? = some (cellI ns k) := by
        unfold cellI
        rw [List.getD_eq_getElem?_getD, List.getElem?_eq_getElem hk]
        rfl
      exact s_ret (ev_op (ev_var rfl) (ev_var rfl) (rv_ixL (ex_l e1 hS) (at_int (j := k) rfl g))) fun H2 e2 => q H2 (e1.trans e2)
    · have hk : ¬ k < ns.length := by
        have := of_decide_eq_false hb
        rw [List.length_map] at this
        omega
      have g : cellI ns k = 0 := by
        unfold cellI
        rw [List.getD_eq_getElem?_getD, List.getElem?_eq_none (by omega)]
        rfl
      exact s_ret ev_c fun H2 e2 => by
        have z := q H2 (e1.trans e2)
        rw [g] at z
        exact z

/-! ### _law_whole -/
abbrev s_law_whole : Stmt := topS 8
theorem sc_law_whole : FnScope ["found"] ["found"] (defScope s_law_whole) := ⟨rfl, rfl, rfl, by decide +kernel, rfl, by decide +kernel, by decide +kernel⟩
/-- an int is whole -/
def sp_law_whole (K : PySem.W.Frag) : Sp := fun vs H Q _ => ∃ i : Int, vs = [.int i] ∧ RetV (.bl true) H Q
theorem spv_whole {K : PySem.W.Frag} {H : Hp} (i : Int) : SpV (sp_law_whole K) [.int i] H (.bl true) := fun H1 e Q q E => ⟨i, rfl, q⟩
theorem ok_law_whole {f : Addr} {fd : FuncData} (F : Fun K "_law_whole" "_law_whole" s_law_whole f fd) (T : Tx K mg) : FnOk P w K mg base CX0 1 f fd ["found"] (sp_law_whole K) := by
  refine F.ok sc_law_whole (fun vs H Q E h => ?_) (fun cdv A outer s H vs Q E hr h => ?_)
  · obtain ⟨i, rfl, _⟩ := h
    rfl
  · obtain ⟨i, rfl, q⟩ := h
    refine ⟨_, (pss_one (ps_ret (pe_and (pe_callB (r := rIsi K) call_isi (by rfl) T.b_isinstance (by decide +kernel) (pa_cons (pv 0) (pa_cons (pe_bltn (v := .ty "int") (u := Value.type "int") (by rfl) T.b_int (by decide +kernel) rfl) pa_nil))) (pe_one (pe_not (pe_callB (r := rIsi K) call_isi (by rfl) T.b_isinstance (by decide +kernel) (pa_cons (pv 0) (pa_cons (pe_bltn (v := .ty "bool") (u := Value.type "bool") (by rfl) T.b_bool (by decide +kernel) rfl) pa_nil)))))))), ?_⟩
    have h1 : ∀ H1, Ex H H1 → TyX K H1 (.int i) (.type "int") := fun H1 _ => .base (.int i)
    exact s_ret (v := .bl (true && !false)) (ev_andV (ev_isi (b := "int") (ev_var rfl) h1 (by decide +kernel)) fun _ => ev_notV (ev_isi (b := "bool") (ev_var rfl) h1 (by decide +kernel))) fun H1 e1 => q H1 e1

/-! ### _law_choices -/
abbrev s_law_choices : Stmt := topS 9
theorem sc_law_choices : FnScope ["a", "b", "row", "turn", "k"] ["a", "b"] (defScope s_law_choices) := ⟨rfl, rfl, rfl, by decide +kernel, rfl, by decide +kernel, by decide +kernel⟩
/-- the law's own choices, laid row by row -/
def sp_law_choices (K : PySem.W.Frag) : Sp := fun vs H Q _ => ∃ a b : Int, vs = [.int a, .int b] ∧ (0 ≤ a ∧ a ≤ 1000 ∧ 0 ≤ b ∧ b ≤ 1000) ∧ RetV (.int (chI a b)) H Q
theorem spv_law_choices {K : PySem.W.Frag} {H : Hp} {a b : Int} (h : 0 ≤ a ∧ a ≤ 1000 ∧ 0 ≤ b ∧ b ≤ 1000) : SpV (sp_law_choices K) [.int a, .int b] H (.int (chI a b)) := fun H1 e Q q E => ⟨a, b, rfl, h, q⟩
theorem ok_law_choices {f : Addr} {fd : FuncData} (F : Fun K "_law_choices" "_law_choices" s_law_choices f fd) (T : Tx K mg) : FnOk P w K mg base CX0 1 f fd ["a", "b"] (sp_law_choices K) := by
  refine F.ok sc_law_choices (fun vs H Q E h => ?_) (fun cdv A outer s H vs Q E hr h => ?_)
  · obtain ⟨a, b, rfl, _⟩ := h
    rfl
  · obtain ⟨a, b, rfl, ⟨h0, h1, h2, h3⟩, q⟩ := h
    refine ⟨_, (pss_cons (ps_set (i := 2) sc_law_choices.nd rfl (Or.inl rfl) (pe_op op_cat (pe_lst (pa_cons pe_int pa_nil)) (pe_lc (own := [("k", 4)]) (g := gName 4) rfl sc_law_choices.nd (pi_range1 (by rfl) T.b_range (pa_cons (pv 1) pa_nil)) (blkOk_by (by kernel_rfl)) (fun _ _ _ _ _ => (pg_name (i := 4) sc_law_choices.nd rfl (Or.inl rfl))) (fun _ _ _ _ _ => pts_nil) (fun _ _ _ _ _ => pe_int))))
      (pss_cons (ps_for PassesOwn.never rfl (pi_range1 (by rfl) T.b_range (pa_cons (pv 0) pa_nil)) (pg_name (i := 3) sc_law_choices.nd rfl (Or.inl rfl))
      (pss_one (ps_for PassesOwn.never rfl (pi_range3 (by rfl) T.b_range (pa_cons (pv 1) (pa_cons pe_int (pa_cons (pe_un un_neg pe_int) pa_nil)))) (pg_name (i := 4) sc_law_choices.nd rfl (Or.inl rfl))
      (pss_one (ps_asg (pe_op op_add (pe_ix (r := rIxL K) ix_list (pv 2) (pv 4) (fun _ _ => rfl)) (pe_ix (r := rIxL K) ix_list (pv 2) (pe_op op_sub (pv 4) pe_int) (fun _ _ => rfl))) (pg_sub (pv 2) (pv 4) set_list))))))
      (pss_one (ps_ret (pe_ix (r := rIxL K) ix_list (pv 2) (pv 1) (fun _ _ => rfl)))))), ?_⟩
    obtain ⟨m, rfl⟩ : ∃ m : Nat, a = (m : Int) := ⟨a.toNat, by omega⟩
    obtain ⟨n, rfl⟩ : ∃ n : Nat, b = (n : Int) := ⟨b.toNat, by omega⟩
    have eg : [V.int 1] ++ given (n : Int).toNat (fun _ => true) (fun _ => V.int 0) = (prow 0 n).map V.int := by
      rw [prow_first]
      rw [Int.toNat_natCast, given_all, List.map_cons, List.map_replicate, List.map_const', List.length_range]
      rfl
    refine q_asgL (xs := (prow 0 n).map V.int) (by
      rw [← eg]
      refine el_cat (el_lst (by walk_at "ea") (by decide)) (el_lcR1 (n := (n : Int)) (fun _ => true) (fun _ => V.int 0) (by walk_at "ea") ⟨by omega, by omega⟩ (fun _ => rfl) (fun _ _ _ _ => et_yes) (fun _ _ _ _ _ => ev_c)) ?_
      have := given_len (n : Int).toNat (fun _ => true) (fun _ => V.int 0)
      show 1 + _ ≤ _
      omega) fun p H1 hp e1 hl => ?_
    refine q_forR1 (n := (m : Int)) (by walk_at "ea") ⟨by omega, by omega⟩ (fun i σ' H' => ∃ y z, σ' = [some (.int (m : Int)), some (.int (n : Int)), some (.ref p), y, z] ∧ LI p (prow i n) H' ∧ Ex H H') (fun H2 e2 => ⟨none, none, rfl, e2 _ _ hl, e1.trans e2⟩) ?_ ?_
    · rintro i σ' H' hi ⟨y, z, rfl, hL, e⟩
      refine s_forR3 (n := ((n : Int) - 0).toNat) (lo := (n : Int)) (hi := 0) (c := -1) (by walk_at "ea") (RgC.neg (by omega) (by omega) (by omega) (by omega)) (fun j σ' H' => ∃ z, σ' = [some (.int (m : Int)), some (.int (n : Int)), some (.ref p), some (.int (i : Int)), z] ∧ LI p (mrow i n j) H' ∧ Ex H H') (fun H2 e2 => ⟨z, rfl, by rw [mrow_zero]; exact e2 _ _ hL, e.trans e2⟩) ?_ ?_
      · rintro j σ' H' hj ⟨z, rfl, hM, e⟩
        have hj2 : j < n := by omega
        have e1 : ((n : Int) + (j : Int) * -1) = ((n - j : Nat) : Int) := by omega
        have e2 : ((n : Int) + (j : Int) * -1) - 1 = ((n - j - 1 : Nat) : Int) := by omega
        have g1 := mrow_get (t := i) (b := n) (i := j) (k := n - j) (by omega)
        have g2 := mrow_get (t := i) (b := n) (i := j) (k := n - j - 1) (by omega)
        rw [if_neg (by omega)] at g1 g2
        refine s_setL (v := .int (((Ch i (n - j) : Nat) : Int) + ((Ch i (n - j - 1) : Nat) : Int))) (j := n - j) hM (ev_op (ev_op (ev_var rfl) (ev_var rfl) (rv_ixL (sq_of hM) (at_int e1 g1))) (ev_op (ev_var rfl) (by walk_at "ev") (rv_ixL (sq_of hM) (at_int e2 g2))) rv_I0) (ev_var rfl) (ev_is (ev_var rfl) (congrArg V.int e1)) (by rw [List.length_map, mrow_len]; omega) fun H2 e2 => ⟨some (.int ((n : Int) + (j : Int) * -1)), rfl, ?_, Ex.mut (e.trans e2) hp⟩
        show upd H2 p _ p = _
        rw [upd_same, ← mrow_set hj2, List.map_set]
      · rintro σ' H' ⟨z, rfl, hM, e⟩
        refine ⟨some (.int (i : Int)), z, rfl, ?_, e⟩
        rw [show ((n : Int) - 0).toNat = n by omega, mrow_all] at hM
        exact hM
    · rintro σ' H' ⟨y, z, rfl, hL, e⟩
      exact s_ret (v := .int (chI m n)) (ev_op (ev_var rfl) (ev_var rfl) (rv_ixL (sq_of hL) (at_int rfl (prow_get (by omega))))) fun H2 e2 => q H2 (e.trans e2)

/-! ### further -/
abbrev s_further : Stmt := topS 4
theorem sc_further : FnScope ["top", "place", "many", "step"] ["top", "place", "many"] (defScope s_further) := ⟨rfl, rfl, rfl, by decide +kernel, rfl, by decide +kernel, by decide +kernel⟩
/-- further(top, place, many): a greater number whose choices are no more than many -/
def sp_further (K : PySem.W.Frag) : Sp := fun vs H Q _ => ∃ t p m : Nat, vs = [.int (t : Int), .int (p : Int), .int (m : Int)] ∧ (0 < p ∧ p ≤ 6 ∧ m ≤ 10 ^ 13 ∧ Ch (t + 1) p ≤ m) ∧
  RetP (fun v _ => ∃ u : Nat, v = .int (u : Int) ∧ t < u ∧ Ch u p ≤ m) H Q
theorem top_bd {t p m : Nat} (hp : 0 < p) (h6 : p ≤ 6) (hm : m ≤ 10 ^ 13) (h : Ch t p ≤ m) : t ≤ m + 6 := by
  by_cases c : p ≤ t + 1
  · have := ch_lower (n := t) hp c
    omega
  · omega
theorem ok_further {f : Addr} {fd : FuncData} (F : Fun K "further" "further" s_further f fd) (T : Tx K mg) (c_choices : Cal P w K mg base "choices" 1 ["a", "b"] (sp_choices K)) : FnOk P w K mg base CX0 2 f fd ["top", "place", "many"] (sp_further K) := by
  refine F.ok sc_further (fun vs H Q E h => ?_) (fun cdv A outer s H vs Q E hr h => ?_)
  · obtain ⟨t, p, m, rfl, _⟩ := h
    rfl
  · obtain ⟨t, p, m, rfl, ⟨h1, h2, h3, h4⟩, q⟩ := h
    refine ⟨_, (pss_cons (ps_set (i := 3) sc_further.nd rfl (Or.inl rfl) pe_int)
      (pss_cons (ps_while PassesOwn.never (pt_cmpR op_le (pe_cal c_choices (hr.mono (by decide)) (by rfl) (pa_cons (pe_op op_add (pv 0) (pe_op op_mulW pe_int (pv 3))) (pa_cons (pv 1) pa_nil))) (pv 2) (nomark _))
      (pss_one (ps_set (i := 3) sc_further.nd rfl (Or.inl rfl) (pe_op op_mulW pe_int (pv 3)))))
      (pss_one (ps_ret (pe_op op_add (pv 0) (pv 3)))))), ?_⟩
    refine q_asg (v := .int 1) ev_c fun H1 e1 => ?_
    have hb0 := top_bd h1 h2 h3 h4
    refine q_while (fun μ σ' H' => ∃ s : Nat, μ = m + 7 - (t + s) ∧ σ' = [some (.int (t : Int)), some (.int (p : Int)), some (.int (m : Int)), some (.int (s : Int))] ∧ 0 < s ∧ Ch (t + s) p ≤ m ∧ Ex H H') _ ⟨1, rfl, rfl, by decide, h4, e1⟩ ?_
    rintro μ σ' H' ⟨s, rfl, rfl, hs, hc, e⟩
    have hb := top_bd h1 h2 h3 hc
    refine ⟨decide (chI ((t : Int) + 2 * (s : Int)) (p : Int) ≤ (m : Int)), et_test (ev_op (ev_cal (by
      refine ea_cons (x := V.int ((t : Int) + 2 * (s : Int))) ?_ (by walk_at "ea")
      exact ev_op (ev_var rfl) (ev_op ev_c (ev_var rfl) (rv_mul 2 60 (by decide) (by omega))) rv_I0) (spv_choices ⟨by omega, by omega, by omega, by omega⟩)) (ev_var rfl) rv_I0), fun hb2 H2 e2 => ⟨_, fun _ _ w => w, ?_⟩, fun hb2 H2 e2 => ?_⟩
    · have hc2 : Ch (t + 2 * s) p ≤ m := by
        have := of_decide_eq_true hb2
        rw [show ((t : Int) + 2 * (s : Int)) = ((t + 2 * s : Nat) : Int) by omega, chI_nat] at this
        omega
      have hb3 := top_bd h1 h2 h3 hc2
      refine s_asg (v := .int ((2 * s : Nat) : Int)) (ev_is (ev_op ev_c (ev_var rfl) (rv_mul 2 60 (by decide) (by omega))) (congrArg V.int (by omega))) fun H3 e3 => ⟨m + 7 - (t + 2 * s), by omega, 2 * s, rfl, rfl, by omega, hc2, (e.trans e2).trans e3⟩
    · exact s_ret (v := .int ((t + s : Nat) : Int)) (ev_is (ev_op (ev_var rfl) (ev_var rfl) rv_I0) (congrArg V.int (by omega))) fun H3 e3 => q _ H3 ((e.trans e2).trans e3) ⟨t + s, rfl, by omega, hc⟩

/-! ### heap -/
abbrev s_heap : Stmt := topS 3
theorem sc_heap : FnScope ["size", "many", "row", "place", "top"] ["size", "many"] (defScope s_heap) := ⟨rfl, rfl, rfl, by decide +kernel, rfl, by decide +kernel, by decide +kernel⟩
/-- heap(size, many) -/
def hpI (k m : Nat) : List Int := (hp k m).map fun t => ((t : Nat) : Int)
def sp_heap (K : PySem.W.Frag) : Sp := fun vs H Q _ => ∃ k m : Nat, vs = [.int (k : Int), .int (m : Int)] ∧ (0 < k ∧ k ≤ 6 ∧ m ≤ 10 ^ 13) ∧ RetL ((hpI k m).map V.int) H Q
theorem spl_heap {K : PySem.W.Frag} {H : Hp} {k m : Nat} (h : 0 < k ∧ k ≤ 6 ∧ m ≤ 10 ^ 13) : SpL (sp_heap K) [.int (k : Int), .int (m : Int)] H ((hpI k m).map V.int) := fun H1 e Q q E => ⟨k, m, rfl, h, q⟩
theorem ok_heap {f : Addr} {fd : FuncData} (F : Fun K "heap" "heap" s_heap f fd) (T : Tx K mg) (c_choices : Cal P w K mg base "choices" 1 ["a", "b"] (sp_choices K)) (c_further : Cal P w K mg base "further" 2 ["top", "place", "many"] (sp_further K)) : FnOk P w K mg base CX0 3 f fd ["size", "many"] (sp_heap K) := by
  refine F.ok sc_heap (fun vs H Q E h => ?_) (fun cdv A outer s H vs Q E hr h => ?_)
  · obtain ⟨k, m, rfl, _⟩ := h
    rfl
  · obtain ⟨k, m, rfl, ⟨h1, h2, h3⟩, q⟩ := h
    refine ⟨_, (pss_cons (ps_set (i := 2) sc_heap.nd rfl (Or.inl rfl) (pe_lst pa_nil))
      (pss_cons (ps_set (i := 3) sc_heap.nd rfl (Or.inl rfl) (pv 0))
      (pss_cons (ps_while PassesOwn.never (pt_cmpR op_gt (pv 1) pe_int (nomark _))
      (pss_cons (ps_set (i := 4) sc_heap.nd rfl (Or.inl rfl) (pv 3))
      (pss_cons (ps_while PassesOwn.never (pt_cmpR op_le (pe_cal c_choices (hr.mono (by decide)) (by rfl) (pa_cons (pe_op op_add (pv 4) pe_int) (pa_cons (pv 3) pa_nil))) (pv 1) (nomark _))
      (pss_one (ps_set (i := 4) sc_heap.nd rfl (Or.inl rfl) (pe_cal c_further (hr.mono (by decide)) (by rfl) (pa_cons (pv 4) (pa_cons (pv 3) (pa_cons (pv 1) pa_nil)))))))
      (pss_cons (ps_expr (pe_bm PySem.F.plainAttrs_list PySem.F.slot_list_append PySem.F.type_list_append mt_append (pv 2) (pa_cons (pv 4) pa_nil)))
      (pss_cons (ps_set (i := 1) sc_heap.nd rfl (Or.inl rfl) (pe_op op_sub (pv 1) (pe_cal c_choices (hr.mono (by decide)) (by rfl) (pa_cons (pv 4) (pa_cons (pv 3) pa_nil)))))
      (pss_one (ps_set (i := 3) sc_heap.nd rfl (Or.inl rfl) (pe_op op_sub (pv 3) pe_int))))))))
      (pss_one (ps_ret (pv 2)))))), ?_⟩
    refine q_asgL (xs := []) (el_lst ea_nil (by decide)) fun l H1 hl e1 hL => ?_
    refine q_asg (v := .int (k : Int)) (ev_var rfl) fun H2 e2 => ?_
    refine q_while (fun μ σ' H' => ∃ (p n : Nat) (done : List Int) (y : Option V), μ = p ∧ σ' = [some (.int (k : Int)), some (.int (n : Int)), some (.ref l), some (.int (p : Int)), y] ∧ LI l done H' ∧ Ex H H' ∧ done ++ hpI p n = hpI k m ∧ (p = 0 → n = 0) ∧ p ≤ 6 ∧ n ≤ m ∧ done.length + p = k) k ⟨k, m, [], none, rfl, rfl, e2 _ _ hL, e1.trans e2, rfl, by omega, h2, Nat.le_refl _, by simp⟩ ?_
    rintro μ σ' H' ⟨p, n, done, y, rfl, rfl, hD, e, hd, hz, hp6, hnm, hdl⟩
    refine ⟨decide ((0 : Int) < (n : Int)), et_test (ev_op (ev_var rfl) ev_c rv_I0), fun hb H3 e3 => ⟨_, fun _ _ w => w, ?_⟩, fun hb H3 e3 => ?_⟩
    · have hn : 0 < n := by
        have := of_decide_eq_true hb
        omega
      have hp0 : 0 < μ := by
        rcases Nat.eq_zero_or_pos μ with z | z
        · have := hz z; omega
        · exact z
      refine q_asg (v := .int (μ : Int)) (ev_var rfl) fun H4 e4 => ?_
      -- the top is gone up to
      refine q_while (fun ν σ' H' => ∃ t : Nat, ν = n + 7 - t ∧ σ' = [some (.int (k : Int)), some (.int (n : Int)), some (.ref l), some (.int (μ : Int)), some (.int (t : Int))] ∧ Ch t μ ≤ n ∧ LI l done H' ∧ Ex H H') _ ⟨μ, rfl, rfl, by rw [ch_self]; exact hn, (hD.ex e3).ex e4, (e.trans e3).trans e4⟩ ?_
      rintro ν σ' H' ⟨t, rfl, rfl, hc, hD, e⟩
      have hb0 := top_bd hp0 hp6 (by omega) hc
      refine ⟨decide (chI ((t : Int) + 1) (μ : Int) ≤ (n : Int)), et_test (ev_op (ev_cal (by walk_at "ea") (spv_choices ⟨by omega, by omega, by omega, by omega⟩)) (ev_var rfl) rv_I0), fun hb2 H5 e5 => ⟨_, fun _ _ w => w, ?_⟩, fun hb2 H5 e5 => ?_⟩
      · have hc2 : Ch (t + 1) μ ≤ n := by
          have := of_decide_eq_true hb2
          rw [show ((t : Int) + 1) = ((t + 1 : Nat) : Int) by omega, chI_nat] at this
          omega
        refine s_asgP (P := fun v _ => ∃ u : Nat, v = .int (u : Int) ∧ t < u ∧ Ch u μ ≤ n) (evp_cal (by walk_at "ea") fun H6 e6 Q q E => ⟨t, μ, n, rfl, ⟨hp0, hp6, by omega, hc2⟩, q⟩) ?_
        rintro _ H6 e6 ⟨u, rfl, hu, hcu⟩
        have := top_bd hp0 hp6 (by omega) hcu
        exact ⟨n + 7 - u, by omega, u, rfl, rfl, hcu, (hD.ex e5).ex e6, (e.trans e5).trans e6⟩
      · have hc2 : n < Ch (t + 1) μ := by
          have := of_decide_eq_false hb2
          rw [show ((t : Int) + 1) = ((t + 1 : Nat) : Int) by omega, chI_nat] at this
          omega
        have et : topOf μ n = t := top_uniq hp0 hc hc2
        have eh : hpI μ n = ((t : Nat) : Int) :: hpI (μ - 1) (n - Ch t μ) := by
          unfold hpI
          rw [hp_cons hp0 hn, et]
          rfl
        have hdl2 : done.length < 6 := by omega
        refine q_app (hD.ex e5) (ev_var rfl) (ev_var rfl) (by rw [List.length_map]; omega) fun H6 e6 => ?_
        have e6' : Ex H (upd H6 l (.lst (done.map V.int ++ [.int (t : Int)]))) := Ex.mut ((e.trans e5).trans e6) hl
        refine q_asg (v := .int ((n - Ch t μ : Nat) : Int)) (ev_is (ev_op (ev_var rfl) (ev_cal (by walk_at "ea") (spv_choices ⟨by omega, by omega, by omega, by omega⟩)) rv_I0) (congrArg V.int (by rw [chI_nat]; omega))) fun H7 e7 => ?_
        refine s_asg (v := .int ((μ - 1 : Nat) : Int)) (ev_is (ev_op (ev_var rfl) ev_c rv_I0) (congrArg V.int (by omega))) fun H8 e8 => ?_
        refine ⟨μ - 1, by omega, μ - 1, n - Ch t μ, done ++ [((t : Nat) : Int)], some (.int (t : Int)), rfl, rfl, ?_, (e6'.trans e7).trans e8, ?_, ?_, by omega, by omega, ?_⟩
        · refine LI.ex e8 (LI.ex e7 ?_)
          show upd H6 l _ l = _
          rw [upd_same, List.map_append]
          rfl
        · rw [List.append_assoc]
          show done ++ (((t : Nat) : Int) :: hpI (μ - 1) (n - Ch t μ)) = _
          rw [← eh]
          exact hd
        · intro h0
          have := rest_zero (m := n) hp0 h0
          rw [et] at this
          exact this
        · rw [List.length_append, List.length_singleton]
          omega
    · have hn : n = 0 := by
        have := of_decide_eq_false hb
        omega
      subst hn
      have ed : done = hpI k m := by
        rw [← hd]
        unfold hpI
        rw [hp_zero]
        simp
      subst ed
      exact s_ret (ev_var rfl) fun H4 e4 => q l H4 hl ((e.trans e3).trans e4) ((hD.ex e3).ex e4)

/-! ### least_shadow -/
abbrev s_least_shadow : Stmt := topS 5
theorem sc_least_shadow : FnScope ["size", "many", "row", "k"] ["size", "many"] (defScope s_least_shadow) := ⟨rfl, rfl, rfl, by decide +kernel, rfl, by decide +kernel, by decide +kernel⟩
/-- least_shadow(size, many) -/
def sp_least_shadow (K : PySem.W.Frag) : Sp := fun vs H Q _ => ∃ k m : Nat, vs = [.int (k : Int), .int (m : Int)] ∧ (0 < k ∧ k ≤ 6 ∧ m ≤ 10 ^ 13) ∧ RetV (.int ((lsh k m : Nat) : Int)) H Q
theorem spv_lsh {K : PySem.W.Frag} {H : Hp} {k m : Nat} (h : 0 < k ∧ k ≤ 6 ∧ m ≤ 10 ^ 13) : SpV (sp_least_shadow K) [.int (k : Int), .int (m : Int)] H (.int ((lsh k m : Nat) : Int)) := fun H1 e Q q E => ⟨k, m, rfl, h, q⟩
theorem lsh_sum (k : Nat) (row : List Nat) (f : Nat → Int) (hf : ∀ (j t : Nat), row[j]? = some t → f j = ((Ch t (k - j - 1) : Nat) : Int)) : ∀ n, n ≤ row.length → ((List.range n).map f).sum = ((chd k (row.take n) : Nat) : Int)
  | 0, _ => rfl
  | n + 1, h => by
    have ih := lsh_sum k row f hf n (by omega)
    obtain ⟨t, ht⟩ : ∃ t, row[n]? = some t := ⟨_, List.getElem?_eq_getElem (show n < row.length by omega)⟩
    rw [List.range_succ, List.map_append, List.sum_append, ih, chd_take row k n t ht, List.map_singleton, List.sum_singleton, hf n t ht, Int.natCast_add]
theorem ok_least_shadow {f : Addr} {fd : FuncData} (F : Fun K "least_shadow" "least_shadow" s_least_shadow f fd) (T : Tx K mg) (c_heap : Cal P w K mg base "heap" 3 ["size", "many"] (sp_heap K)) (c_choices : Cal P w K mg base "choices" 1 ["a", "b"] (sp_choices K)) : FnOk P w K mg base CX0 4 f fd ["size", "many"] (sp_least_shadow K) := by
  refine F.ok sc_least_shadow (fun vs H Q E h => ?_) (fun cdv A outer s H vs Q E hr h => ?_)
  · obtain ⟨k, m, rfl, _⟩ := h
    rfl
  · obtain ⟨k, m, rfl, ⟨h1, h2, h3⟩, q⟩ := h
    refine ⟨_, (pss_cons (ps_set (i := 2) sc_least_shadow.nd rfl (Or.inr rfl) (pe_cal c_heap (hr.mono (by decide)) (by rfl) (pa_cons (pv 0) (pa_cons (pv 1) pa_nil))))
      (pss_one (ps_ret (pe_callB (r := rSum K) (cr_sum rfl) (by rfl) T.b_sum (by decide +kernel) (pa_cons (pe_lc (own := [("k", 3)]) (g := gName 3) rfl sc_least_shadow.nd (pi_range1 (by rfl) T.b_range (pa_cons (pe_callB (r := rLenS K) call_len_seq (by rfl) T.b_len PySem.boot_len (pa_cons (pv 2) pa_nil)) pa_nil)) (blkOk_by (by kernel_rfl)) (fun _ _ _ _ _ => (pg_name (i := 3) sc_least_shadow.nd rfl (Or.inl rfl))) (fun _ _ _ _ _ => pts_nil) (fun _ _ _ _ _ => (pe_cal c_choices (hr.mono (by decide)) (by rfl) (pa_cons (pe_ix (r := rIxL K) ix_list (pv 2) (pv 3) (fun _ _ => rfl)) (pa_cons (pe_op op_sub (pe_op op_sub (pv 0) (pv 3)) pe_int) pa_nil))))) pa_nil))))), ?_⟩
    refine q_asgL (el_cal (by walk_at "ea") (spl_heap ⟨h1, h2, h3⟩)) fun l H1 hl e1 hL => ?_
    have hk0 : k = 0 → m = 0 := by omega
    have hat := hp_at k m hk0
    have hlen := hp_len k m
    refine s_ret (v := .int ((lsh k m : Nat) : Int)) (ev_is (ev_sum (ns := (List.range (hp k m).length).map fun i => chI ((hpI k m).getD i 0) ((k : Int) - (i : Int) - 1)) ?_) ?_) fun H2 e2 => q H2 (e1.trans e2)
    · have eg : given ((hpI k m).map V.int).length (fun _ => true) (fun i => V.int (chI ((hpI k m).getD i 0) ((k : Int) - (i : Int) - 1))) = ((List.range (hp k m).length).map fun i => chI ((hpI k m).getD i 0) ((k : Int) - (i : Int) - 1)).map V.int := by
        unfold hpI
        rw [given_all, List.length_map, List.length_map, List.map_map]
        rfl
      rw [← eg]
      have h := el_lcR1 (σ := [some (V.int (k : Int)), some (V.int (m : Int)), some (V.ref l), none]) (H := H1) (vs := [3]) (t := tYes) (j := 3) (n := (((hpI k m).map V.int).length : Int)) (ta := tCons (tCB (rLenS K) (tCons (tVar 2) tNil)) tNil) (te := tCall (sp_choices K) [] E0 (tCons (tOp (rIxL K) (tVar 2) (tVar 3)) (tCons (tOp (rI0 fun i j => .int (i - j)) (tOp (rI0 fun i j => .int (i - j)) (tVar 0) (tVar 3)) (tC (.int 1))) tNil))) (fun _ => true) (fun i => V.int (chI ((hpI k m).getD i 0) ((k : Int) - (i : Int) - 1))) (ea_cons (ev_len (ev_var rfl) (sq_of hL)) ea_nil) (by
        unfold hpI
        rw [List.length_map, List.length_map]
        omega) (fun _ => rfl) (fun _ _ _ _ => et_yes) (fun i H2 e2 hi _ => by
          have hi2 : i < (hp k m).length := by
            unfold hpI at hi
            rw [List.length_map, List.length_map] at hi
            omega
          obtain ⟨t, ht⟩ : ∃ t, (hp k m)[i]? = some t := ⟨_, List.getElem?_eq_getElem hi2⟩
          have hb := hp_bd hk0 i t ht
          have g : (hpI k m)[i]? = some ((t : Nat) : Int) := by
            unfold hpI
            rw [List.getElem?_map, ht]
            rfl
          have gd : (hpI k m).getD i 0 = ((t : Nat) : Int) := by
            rw [List.getD_eq_getElem?_getD, g]
            rfl
          rw [gd]
          exact ev_cal (ea_cons (ev_op (ev_var rfl) (ev_var rfl) (rv_ixL (sq_of (e2 _ _ hL)) (at_int rfl g))) (by walk_at "ea")) (spv_choices ⟨by omega, by omega, by omega, by omega⟩))
      rw [Int.toNat_natCast] at h
      exact h
    · have hs := lsh_sum k (hp k m) (fun i => chI ((hpI k m).getD i 0) ((k : Int) - (i : Int) - 1)) (fun j t ht => by
        have g : (hpI k m).getD j 0 = ((t : Nat) : Int) := by
          unfold hpI
          rw [List.getD_eq_getElem?_getD, List.getElem?_map, ht]
          rfl
        have hj : j < (hp k m).length := (List.getElem?_eq_some_iff.mp ht).1
        show chI ((hpI k m).getD j 0) ((k : Int) - (j : Int) - 1) = _
        rw [g, show ((k : Int) - (j : Int) - 1) = ((k - j - 1 : Nat) : Int) by omega, chI_nat]) (hp k m).length (Nat.le_refl _)
      rw [hs, List.take_length]
      rfl

/-! ### _law_many_by -/
abbrev s_law_many_by : Stmt := topS 11
theorem sc_law_many_by : FnScope ["cell", "size", "way", "top"] ["cell", "size"] (defScope s_law_many_by) := ⟨rfl, rfl, rfl, by decide +kernel, rfl, by decide +kernel, by decide +kernel⟩
/-- a number from 0 to 10 ** 12 -/
def sp_law_many_by (K : PySem.W.Frag) : Sp := fun vs H Q _ => ∃ c k : Int, vs = [.int c, .int k] ∧ (1 ≤ k ∧ k ≤ 6) ∧ RetP (fun v _ => ∃ m : Nat, v = .int (m : Int) ∧ m ≤ 10 ^ 12) H Q
theorem three_at {i : Int} (h0 : 0 ≤ i) (h3 : i < 3) : ∃ m : Int, atI [V.int 9, V.int 60, V.int 100] i = some (.int m) ∧ 0 < m ∧ m ≤ 100 := by
  rcases (by omega : i = 0 ∨ i = 1 ∨ i = 2) with rfl | rfl | rfl
  · exact ⟨9, rfl, by decide, by decide⟩
  · exact ⟨60, rfl, by decide, by decide⟩
  · exact ⟨100, rfl, by decide, by decide⟩
theorem ok_law_many_by {f : Addr} {fd : FuncData} (F : Fun K "_law_many_by" "_law_many_by" s_law_many_by f fd) (T : Tx K mg) (c_law_choices : Cal P w K mg base "_law_choices" 1 ["a", "b"] (sp_law_choices K)) : FnOk P w K mg base CX0 2 f fd ["cell", "size"] (sp_law_many_by K) := by
  refine F.ok sc_law_many_by (fun vs H Q E h => ?_) (fun cdv A outer s H vs Q E hr h => ?_)
  · obtain ⟨c, k, rfl, _⟩ := h
    rfl
  · obtain ⟨c, k, rfl, hk, q⟩ := h
    refine ⟨_, (pss_cons (ps_set (i := 2) sc_law_many_by.nd rfl (Or.inl rfl) (pe_op op_mod (pv 0) pe_int))
      (pss_cons (ps_if (pt_cmpR op_eq (pv 2) pe_int (nomark _)) (pss_one (ps_ret (pe_op op_mod (pe_op op_fdivW (pv 0) pe_int) pe_int))) pss_nil)
      (pss_cons (ps_if (pt_cmpR op_eq (pv 2) pe_int (nomark _)) (pss_one (ps_ret (pe_op op_mod (pe_op op_fdivW (pv 0) pe_int) (pe_op op_add (pe_op op_pow pe_int pe_int) pe_int)))) pss_nil)
      (pss_cons (ps_if (pt_cmpR op_eq (pv 2) pe_int (nomark _)) (pss_one (ps_ret (pe_op op_sub (pe_op op_pow pe_int pe_int) (pe_op op_mod (pe_op op_fdivW (pv 0) pe_int) pe_int)))) pss_nil)
      (pss_cons (ps_set (i := 3) sc_law_many_by.nd rfl (Or.inl rfl) (pe_op op_mod (pe_op op_fdivW (pv 0) pe_int) (pe_ix (r := rIxL K) ix_list (pe_lst (pa_cons pe_int (pa_cons pe_int (pa_cons pe_int pa_nil)))) (pe_op op_mod (pe_op op_fdivW (pv 0) pe_int) pe_int) (fun _ _ => rfl))))
      (pss_one (ps_ret (pe_callB (call_max2 rfl) (by rfl) T.b_max (by decide +kernel) (pa_cons pe_int (pa_cons (pe_callB (call_min2 rfl) (by rfl) T.b_min (by decide +kernel) (pa_cons (pe_op op_pow pe_int pe_int) (pa_cons (pe_op op_sub (pe_op op_add (pe_cal c_law_choices (hr.mono (by decide)) (by rfl) (pa_cons (pv 3) (pa_cons (pv 1) pa_nil))) (pv 2)) pe_int) pa_nil))) pa_nil)))))))))), ?_⟩
    have fin : ∀ (i : Int) (H' : Hp), Ex H H' → 0 ≤ i → i ≤ 10 ^ 12 → Q (.int i) H' := fun i H' e h0 h1 => q _ H' e ⟨i.toNat, by rw [Int.toNat_of_nonneg h0], by omega⟩
    have hpow : ∀ {sg : L2.St} {H1 : Hp}, Ev (tOp (rI CPow fun i j => .int (i ^ j.toNat)) (tC (.int 10)) (tC (.int 12))) sg H1 (.int (10 ^ 12)) := ev_op ev_c ev_c (rv_pow ⟨by decide, by decide, by decide⟩)
    refine q_asg (v := .int (c % 6)) (by walk_at "ev") fun H1 e1 => ?_
    refine q_when (b := decide ((c % 6) = 0)) (et_is (et_test (ev_op (ev_var rfl) ev_c (rv_eq rfl))) (by simp)) (fun _ H2 e2 => s_ret (v := .int (c / 6 % 200)) (by walk_at "ev") fun H3 e3 => fin _ H3 ((e1.trans e2).trans e3) (by omega) (by omega)) (fun _ H2 e2 => ?_)
    refine q_when (b := decide ((c % 6) = 1)) (et_is (et_test (ev_op (ev_var rfl) ev_c (rv_eq rfl))) (by simp)) (fun _ H3 e3 => s_ret (v := .int (c / 6 % (10 ^ 12 + 1))) (ev_op (by walk_at "ev") (ev_op hpow ev_c rv_I0) (rv_mod (by decide))) fun H4 e4 => fin _ H4 (((e1.trans e2).trans e3).trans e4) (by omega) (by omega)) (fun _ H3 e3 => ?_)
    refine q_when (b := decide ((c % 6) = 2)) (et_is (et_test (ev_op (ev_var rfl) ev_c (rv_eq rfl))) (by simp)) (fun _ H4 e4 => s_ret (v := .int (10 ^ 12 - c / 6 % 99)) (ev_op hpow (by walk_at "ev") rv_I0) fun H5 e5 => fin _ H5 ((((e1.trans e2).trans e3).trans e4).trans e5) (by omega) (by omega)) (fun _ H4 e4 => ?_)
    obtain ⟨m, hm, hm0, hm1⟩ := three_at (i := c / 6 % 3) (by omega) (by omega)
    have t0 : 0 ≤ c / 36 % m := Int.emod_nonneg _ (by omega)
    have t1 : c / 36 % m < m := Int.emod_lt_of_pos _ hm0
    refine q_asg (v := .int (c / 36 % m)) (ev_op (by walk_at "ev") (ev_opL1 (el_lst (by walk_at "ea") (by decide)) (fun H1 e => by walk_at "ev") (fun p H1 hp e => rv_ixL (sq_of hp) hm)) (rv_mod hm0)) fun H5 e5 => ?_
    refine s_ret (v := .int (max 0 (min (10 ^ 12) (chI (c / 36 % m) k + c % 6 - 4)))) (ev_maxx ev_c (ev_min2 hpow (ev_op (ev_op (ev_cal (by walk_at "ea") (spv_law_choices ⟨t0, by omega, by omega, by omega⟩)) (ev_var rfl) rv_I0) ev_c rv_I0))) fun H6 e6 => fin _ H6 (((((e1.trans e2).trans e3).trans e4).trans e5).trans e6) (by omega) (by omega)

end
end SH

namespace SH
open PySem PySem.Spec PyProof.Rows L2 Evl SM
local macro_rules | `(tactic| walk_at "ev") => `(tactic| first
  | exact ev_c
  | (refine ev_var ?_; rfl)
  | (refine ev_op ?shA ?shB rv_I0; (case shA => walk_at "ev"); (case shB => walk_at "ev"))
  | (refine ev_op ?shA ?shB (rv_mod ?shC); (case shA => walk_at "ev"); (case shB => walk_at "ev"); (case shC => first | decide | omega))
  | (refine ev_op ?shA ?shB (rv_div ?shC); (case shA => walk_at "ev"); (case shB => walk_at "ev"); (case shC => first | decide | omega))
  | (refine ev_un ?shA ru_neg; (case shA => walk_at "ev"))
  | assumption)
local macro_rules | `(tactic| walk_at "ea") => `(tactic| first
  | exact ea_nil
  | (refine ea_cons ?shA ?shB; (case shA => walk_at "ev"); (case shB => walk_at "ea")))

section
variable {P : Program} {w : World} {K : PySem.W.Frag} {mg : Str → Option Value} {base : Heap}

/-! ### law -/
abbrev s_law : Stmt := topS 12
theorem sc_law : FnScope ["script", "size", "many", "row", "rest", "below", "k", "told"] ["script"] (defScope s_law) := ⟨rfl, rfl, rfl, by decide +kernel, rfl, by decide +kernel, by decide +kernel⟩
def sp_law (K : PySem.W.Frag) : Sp := fun vs H Q _ => ∃ (a : Addr) (ns : List Int), vs = [.ref a] ∧ SqL K H a (ns.map V.int) ∧ ns.length ≤ 63 ∧ ∀ H', Q (.bl true) H'
theorem ok_law {f : Addr} {fd : FuncData} (F : Fun K "law" "law" s_law f fd) (T : Tx K mg) (c_law_many_by : Cal P w K mg base "_law_many_by" 2 ["cell", "size"] (sp_law_many_by K)) (c_heap : Cal P w K mg base "heap" 3 ["size", "many"] (sp_heap K)) (c_least_shadow : Cal P w K mg base "least_shadow" 4 ["size", "many"] (sp_least_shadow K)) (c_law_cell_at : Cal P w K mg base "_law_cell_at" 1 ["script", "k"] (sp_law_cell_at K)) (c_law_whole : Cal P w K mg base "_law_whole" 1 ["found"] (sp_law_whole K)) (c_law_up : Cal P w K mg base "_law_up" 1 ["a", "b"] (sp_choices K)) : FnOk P w K mg base CX0 5 f fd ["script"] (sp_law K) := by
  refine F.ok sc_law (fun vs H Q E h => ?_) (fun cdv A outer s H vs Q E hr h => ?_)
  · obtain ⟨a, ns, rfl, _⟩ := h
    rfl
  · obtain ⟨a, ns, rfl, hS, hlen, q⟩ := h
    refine ⟨_, (pss_cons (ps_set (i := 1) sc_law.nd rfl (Or.inl rfl) (pe_op op_add pe_int (pe_op op_mod (pe_cal c_law_cell_at (hr.mono (by decide)) (by rfl) (pa_cons (pv 0) (pa_cons pe_int pa_nil))) pe_int)))
      (pss_cons (ps_set (i := 2) sc_law.nd rfl (Or.inl rfl) (pe_cal c_law_many_by (hr.mono (by decide)) (by rfl) (pa_cons (pe_cal c_law_cell_at (hr.mono (by decide)) (by rfl) (pa_cons (pv 0) (pa_cons pe_int pa_nil))) (pa_cons (pv 1) pa_nil))))
      (pss_cons (ps_set (i := 3) sc_law.nd rfl (Or.inl rfl) (pe_cal c_heap (hr.mono (by decide)) (by rfl) (pa_cons (pv 1) (pa_cons (pv 2) pa_nil))))
      (pss_cons (ps_if (PW.pt (pw_or (pt_not (pt_val (pe_callB (r := rIsi K) call_isi (by rfl) T.b_isinstance (by decide +kernel) (pa_cons (pv 3) (pa_cons (pe_bltn (v := .ty "list") (u := Value.type "list") (by rfl) T.b_list (by decide +kernel) rfl) pa_nil))))) (pw_or1 (pt_cmpR op_gt (pe_callB (r := rLenS K) call_len_seq (by rfl) T.b_len PySem.boot_len (pa_cons (pv 3) pa_nil)) (pv 1) (nomark _))))) (pss_one (ps_ret pe_bl)) pss_nil)
      (pss_cons (ps_set (i := 4) sc_law.nd rfl (Or.inl rfl) (pv 2))
      (pss_cons (ps_set (i := 5) sc_law.nd rfl (Or.inl rfl) pe_int)
      (pss_cons (ps_for PassesOwn.never rfl (pi_range1 (by rfl) T.b_range (pa_cons (pe_callB (r := rLenS K) call_len_seq (by rfl) T.b_len PySem.boot_len (pa_cons (pv 3) pa_nil)) pa_nil)) (pg_name (i := 6) sc_law.nd rfl (Or.inl rfl))
      (pss_cons (ps_if (PW.pt (pw_or (pt_not (pt_val (pe_cal c_law_whole (hr.mono (by decide)) (by rfl) (pa_cons (pe_ix (r := rIxL K) ix_list (pv 3) (pv 6) (fun _ _ => rfl)) pa_nil)))) (pw_or (pt_cmpR op_lt (pe_ix (r := rIxL K) ix_list (pv 3) (pv 6) (fun _ _ => rfl)) (pe_op op_sub (pv 1) (pv 6)) (nomark _)) (pw_or1 (PW.pt (pw_and (pt_cmpR op_gt (pv 6) pe_int (nomark _)) (pw_and1 (pt_cmpR op_ge (pe_ix (r := rIxL K) ix_list (pv 3) (pv 6) (fun _ _ => rfl)) (pe_ix (r := rIxL K) ix_list (pv 3) (pe_op op_sub (pv 6) pe_int) (fun _ _ => rfl)) (nomark _))))))))) (pss_one (ps_ret pe_bl)) pss_nil)
      (pss_cons (ps_if (pt_cmpR op_le (pe_cal c_law_up (hr.mono (by decide)) (by rfl) (pa_cons (pe_op op_add (pe_ix (r := rIxL K) ix_list (pv 3) (pv 6) (fun _ _ => rfl)) pe_int) (pa_cons (pe_op op_sub (pv 1) (pv 6)) pa_nil))) (pv 4) (nomark _)) (pss_one (ps_ret pe_bl)) pss_nil)
      (pss_cons (ps_set (i := 4) sc_law.nd rfl (Or.inl rfl) (pe_op op_sub (pv 4) (pe_cal c_law_up (hr.mono (by decide)) (by rfl) (pa_cons (pe_ix (r := rIxL K) ix_list (pv 3) (pv 6) (fun _ _ => rfl)) (pa_cons (pe_op op_sub (pv 1) (pv 6)) pa_nil)))))
      (pss_one (ps_set (i := 5) sc_law.nd rfl (Or.inl rfl) (pe_op op_add (pv 5) (pe_cal c_law_up (hr.mono (by decide)) (by rfl) (pa_cons (pe_ix (r := rIxL K) ix_list (pv 3) (pv 6) (fun _ _ => rfl)) (pa_cons (pe_op op_sub (pe_op op_sub (pv 1) (pv 6)) pe_int) pa_nil))))))))))
      (pss_cons (ps_set (i := 7) sc_law.nd rfl (Or.inl rfl) (pe_cal c_least_shadow (hr.mono (by decide)) (by rfl) (pa_cons (pv 1) (pa_cons (pv 2) pa_nil))))
      (pss_cons (ps_expr (pe_bm PySem.F.plainAttrs_list PySem.F.slot_list_append PySem.F.type_list_append mt_append (pv 3) (pa_cons pe_int pa_nil)))
      (pss_one (ps_ret (pe_and (pe_cmpR op_eq (pv 4) pe_int (nomark _)) (pe_and (pe_cal c_law_whole (hr.mono (by decide)) (by rfl) (pa_cons (pv 7) pa_nil)) (pe_and (pe_cmpR op_eq (pv 7) (pv 5) (nomark _)) (pe_one (pe_cmpR (r := rEqD K) (op_eqD hr.units) (pe_cal c_heap (hr.mono (by decide)) (by rfl) (pa_cons (pv 1) (pa_cons (pv 2) pa_nil))) (pe_slice (r := rSlL K) sl_list (pv 3) po_none (po_some (pe_un un_neg pe_int))) (nomark _))))))))))))))))), ?_⟩
    obtain ⟨k, hk⟩ : ∃ k : Nat, 1 + cellI ns 0 % 6 = (k : Int) := ⟨(1 + cellI ns 0 % 6).toNat, by omega⟩
    have hk1 : 0 < k := by omega
    have hk6 : k ≤ 6 := by omega
    refine q_asg (v := .int (k : Int)) (ev_is (ev_op ev_c (ev_op (ev_cal (by walk_at "ea") (spv_cell 0 hS)) ev_c (rv_mod (by decide))) rv_I0) (congrArg V.int hk)) fun H1 e1 => ?_
    refine q_asgP (P := fun v _ => ∃ m : Nat, v = .int (m : Int) ∧ m ≤ 10 ^ 12) (evp_cal (ea_cons (ev_cal (by walk_at "ea") (spv_cell 1 (ex_l e1 hS))) (by walk_at "ea")) fun H2 e2 Q q E => ⟨_, _, rfl, ⟨by omega, by omega⟩, q⟩) ?_
    rintro _ H2 e2 ⟨m, rfl, hm⟩
    have hm3 : m ≤ 10 ^ 13 := by omega
    refine q_asgL (el_cal (by walk_at "ea") (spl_heap ⟨hk1, hk6, hm3⟩)) fun l H3 hl e3 hL => ?_
    have hk0 : k = 0 → m = 0 := by omega
    have hat := hp_at k m hk0
    have hlr : (hpI k m).length = (hp k m).length := by
      unfold hpI
      rw [List.length_map]
    have hlr2 : ((hpI k m).map V.int).length = (hp k m).length := by rw [List.length_map, hlr]
    have hrow : ∀ (i t : Nat), (hp k m)[i]? = some t → (hpI k m)[i]? = some ((t : Nat) : Int) := fun i t h => by
      unfold hpI
      rw [List.getElem?_map, h]
      rfl
    refine q_when (b := false) (et_is (et_or (et_not (et_B (ev_isi (a := "list") (b := "list") (k := true) (ev_var rfl) (fun H4 e4 => .base (.lst (e4 _ _ hL))) (by decide +kernel)))) fun _ => et_test (ev_op (ev_len (ev_var rfl) (sq_of hL)) (ev_var rfl) rv_I0)) (by
      rw [hlr2]
      have := hat.len
      simp
      omega)) (fun hb => absurd hb (by decide)) fun _ H4 e4 => ?_
    refine q_asg (v := .int (m : Int)) (ev_var rfl) fun H5 e5 => ?_
    refine q_asg (v := .int 0) ev_c fun H6 e6 => ?_
    have hL6 := e6 _ _ (e5 _ _ (e4 _ _ hL))
    have e36 : Ex H3 H6 := (e4.trans e5).trans e6
    refine q_forR1 (n := ((hp k m).length : Int)) (ea_cons (ev_is (ev_len (ev_var rfl) (sq_of hL6)) (by rw [hlr2])) ea_nil) (by have := hat.len; omega) (fun i σ' H' => ∃ y, σ' = [some (.ref a), some (.int (k : Int)), some (.int (m : Int)), some (.ref l), some (.int ((m - chs k ((hp k m).take i) : Nat) : Int)), some (.int ((chd k ((hp k m).take i) : Nat) : Int)), y, none] ∧ Ex H3 H') (fun H7 e7 => ⟨none, rfl, e36.trans e7⟩) ?_ ?_
    · rintro i σ' H' hi ⟨y, rfl, e⟩
      have hi2 : i < (hp k m).length := by omega
      obtain ⟨t, ht⟩ : ∃ t, (hp k m)[i]? = some t := ⟨_, List.getElem?_eq_getElem hi2⟩
      obtain ⟨h1, h2, h3, h4, h5⟩ := hat.at_ i t ht
      have hb := hp_bd hk0 i t ht
      have ki : ((k : Int) - (i : Int)) = ((k - i : Nat) : Int) := by omega
      have ki1 : ((k : Int) - (i : Int) - 1) = ((k - i - 1 : Nat) : Int) := by omega
      have evr : ∀ {sg : L2.St} {H1 : Hp}, Ex H3 H1 → sg[3]? = some (some (.ref l)) → sg[6]? = some (some (.int (i : Int))) → Ev (tOp (rIxL K) (tVar 3) (tVar 6)) sg H1 (.int (t : Int)) := fun e h3 h6 => ev_op (ev_var h3) (ev_var h6) (rv_ixL (sq_of (e _ _ hL)) (at_int rfl (hrow i t ht)))
      refine q_when (b := false) (et_is (et_or (et_not (et_B (ev_cal (ea_cons (evr e rfl rfl) ea_nil) (spv_whole (t : Int))))) fun _ => et_or (et_test (ev_op (evr e rfl rfl) (ev_op (ev_var rfl) (ev_var rfl) rv_I0) rv_I0)) fun _ => et_and (b := false) (et_test (ev_op (ev_var rfl) ev_c rv_I0)) fun hpos => ?_) (by
        rw [ki]
        simp
        omega)) (fun hb => absurd hb (by decide)) fun _ H7 e7 => ?_
      · have hi0 : 0 < i := by
          have := of_decide_eq_true hpos
          omega
        obtain ⟨u, hu⟩ : ∃ u, (hp k m)[i - 1]? = some u := ⟨_, List.getElem?_eq_getElem (show i - 1 < (hp k m).length by omega)⟩
        have hf := hat.fall (i - 1) u t hu (by rw [show i - 1 + 1 = i by omega]; exact ht)
        refine et_is (et_test (ev_op (evr e rfl rfl) (ev_op (ev_var rfl) (ev_op (ev_var rfl) ev_c rv_I0) (rv_ixL (sq_of (e _ _ hL)) (at_int (by omega) (hrow (i - 1) u hu)))) rv_I0)) ?_
        simp
        omega
      · have e7' := e.trans e7
        refine q_when (b := false) (et_is (et_test (ev_op (ev_cal (ea_cons (ev_op (evr e7' rfl rfl) ev_c rv_I0) (ea_cons (ev_is (ev_op (ev_var rfl) (ev_var rfl) rv_I0) (congrArg V.int ki)) ea_nil)) (spv_choices ⟨by omega, by omega, by omega, by omega⟩)) (ev_var rfl) rv_I0)) (by
          rw [show ((t : Int) + 1) = ((t + 1 : Nat) : Int) by omega, chI_nat]
          simp
          omega)) (fun hb => absurd hb (by decide)) fun _ H8 e8 => ?_
        have e8' := e7'.trans e8
        refine q_asg (v := .int ((m - chs k ((hp k m).take (i + 1)) : Nat) : Int)) (ev_is (ev_op (ev_var rfl) (ev_cal (ea_cons (evr e8' rfl rfl) (ea_cons (ev_is (ev_op (ev_var rfl) (ev_var rfl) rv_I0) (congrArg V.int ki)) ea_nil)) (spv_choices ⟨by omega, by omega, by omega, by omega⟩)) rv_I0) (by
          rw [chI_nat, chs_take _ _ _ _ ht]
          exact congrArg V.int (by omega))) fun H9 e9 => ?_
        have e9' := e8'.trans e9
        refine s_asg (v := .int ((chd k ((hp k m).take (i + 1)) : Nat) : Int)) (ev_is (ev_op (ev_var rfl) (ev_cal (ea_cons (evr e9' rfl rfl) (ea_cons (ev_is (ev_op (ev_op (ev_var rfl) (ev_var rfl) rv_I0) ev_c rv_I0) (congrArg V.int ki1)) ea_nil)) (spv_choices ⟨by omega, by omega, by omega, by omega⟩)) rv_I0) (by
          rw [chI_nat, chd_take _ _ _ _ ht]
          rfl)) fun H10 e10 => ⟨_, rfl, e9'.trans e10⟩
    · rintro σ' H' ⟨y, rfl, e⟩
      rw [Int.toNat_natCast, List.take_length, hat.sum]
      refine q_asg (ev_cal (by walk_at "ea") (spv_lsh ⟨hk1, hk6, hm3⟩)) fun H7 e7 => ?_
      refine q_app (l := l) (xs := (hpI k m).map V.int) ((e.trans e7) _ _ hL) (ev_var rfl) ev_c (by rw [hlr2]; have := hat.len; omega) fun H8 e8 => ?_
      refine s_ret (v := .bl true) (ev_is (ev_andV (ev_op (ev_var rfl) ev_c (rv_eq rfl)) fun _ => ev_andV (ev_cal (by walk_at "ea") (spv_whole ((lsh k m : Nat) : Int))) fun _ => ev_andV (ev_op (ev_var rfl) (ev_var rfl) (rv_eq rfl)) fun _ => P_ev (evp_op mono_IL (el_P (P := IL K (hpI k m)) (el_cal (by walk_at "ea") (spl_heap ⟨hk1, hk6, hm3⟩)) fun p H9 _ _ hp => ⟨p, rfl, sq_of hp⟩) (el_P (P := IL K (hpI k m)) (el_sl (a := l) (xs := (hpI k m).map V.int ++ [V.int 0]) (ev_var rfl) eo_none (eo_some (ev_un ev_c ru_neg)) (sq_of upd_same)) fun p H9 _ _ hp => ⟨p, rfl, sq_of (by rw [hp, cut_last])⟩) fun x y H9 _ hx hy => rvp_eqLI hx hy)) (by
        simp [lsh])) fun H9 e9 => q H9

end
end SH

namespace SH
open PySem PySem.Spec PyProof.Rows L2 Evl SM
/-! ### the end -/
theorem all_mk {l : PySem.W.OpenLaw} {w : World} {K : PySem.W.Frag} {h : Heap} {mg : Str → Option Value} {fa f0 f1 f2 f3 f4 f5 f6 f7 f8 f9 : Addr} (X : K.In h) (G : h.Ns mainGlobals mg) (hfa : mg "law" = some (.ref fa))
    {od0 an0 : Option Addr} {sl0 : Array (Option Value)} {oc0 kV0 dc0 pm0 cd0 ct0 : Value}
    {od1 an1 : Option Addr} {sl1 : Array (Option Value)} {oc1 kV1 dc1 pm1 cd1 ct1 : Value}
    {od2 an2 : Option Addr} {sl2 : Array (Option Value)} {oc2 kV2 dc2 pm2 cd2 ct2 : Value}
    {od3 an3 : Option Addr} {sl3 : Array (Option Value)} {oc3 kV3 dc3 pm3 cd3 ct3 : Value}
    {od4 an4 : Option Addr} {sl4 : Array (Option Value)} {oc4 kV4 dc4 pm4 cd4 ct4 : Value}
    {od5 an5 : Option Addr} {sl5 : Array (Option Value)} {oc5 kV5 dc5 pm5 cd5 ct5 : Value}
    {od6 an6 : Option Addr} {sl6 : Array (Option Value)} {oc6 kV6 dc6 pm6 cd6 ct6 : Value}
    {od7 an7 : Option Addr} {sl7 : Array (Option Value)} {oc7 kV7 dc7 pm7 cd7 ct7 : Value}
    {od8 an8 : Option Addr} {sl8 : Array (Option Value)} {oc8 kV8 dc8 pm8 cd8 ct8 : Value}
    {od9 an9 : Option Addr} {sl9 : Array (Option Value)} {oc9 kV9 dc9 pm9 cd9 ct9 : Value}
    (a0 : PySem.W.nsIn K mainGlobals "_law_choices" = some (some (.ref f0))) (l0 : K.lookup f0 = some ⟨oc0, od0, .func (PySem.W.fnOf "_law_choices" "_law_choices" (defArgs s_law_choices) (defBody s_law_choices) (defScope s_law_choices) .none kV0 dc0 pm0 an0 cd0 ct0), sl0⟩) (c0 : PySem.W.codeIn K cd0 "_law_choices" = true) (k0 : PySem.W.keepIn K (.ref f0) = true)
    (a1 : PySem.W.nsIn K mainGlobals "_law_many_by" = some (some (.ref f1))) (l1 : K.lookup f1 = some ⟨oc1, od1, .func (PySem.W.fnOf "_law_many_by" "_law_many_by" (defArgs s_law_many_by) (defBody s_law_many_by) (defScope s_law_many_by) .none kV1 dc1 pm1 an1 cd1 ct1), sl1⟩) (c1 : PySem.W.codeIn K cd1 "_law_many_by" = true) (k1 : PySem.W.keepIn K (.ref f1) = true)
    (a2 : PySem.W.nsIn K mainGlobals "choices" = some (some (.ref f2))) (l2 : K.lookup f2 = some ⟨oc2, od2, .func (PySem.W.fnOf "choices" "choices" (defArgs s_choices) (defBody s_choices) (defScope s_choices) .none kV2 dc2 pm2 an2 cd2 ct2), sl2⟩) (c2 : PySem.W.codeIn K cd2 "choices" = true) (k2 : PySem.W.keepIn K (.ref f2) = true)
    (a3 : PySem.W.nsIn K mainGlobals "further" = some (some (.ref f3))) (l3 : K.lookup f3 = some ⟨oc3, od3, .func (PySem.W.fnOf "further" "further" (defArgs s_further) (defBody s_further) (defScope s_further) .none kV3 dc3 pm3 an3 cd3 ct3), sl3⟩) (c3 : PySem.W.codeIn K cd3 "further" = true) (k3 : PySem.W.keepIn K (.ref f3) = true)
    (a4 : PySem.W.nsIn K mainGlobals "heap" = some (some (.ref f4))) (l4 : K.lookup f4 = some ⟨oc4, od4, .func (PySem.W.fnOf "heap" "heap" (defArgs s_heap) (defBody s_heap) (defScope s_heap) .none kV4 dc4 pm4 an4 cd4 ct4), sl4⟩) (c4 : PySem.W.codeIn K cd4 "heap" = true) (k4 : PySem.W.keepIn K (.ref f4) = true)
    (a5 : PySem.W.nsIn K mainGlobals "least_shadow" = some (some (.ref f5))) (l5 : K.lookup f5 = some ⟨oc5, od5, .func (PySem.W.fnOf "least_shadow" "least_shadow" (defArgs s_least_shadow) (defBody s_least_shadow) (defScope s_least_shadow) .none kV5 dc5 pm5 an5 cd5 ct5), sl5⟩) (c5 : PySem.W.codeIn K cd5 "least_shadow" = true) (k5 : PySem.W.keepIn K (.ref f5) = true)
    (a6 : PySem.W.nsIn K mainGlobals "_law_cell_at" = some (some (.ref f6))) (l6 : K.lookup f6 = some ⟨oc6, od6, .func (PySem.W.fnOf "_law_cell_at" "_law_cell_at" (defArgs s_law_cell_at) (defBody s_law_cell_at) (defScope s_law_cell_at) .none kV6 dc6 pm6 an6 cd6 ct6), sl6⟩) (c6 : PySem.W.codeIn K cd6 "_law_cell_at" = true) (k6 : PySem.W.keepIn K (.ref f6) = true)
    (a7 : PySem.W.nsIn K mainGlobals "_law_whole" = some (some (.ref f7))) (l7 : K.lookup f7 = some ⟨oc7, od7, .func (PySem.W.fnOf "_law_whole" "_law_whole" (defArgs s_law_whole) (defBody s_law_whole) (defScope s_law_whole) .none kV7 dc7 pm7 an7 cd7 ct7), sl7⟩) (c7 : PySem.W.codeIn K cd7 "_law_whole" = true) (k7 : PySem.W.keepIn K (.ref f7) = true)
    (a8 : PySem.W.nsIn K mainGlobals "_law_up" = some (some (.ref f8))) (l8 : K.lookup f8 = some ⟨oc8, od8, .func (PySem.W.fnOf "_law_up" "_law_up" (defArgs s_law_up) (defBody s_law_up) (defScope s_law_up) .none kV8 dc8 pm8 an8 cd8 ct8), sl8⟩) (c8 : PySem.W.codeIn K cd8 "_law_up" = true) (k8 : PySem.W.keepIn K (.ref f8) = true)
    (a9 : PySem.W.nsIn K mainGlobals "law" = some (some (.ref f9))) (l9 : K.lookup f9 = some ⟨oc9, od9, .func (PySem.W.fnOf "law" "law" (defArgs s_law) (defBody s_law) (defScope s_law) .none kV9 dc9 pm9 an9 cd9 ct9), sl9⟩) (c9 : PySem.W.codeIn K cd9 "law" = true) (k9 : PySem.W.keepIn K (.ref f9) = true)
    (z_range : PySem.W.nsIn K mainGlobals "range" = some none)
    (z_sum : PySem.W.nsIn K mainGlobals "sum" = some none)
    (z_len : PySem.W.nsIn K mainGlobals "len" = some none)
    (z_isinstance : PySem.W.nsIn K mainGlobals "isinstance" = some none)
    (z_int : PySem.W.nsIn K mainGlobals "int" = some none)
    (z_bool : PySem.W.nsIn K mainGlobals "bool" = some none)
    (z_max : PySem.W.nsIn K mainGlobals "max" = some none)
    (z_min : PySem.W.nsIn K mainGlobals "min" = some none)
    (z_list : PySem.W.nsIn K mainGlobals "list" = some none) :
    ∃ fd : FuncData, (∀ (s : Shared) (v : Value), BindsTo s fd ⟨[v], []⟩ [("script", v)]) ∧ ∀ base : Heap, K.In base → base.Ns mainGlobals mg → FnOk l.prog w K mg base CX0 5 fa fd ["script"] (sp_law K) := by
  have e := hfa.symm.trans (PySem.W.mg_of X G a9)
  cases e
  have T : Tx K mg := ⟨PySem.W.mg_none_of X G z_range, PySem.W.mg_none_of X G z_sum, PySem.W.mg_none_of X G z_len, PySem.W.mg_none_of X G z_isinstance, PySem.W.mg_none_of X G z_int, PySem.W.mg_none_of X G z_bool, PySem.W.mg_none_of X G z_max, PySem.W.mg_none_of X G z_min, PySem.W.mg_none_of X G z_list⟩
  have F0 := fun_mk (st := s_law_choices) l0 c0 k0
  have b0 := F0.binds (ps := ["a", "b"]) fun _ _ _ _ _ _ us hl => match us, hl with | [_, _], _ => rfl
  have F1 := fun_mk (st := s_law_many_by) l1 c1 k1
  have b1 := F1.binds (ps := ["cell", "size"]) fun _ _ _ _ _ _ us hl => match us, hl with | [_, _], _ => rfl
  have F2 := fun_mk (st := s_choices) l2 c2 k2
  have b2 := F2.binds (ps := ["a", "b"]) fun _ _ _ _ _ _ us hl => match us, hl with | [_, _], _ => rfl
  have F3 := fun_mk (st := s_further) l3 c3 k3
  have b3 := F3.binds (ps := ["top", "place", "many"]) fun _ _ _ _ _ _ us hl => match us, hl with | [_, _, _], _ => rfl
  have F4 := fun_mk (st := s_heap) l4 c4 k4
  have b4 := F4.binds (ps := ["size", "many"]) fun _ _ _ _ _ _ us hl => match us, hl with | [_, _], _ => rfl
  have F5 := fun_mk (st := s_least_shadow) l5 c5 k5
  have b5 := F5.binds (ps := ["size", "many"]) fun _ _ _ _ _ _ us hl => match us, hl with | [_, _], _ => rfl
  have F6 := fun_mk (st := s_law_cell_at) l6 c6 k6
  have b6 := F6.binds (ps := ["script", "k"]) fun _ _ _ _ _ _ us hl => match us, hl with | [_, _], _ => rfl
  have F7 := fun_mk (st := s_law_whole) l7 c7 k7
  have b7 := F7.binds (ps := ["found"]) fun _ _ _ _ _ _ us hl => match us, hl with | [_], _ => rfl
  have F8 := fun_mk (st := s_law_up) l8 c8 k8
  have b8 := F8.binds (ps := ["a", "b"]) fun _ _ _ _ _ _ us hl => match us, hl with | [_, _], _ => rfl
  have F9 := fun_mk (st := s_law) l9 c9 k9
  refine ⟨PySem.W.fnOf "law" "law" (defArgs s_law) (defBody s_law) (defScope s_law) .none kV9 dc9 pm9 an9 cd9 ct9, fun s v => .of_eq rfl, fun base _ _ => ?_⟩
  have C0 : Cal l.prog w K mg base "_law_choices" 1 ["a", "b"] (sp_law_choices K) := cal_mk F0 (PySem.W.mg_of X G a0) b0 (ok_law_choices F0 T)
  have C1 : Cal l.prog w K mg base "_law_many_by" 2 ["cell", "size"] (sp_law_many_by K) := cal_mk F1 (PySem.W.mg_of X G a1) b1 (ok_law_many_by F1 T C0)
  have C2 : Cal l.prog w K mg base "choices" 1 ["a", "b"] (sp_choices K) := cal_mk F2 (PySem.W.mg_of X G a2) b2 (ok_choices F2 T)
  have C3 : Cal l.prog w K mg base "further" 2 ["top", "place", "many"] (sp_further K) := cal_mk F3 (PySem.W.mg_of X G a3) b3 (ok_further F3 T C2)
  have C4 : Cal l.prog w K mg base "heap" 3 ["size", "many"] (sp_heap K) := cal_mk F4 (PySem.W.mg_of X G a4) b4 (ok_heap F4 T C2 C3)
  have C5 : Cal l.prog w K mg base "least_shadow" 4 ["size", "many"] (sp_least_shadow K) := cal_mk F5 (PySem.W.mg_of X G a5) b5 (ok_least_shadow F5 T C4 C2)
  have C6 : Cal l.prog w K mg base "_law_cell_at" 1 ["script", "k"] (sp_law_cell_at K) := cal_mk F6 (PySem.W.mg_of X G a6) b6 (ok_law_cell_at F6 T)
  have C7 : Cal l.prog w K mg base "_law_whole" 1 ["found"] (sp_law_whole K) := cal_mk F7 (PySem.W.mg_of X G a7) b7 (ok_law_whole F7 T)
  have C8 : Cal l.prog w K mg base "_law_up" 1 ["a", "b"] (sp_choices K) := cal_mk F8 (PySem.W.mg_of X G a8) b8 (ok_law_up F8 T)
  exact ok_law F9 T C1 C4 C5 C6 C7 C8
end SH
open PySem PySem.W PyProof.Rows
set_option maxRecDepth 100000 in
set_option maxHeartbeats 0 in
theorem PySem.Challenge.cw_shadowheaps_k07_heaps_holds : PySem.Challenge.rw_shadowheaps_k07_heaps.Holds := by
  w_on; o_law; k_head; (case hw => w_witness2)
  k_fill
  refine L2.walk_of (l := PySem.Challenge.rw_shadowheaps_k07_heaps) (n := 63) (k := 5) (x := "script") (CX := fun _ => L2.CX0) (sp := fun w => SH.sp_law _) rfl (by decide) rfl ⟨rfl, by decide, by decide⟩ (fun w h Y => PySem.W.kIn_of Y) ?F (fun _ _ a ns hl _ hS => ⟨a, ns, rfl, hS, hl, fun _ => rfl⟩) (fun _ _ _ _ _ h => h)
  case F =>
    intro w mg fa h KX G hmg
    refine' SH.all_mk KX G hmg ?a0 ?l0 ?c0 ?k0 ?a1 ?l1 ?c1 ?k1 ?a2 ?l2 ?c2 ?k2 ?a3 ?l3 ?c3 ?k3 ?a4 ?l4 ?c4 ?k4 ?a5 ?l5 ?c5 ?k5 ?a6 ?l6 ?c6 ?k6 ?a7 ?l7 ?c7 ?k7 ?a8 ?l8 ?c8 ?k8 ?a9 ?l9 ?c9 ?k9 ?z_range ?z_sum ?z_len ?z_isinstance ?z_int ?z_bool ?z_max ?z_min ?z_list
    (case a0 => k_is)
    (case l0 => k_is)
    (case c0 => k_is)
    (case k0 => k_is)
    (case a1 => k_is)
    (case l1 => k_is)
    (case c1 => k_is)
    (case k1 => k_is)
    (case a2 => k_is)
    (case l2 => k_is)
    (case c2 => k_is)
    (case k2 => k_is)
    (case a3 => k_is)
    (case l3 => k_is)
    (case c3 => k_is)
    (case k3 => k_is)
    (case a4 => k_is)
    (case l4 => k_is)
    (case c4 => k_is)
    (case k4 => k_is)
    (case a5 => k_is)
    (case l5 => k_is)
    (case c5 => k_is)
    (case k5 => k_is)
    (case a6 => k_is)
    (case l6 => k_is)
    (case c6 => k_is)
    (case k6 => k_is)
    (case a7 => k_is)
    (case l7 => k_is)
    (case c7 => k_is)
    (case k7 => k_is)
    (case a8 => k_is)
    (case l8 => k_is)
    (case c8 => k_is)
    (case k8 => k_is)
    (case a9 => k_is)
    (case l9 => k_is)
    (case c9 => k_is)
    (case k9 => k_is)
    (case z_range => k_is)
    (case z_sum => k_is)
    (case z_len => k_is)
    (case z_isinstance => k_is)
    (case z_int => k_is)
    (case z_bool => k_is)
    (case z_max => k_is)
    (case z_min => k_is)
    (case z_list => k_is)
#print axioms PySem.Challenge.cw_shadowheaps_k07_heaps_holds
