import PyProof.Rows.All
import Wide.All
import OpenK.AllK
import Wide.FinOn
import KE.KStateDown
import HandS.ForMost
import HandS.Codes
import HandS.Defaults
import HandS.IsInst
import HandS.Style
import HandS.TupAny
import HandS.More
import HandS.NoneIn
import HandS.Zip
import KE.GoesEnum
import KE.KOpsOwn
import HandS.Head0
import HandS.Head1
import HandS.Head2
import HandS.HeadEnd
import HandS.HeadHook1
import HandS.HeadHook2
import PySem.Challenge.RW_brimful_k07_whole_programs_are_undone
set_option Elab.async false
set_option linter.all false
set_option maxRecDepth 100000
set_option maxHeartbeats 4000000
/-! reading lemmas: one for each word of a derivation -/
namespace Bf
open PySem L2
/-! ### heaps -/
theorem same_new {H : Hp} {p : Addr} {o : HO} (n : H p = none) : Same H (upd H p o) := fun b u e => by
  rw [upd_ne (ne_of_none e n)]
  exact e
/-- all but the object at d is kept -/
def Kp (d : Addr) (H H' : Hp) : Prop := ∀ b o, b ≠ d → H b = some o → H' b = some o
theorem Kp.refl (d : Addr) (H : Hp) : Kp d H H := fun _ _ _ h => h
theorem Kp.trans {d : Addr} {H H1 H2 : Hp} (a : Kp d H H1) (b : Kp d H1 H2) : Kp d H H2 := fun x o n h => b x o n (a x o n h)
theorem Kp.of {d : Addr} {H H' : Hp} (s : Same H H') : Kp d H H' := fun b o _ h => s b o h
theorem Kp.upd (d : Addr) (H : Hp) (o : HO) : Kp d H (L2.upd H d o) := fun b u n h => by rw [upd_ne n]; exact h
/-- a tuple is kept -/
def TK (H H' : Hp) : Prop := ∀ b xs, H b = some (.tup xs) → H' b = some (.tup xs)
theorem TK.refl (H : Hp) : TK H H := fun _ _ h => h
theorem TK.trans {H H1 H2 : Hp} (a : TK H H1) (b : TK H1 H2) : TK H H2 := fun x o h => b x o (a x o h)
theorem TK.of {H H' : Hp} (s : Same H H') : TK H H' := fun b xs h => s b _ h
theorem TK.kp {d : Addr} {H H' : Hp} {xs : List V} (h : H d = some (.lst xs)) (k : Kp d H H') : TK H H' := fun b ys e => k b _ (ne_of e h (by intro z; cases z)) e
/-! ### data: what a value is, by the heap -/
inductive Dt where
  | i (n : Int) | s (x : Str) | b (k : Bool) | non | t (l : List Dt) | l (l : List Dt)
mutual
def Rp (H : Hp) : Dt → V → Prop
  | .i n, v => v = .int n
  | .s x, v => v = .str x
  | .b k, v => v = .bl k
  | .non, v => v = .non
  | .t l, v => ∃ a vs, v = .ref a ∧ H a = some (.tup vs) ∧ RpL H l vs
  | .l l, v => ∃ a vs, v = .ref a ∧ H a = some (.lst vs) ∧ RpL H l vs
def RpL (H : Hp) : List Dt → List V → Prop
  | [], vs => vs = []
  | d :: r, vs => ∃ v ws, vs = v :: ws ∧ Rp H d v ∧ RpL H r ws
end
mutual
def Dt.flat : Dt → Bool
  | .t ls => Dt.flats ls
  | .l _ => false
  | _ => true
def Dt.flats : List Dt → Bool
  | [] => true
  | d :: r => d.flat && Dt.flats r
end
mutual
def Dt.dep : Dt → Nat
  | .t ls => Dt.deps ls + 1
  | .l ls => Dt.deps ls + 1
  | _ => 0
def Dt.deps : List Dt → Nat
  | [] => 0
  | d :: r => max d.dep (Dt.deps r)
end
mutual
theorem Rp.same {H H' : Hp} (s : Same H H') : ∀ {d : Dt} {v : V}, Rp H d v → Rp H' d v
  | .i _, _, h => h
  | .s _, _, h => h
  | .b _, _, h => h
  | .non, _, h => h
  | .t l, _, h => by
    obtain ⟨a, vs, e, ha, hl⟩ := h
    exact ⟨a, vs, e, s _ _ ha, RpL.same s hl⟩
  | .l l, _, h => by
    obtain ⟨a, vs, e, ha, hl⟩ := h
    exact ⟨a, vs, e, s _ _ ha, RpL.same s hl⟩
theorem RpL.same {H H' : Hp} (s : Same H H') : ∀ {l : List Dt} {vs : List V}, RpL H l vs → RpL H' l vs
  | [], _, h => h
  | _ :: _, _, h => by
    obtain ⟨v, ws, e, hv, hw⟩ := h
    exact ⟨v, ws, e, Rp.same s hv, RpL.same s hw⟩
end
mutual
theorem Rp.tk {H H' : Hp} (s : TK H H') : ∀ {d : Dt} {v : V}, d.flat = true → Rp H d v → Rp H' d v
  | .i _, _, _, h => h
  | .s _, _, _, h => h
  | .b _, _, _, h => h
  | .non, _, _, h => h
  | .t l, _, f, h => by
    obtain ⟨a, vs, e, ha, hl⟩ := h
    exact ⟨a, vs, e, s _ _ ha, RpL.tk s f hl⟩
  | .l ls, _, f, _ => by simp [Dt.flat] at f
theorem RpL.tk {H H' : Hp} (s : TK H H') : ∀ {l : List Dt} {vs : List V}, Dt.flats l = true → RpL H l vs → RpL H' l vs
  | [], _, _, h => h
  | _ :: _, _, f, h => by
    obtain ⟨v, ws, e, hv, hw⟩ := h
    simp only [Dt.flats, Bool.and_eq_true] at f
    exact ⟨v, ws, e, Rp.tk s f.1 hv, RpL.tk s f.2 hw⟩
end
theorem RpL.len {H : Hp} : ∀ {l : List Dt} {vs : List V}, RpL H l vs → vs.length = l.length
  | [], _, h => by rw [show _ = _ from h]; rfl
  | _ :: _, _, h => by
    obtain ⟨v, ws, e, _, hw⟩ := h
    rw [e, List.length_cons, List.length_cons, RpL.len hw]
theorem RpL.at {H : Hp} : ∀ {l : List Dt} {vs : List V} {i : Nat} {v : V}, RpL H l vs → vs[i]? = some v → ∃ d, l[i]? = some d ∧ Rp H d v
  | [], _, _, _, h, e => by rw [show _ = _ from h] at e; simp at e
  | d :: _, _, 0, _, h, e => by
    obtain ⟨w, ws, e1, hv, hw⟩ := h
    subst e1
    simp at e
    subst e
    exact ⟨d, rfl, hv⟩
  | _ :: _, _, i + 1, _, h, e => by
    obtain ⟨w, ws, e1, hv, hw⟩ := h
    subst e1
    obtain ⟨d, h1, h2⟩ := RpL.at (i := i) hw (by simpa using e)
    exact ⟨d, by simpa using h1, h2⟩
theorem RpL.get {H : Hp} : ∀ {l : List Dt} {vs : List V} {i : Nat} {d : Dt}, RpL H l vs → l[i]? = some d → ∃ v, vs[i]? = some v ∧ Rp H d v
  | [], _, _, _, _, e => by simp at e
  | d :: _, _, 0, _, h, e => by
    obtain ⟨w, ws, e1, hv, hw⟩ := h
    subst e1
    simp at e
    subst e
    exact ⟨w, rfl, hv⟩
  | _ :: _, _, i + 1, _, h, e => by
    obtain ⟨w, ws, e1, hv, hw⟩ := h
    subst e1
    obtain ⟨v, h1, h2⟩ := RpL.get (i := i) hw (by simpa using e)
    exact ⟨v, by simpa using h1, h2⟩
theorem RpL.snoc {H : Hp} {d : Dt} {v : V} (hv : Rp H d v) : ∀ {l : List Dt} {vs : List V}, RpL H l vs → RpL H (l ++ [d]) (vs ++ [v])
  | [], _, h => by
    rw [show _ = _ from h]
    exact ⟨v, [], rfl, hv, rfl⟩
  | _ :: _, _, h => by
    obtain ⟨w, ws, e, h1, h2⟩ := h
    subst e
    exact ⟨w, ws ++ [v], rfl, h1, RpL.snoc hv h2⟩
theorem RpL.app {H : Hp} {m : List Dt} {us : List V} (hm : RpL H m us) : ∀ {l : List Dt} {vs : List V}, RpL H l vs → RpL H (l ++ m) (vs ++ us)
  | [], _, h => by
    rw [show _ = _ from h]
    exact hm
  | _ :: _, _, h => by
    obtain ⟨w, ws, e, h1, h2⟩ := h
    subst e
    exact ⟨w, ws ++ us, rfl, h1, RpL.app hm h2⟩
theorem RpL.take {H : Hp} : ∀ {l : List Dt} {vs : List V} (n : Nat), RpL H l vs → RpL H (l.take n) (vs.take n)
  | _, _, 0, _ => by simp [RpL]
  | [], _, n + 1, h => by rw [show _ = _ from h]; rfl
  | _ :: _, _, n + 1, h => by
    obtain ⟨w, ws, e, h1, h2⟩ := h
    subst e
    exact ⟨w, ws.take n, rfl, h1, RpL.take n h2⟩
theorem RpL.drop {H : Hp} : ∀ {l : List Dt} {vs : List V} (n : Nat), RpL H l vs → RpL H (l.drop n) (vs.drop n)
  | _, _, 0, h => h
  | [], _, n + 1, h => by rw [show _ = _ from h]; rfl
  | _ :: _, _, n + 1, h => by
    obtain ⟨w, ws, e, h1, h2⟩ := h
    subst e
    exact RpL.drop n h2
theorem RpL.rev {H : Hp} : ∀ {l : List Dt} {vs : List V}, RpL H l vs → RpL H l.reverse vs.reverse
  | [], _, h => by rw [show _ = _ from h]; rfl
  | _ :: _, _, h => by
    obtain ⟨w, ws, e, h1, h2⟩ := h
    subst e
    rw [List.reverse_cons, List.reverse_cons]
    exact (RpL.rev h2).snoc h1
theorem RpL.ints {H : Hp} : ∀ (ns : List Int), RpL H (ns.map Dt.i) (ns.map V.int)
  | [] => rfl
  | n :: r => ⟨.int n, r.map V.int, rfl, rfl, RpL.ints r⟩
theorem RpL.eq_ints {H : Hp} : ∀ {ns : List Int} {vs : List V}, RpL H (ns.map Dt.i) vs → vs = ns.map V.int
  | [], _, h => h
  | n :: r, _, h => by
    obtain ⟨w, ws, e, h1, h2⟩ := h
    subst e
    rw [List.map_cons, RpL.eq_ints h2, show w = V.int n from h1]
/-! ### statements -/
section
variable {K : PySem.W.Frag} {σ : St} {H H1 : Hp} {D : Ends} {t u : TS} {te ta tb tc : TE} {tt tu : TT} {g : TG} {gs : TGs} {v x y : V} {Q : VK} {R : Bool → Hp → Prop} {S : St → Hp → Prop} {i j : Nat} {a c d : St → Hp → Prop} {b : VK}
theorem r_seq (h : t ⟨u ⟨a, b, c, d⟩, b, c, d⟩ σ H) : tSeq t u ⟨a, b, c, d⟩ σ H := h
theorem r_next (h : a σ H) : tNext ⟨a, b, c, d⟩ σ H := h
theorem r_cont (h : d σ H) : tCont ⟨a, b, c, d⟩ σ H := h
theorem r_break (h : c σ H) : tBreak ⟨a, b, c, d⟩ σ H := h
theorem r_asg (h : te σ H fun x H1 => g x σ H1 a) : tAsg te g ⟨a, b, c, d⟩ σ H := h
theorem r_ret (h : te σ H b) : tRet te ⟨a, b, c, d⟩ σ H := h
theorem r_retN (h : b .non H) : tRetN ⟨a, b, c, d⟩ σ H := h
theorem r_drop (h : te σ H fun _ H1 => a σ H1) : tDrop te ⟨a, b, c, d⟩ σ H := h
theorem r_ifS (h : tt σ H fun k H1 => if k = true then t ⟨a, b, c, d⟩ σ H1 else u ⟨a, b, c, d⟩ σ H1) : tIfS tt t u ⟨a, b, c, d⟩ σ H := h
theorem r_par {ta : TA} (h : ta σ H fun vs H1 => ∃ v w, vs = [v, w] ∧ a ((σ.set i (some v)).set j (some w)) H1) : tPar i j ta ⟨a, b, c, d⟩ σ H := h
theorem r_two {P : V → V → Prop} (h : P x y) : ∃ v w, [x, y] = [v, w] ∧ P v w := ⟨x, y, rfl, h⟩
theorem r_aug {ti : TIp} (h : σ[i]? = some (some x)) (k : te σ H fun y H1 => ti x y H1 fun z H2 => a (σ.set i (some z)) H2) : tAug i te ti ⟨a, b, c, d⟩ σ H := ⟨x, h, k⟩
/-! ### targets -/
theorem r_name (h : S (σ.set i (some v)) H) : gName i v σ H S := h
theorem r_gtup {a : Addr} {xs : List V} {n : Nat} (h : H a = some (.tup xs)) (l : xs.length = n) (k : gs xs σ H S) : gTup K n gs (.ref a) σ H S := ⟨a, xs, rfl, SqT.of h, l, k⟩
theorem r_gcons {r : List V} (k : g v σ H fun σ' H' => gs r σ' H' S) : gCons g gs (v :: r) σ H S := ⟨v, r, rfl, k⟩
theorem r_gnil (k : S σ H) : gNil [] σ H S := ⟨rfl, k⟩
theorem r_gsub {t : TSet} (k : ta σ H fun o H1 => tb σ H1 fun i H2 => t o i v H2 fun H3 => S σ H3) : gSub ta tb t v σ H S := k
/-! ### expressions -/
theorem r_var (h : σ[i]? = some (some v)) (k : Q v H) : tVar i σ H Q := ⟨v, h, k⟩
theorem r_c (k : Q v H) : tC v σ H Q := k
theorem r_op {r : R2} (k : ta σ H fun x H1 => tb σ H1 fun y H2 => r x y H2 Q) : tOp r ta tb σ H Q := k
theorem r_un {r : V → Hp → VK → Prop} (k : ta σ H fun x H1 => r x H1 Q) : tUn r ta σ H Q := k
theorem r_I0 {f : Int → Int → V} {a b : Int} (k : Q (f a b) H) : rI0 f (.int a) (.int b) H Q := ⟨a, b, rfl, rfl, k⟩
theorem r_I {C : Int → Int → Prop} {f : Int → Int → V} {a b : Int} (c : C a b) (k : Q (f a b) H) : rI C f (.int a) (.int b) H Q := ⟨a, b, rfl, rfl, c, k⟩
theorem r_U {f : Int → V} {a : Int} (k : Q (f a) H) : rU f (.int a) H Q := ⟨a, rfl, k⟩
theorem r_ip {f : Int → Int → Int} {a b : Int} (k : Q (.int (f a b)) H) : ipI f (.int a) (.int b) H Q := ⟨a, b, rfl, rfl, k⟩
theorem r_eq (s : scal x y = true) (k : Q (.bl (decide (x = y))) H) : rEq x y H Q := ⟨s, k⟩
theorem r_ne (s : scal x y = true) (k : Q (.bl (!decide (x = y))) H) : rNe x y H Q := ⟨s, k⟩
theorem r_eqI {a b : Int} (k : Q (.bl (decide (a = b))) H) : rEq (.int a) (.int b) H Q := ⟨rfl, by
  rw [show decide (V.int a = V.int b) = decide (a = b) by simp]
  exact k⟩
theorem r_neI {a b : Int} (k : Q (.bl (!decide (a = b))) H) : rNe (.int a) (.int b) H Q := ⟨rfl, by
  rw [show decide (V.int a = V.int b) = decide (a = b) by simp]
  exact k⟩
theorem r_eqS {a b : Str} (k : Q (.bl (decide (a = b))) H) : rEq (.str a) (.str b) H Q := ⟨rfl, by
  rw [show decide (V.str a = V.str b) = decide (a = b) by simp]
  exact k⟩
theorem r_neS {a b : Str} (k : Q (.bl (!decide (a = b))) H) : rNe (.str a) (.str b) H Q := ⟨rfl, by
  rw [show decide (V.str a = V.str b) = decide (a = b) by simp]
  exact k⟩
theorem r_chain {r r' : R2} (k : ta σ H fun x H1 => tb σ H1 fun y H2 => r x y H2 fun z H3 => ∃ k, z = .bl k ∧ (if k = true then tc σ H3 fun w H4 => r' y w H4 Q else Q (.bl false) H3)) : tChain r r' ta tb tc σ H Q := k
theorem r_isbl {P : Bool → Prop} {c : Bool} (k : P c) : ∃ b, V.bl c = .bl b ∧ P b := ⟨c, rfl, k⟩
theorem r_test (k : te σ H fun x H' => ∃ b, x = .bl b ∧ R b H') : tTest te σ H R := k
theorem r_B (k : te σ H fun x H' => ∃ b, x = .bl b ∧ R b H') : tB te σ H R := k
theorem r_and (k : tt σ H fun c H1 => if c = true then tu σ H1 R else R false H1) : tAnd tt tu σ H R := k
theorem r_or (k : tt σ H fun c H1 => if c = true then R true H1 else tu σ H1 R) : tOr tt tu σ H R := k
theorem r_not (k : tt σ H fun c H1 => R (!c) H1) : tNot tt σ H R := k
theorem r_andV (k : ta σ H fun x H1 => ∃ c, x = .bl c ∧ if c = true then tb σ H1 Q else Q (.bl false) H1) : tAndV ta tb σ H Q := k
theorem r_orV (k : ta σ H fun x H1 => ∃ c, x = .bl c ∧ if c = true then Q (.bl true) H1 else tb σ H1 Q) : tOrV ta tb σ H Q := k
theorem r_notV (k : ta σ H fun x H1 => ∃ c, x = .bl c ∧ Q (.bl (!c)) H1) : tNotV ta σ H Q := k
theorem r_ifE (k : tt σ H fun c H1 => if c = true then ta σ H1 Q else tb σ H1 Q) : tIf tt ta tb σ H Q := k
theorem r_cons {tr : TA} {P : List V → Hp → Prop} (k : ta σ H fun x H1 => tr σ H1 fun xs H2 => P (x :: xs) H2) : tCons ta tr σ H P := k
theorem r_nil {P : List V → Hp → Prop} (k : P [] H) : tNil σ H P := k
theorem r_CB {r : List V → Hp → VK → Prop} {ta : TA} (k : ta σ H fun vs H1 => r vs H1 Q) : tCB r ta σ H Q := k
theorem r_call {sp : Sp} {dvs : List V} {E : XK} {ta : TA} (k : ta σ H fun vs H1 => sp (vs ++ dvs) H1 Q E) : tCall sp dvs E ta σ H Q := k
/-! ### tests whose answer is known -/
section
variable {A B : Prop} {c : Prop} [Decidable c]
theorem i_t (h : A) : if true = true then A else B := iteT h
theorem i_f (h : B) : if false = true then A else B := iteF h
theorem i_nt (h : B) : if (!true) = true then A else B := iteF h
theorem i_nf (h : A) : if (!false) = true then A else B := iteT h
theorem i_d1 (hc : c) (h : A) : if decide c = true then A else B := by rw [decide_eq_true hc]; exact iteT h
theorem i_d0 (hc : ¬ c) (h : B) : if decide c = true then A else B := by rw [decide_eq_false hc]; exact iteF h
theorem i_n1 (hc : c) (h : B) : if (!decide c) = true then A else B := by rw [decide_eq_true hc]; exact iteF h
theorem i_n0 (hc : ¬ c) (h : A) : if (!decide c) = true then A else B := by rw [decide_eq_false hc]; exact iteT h
theorem i_d2 (h1 : c → A) (h2 : ¬ c → B) : if decide c = true then A else B := by
  by_cases hc : c
  · exact i_d1 hc (h1 hc)
  · exact i_d0 hc (h2 hc)
theorem i_n2 (h1 : ¬ c → A) (h2 : c → B) : if (!decide c) = true then A else B := by
  by_cases hc : c
  · exact i_n1 hc (h2 hc)
  · exact i_n0 hc (h1 hc)
end
theorem q_t {c : Prop} [Decidable c] {P : Bool → Prop} (hc : c) (h : P true) : P (decide c) := by rw [decide_eq_true hc]; exact h
theorem q_d {c : Prop} [Decidable c] {P : Bool → Prop} (h1 : c → P true) (h2 : ¬ c → P false) : P (decide c) := by
  by_cases h : c
  · exact q_t h (h1 h)
  · exact (by rw [decide_eq_false h]; exact h2 h)
theorem q_f {c : Prop} [Decidable c] {P : Bool → Prop} (hc : ¬ c) (h : P false) : P (decide c) := by rw [decide_eq_false hc]; exact h
/-! ### new objects -/
def rTup (xs : List V) (H : Hp) (Q : VK) : Prop := xs.length ≤ sizeLine ∧ ∀ p, H p = none → Q (.ref p) (upd H p (.tup xs))
def rLst (xs : List V) (H : Hp) (Q : VK) : Prop := xs.length ≤ sizeLine ∧ ∀ p, H p = none → Q (.ref p) (upd H p (.lst xs))
theorem r_tup {ta : TA} (k : ta σ H fun xs H1 => rTup xs H1 Q) : tTup ta σ H Q := k
theorem r_lst {ta : TA} (k : ta σ H fun xs H1 => rLst xs H1 Q) : tLst ta σ H Q := k
theorem n_tup {xs : List V} (hl : xs.length ≤ sizeLine) (k : ∀ p H', H p = none → Same H H' → H' p = some (.tup xs) → Q (.ref p) H') : rTup xs H Q := ⟨hl, fun p n => k p _ n (same_new n) upd_same⟩
theorem n_lst {xs : List V} (hl : xs.length ≤ sizeLine) (k : ∀ p H', H p = none → Same H H' → H' p = some (.lst xs) → Q (.ref p) H') : rLst xs H Q := ⟨hl, fun p n => k p _ n (same_new n) upd_same⟩
theorem n_new {Q : VK} {o : HO} (k : ∀ p H', H p = none → Same H H' → H' p = some o → Q (.ref p) H') : ∀ p, H p = none → Q (.ref p) (upd H p o) := fun p n => k p _ n (same_new n) upd_same
/-! ### places -/
theorem r_ixL {p : Addr} {xs : List V} {n : Int} (h : H p = some (.lst xs)) (a : atI xs n = some v) (k : Q v H) : rIx K (.ref p) (.int n) H Q := .inl ⟨p, xs, n, v, rfl, rfl, SqL.of h, a, k⟩
theorem r_ixSL {p : Addr} {xs : List V} {n : Int} (h : SqL K H p xs) (a : atI xs n = some v) (k : Q v H) : rIx K (.ref p) (.int n) H Q := .inl ⟨p, xs, n, v, rfl, rfl, h, a, k⟩
theorem r_ixT {p : Addr} {xs : List V} {n : Int} (h : H p = some (.tup xs)) (a : atI xs n = some v) (k : Q v H) : rIx K (.ref p) (.int n) H Q := .inr (.inl ⟨p, xs, n, v, rfl, rfl, SqT.of h, a, k⟩)
theorem at_nat {α : Type} {xs : List α} {n : Int} {w : α} (h0 : 0 ≤ n) (h : xs[n.toNat]? = some w) : atI xs n = some w := by
  have e : n = ((n.toNat : Nat) : Int) := by omega
  rw [e]
  exact atI_nat h
theorem n_setL {p : Addr} {xs : List V} {n : Int} {P : Hp → Prop} (h : H p = some (.lst xs)) (h0 : 0 ≤ n) (h1 : n < xs.length) (k : ∀ H', Kp p H H' → H' p = some (.lst (xs.set n.toNat v)) → P H') : rSetL (.ref p) (.int n) v H P :=
  ⟨p, xs, n, n.toNat, rfl, rfl, h, by unfold ixN; rw [if_pos h0, if_pos h1], k _ (Kp.upd p H _) upd_same⟩
/-! ### kinds -/
theorem isi_ {a b : String} {r : Bool} {u : V} (ty : TyX K H u (.type a)) (e : kitB a b = some r) (k : Q (.bl r) H) : rIsi K [u, .ty b] H Q := ⟨u, .ty b, .type a, .type b, r, rfl, .ty b, ty, kit_ty e, k⟩
theorem ty_i {n : Int} : TyX K H (.int n) (.type "int") := .base (.int n)
theorem ty_s {z : Str} : TyX K H (.str z) (.type "str") := .base (.str z)
theorem ty_b {z : Bool} : TyX K H (.bl z) (.type "bool") := .base (.bl z)
theorem ty_n : TyX K H .non (.type "NoneType") := .base .non
theorem ty_t {a : Addr} {xs : List V} (h : H a = some (.tup xs)) : TyX K H (.ref a) (.type "tuple") := .base (.tup h)
theorem ty_l {a : Addr} {xs : List V} (h : H a = some (.lst xs)) : TyX K H (.ref a) (.type "list") := .base (.lst h)
theorem kb_ii : kitB "int" "int" = some true := by decide +kernel
theorem kb_ib : kitB "int" "bool" = some false := by decide +kernel
theorem kb_is : kitB "int" "str" = some false := by decide +kernel
theorem kb_it : kitB "int" "tuple" = some false := by decide +kernel
theorem kb_il : kitB "int" "list" = some false := by decide +kernel
theorem kb_si : kitB "str" "int" = some false := by decide +kernel
theorem kb_sb : kitB "str" "bool" = some false := by decide +kernel
theorem kb_ss : kitB "str" "str" = some true := by decide +kernel
theorem kb_st : kitB "str" "tuple" = some false := by decide +kernel
theorem kb_sl : kitB "str" "list" = some false := by decide +kernel
theorem kb_bi : kitB "bool" "int" = some true := by decide +kernel
theorem kb_bb : kitB "bool" "bool" = some true := by decide +kernel
theorem kb_bs : kitB "bool" "str" = some false := by decide +kernel
theorem kb_bt : kitB "bool" "tuple" = some false := by decide +kernel
theorem kb_bL : kitB "bool" "list" = some false := by decide +kernel
theorem kb_ni : kitB "NoneType" "int" = some false := by decide +kernel
theorem kb_nb : kitB "NoneType" "bool" = some false := by decide +kernel
theorem kb_ns : kitB "NoneType" "str" = some false := by decide +kernel
theorem kb_nt : kitB "NoneType" "tuple" = some false := by decide +kernel
theorem kb_nl : kitB "NoneType" "list" = some false := by decide +kernel
theorem kb_ti : kitB "tuple" "int" = some false := by decide +kernel
theorem kb_tb : kitB "tuple" "bool" = some false := by decide +kernel
theorem kb_ts : kitB "tuple" "str" = some false := by decide +kernel
theorem kb_tt : kitB "tuple" "tuple" = some true := by decide +kernel
theorem kb_tl : kitB "tuple" "list" = some false := by decide +kernel
theorem kb_li : kitB "list" "int" = some false := by decide +kernel
theorem kb_lb : kitB "list" "bool" = some false := by decide +kernel
theorem kb_ls : kitB "list" "str" = some false := by decide +kernel
theorem kb_lt : kitB "list" "tuple" = some false := by decide +kernel
theorem kb_ll : kitB "list" "list" = some true := by decide +kernel
/-! ### built-ins by name -/
theorem b_len {X : Cx} : CallR X (.builtin "len") (rLen X.K) := call_len
theorem r_lenL {p : Addr} {xs : List V} (h : H p = some (.lst xs)) (k : Q (.int xs.length) H) : rLen K [.ref p] H Q := ⟨.ref p, xs.length, rfl, .inl ⟨xs, SqL.of h, rfl⟩, k⟩
theorem r_lenSL {p : Addr} {xs : List V} (h : SqL K H p xs) (k : Q (.int xs.length) H) : rLen K [.ref p] H Q := ⟨.ref p, xs.length, rfl, .inl ⟨xs, h, rfl⟩, k⟩
theorem r_lenT {p : Addr} {xs : List V} (h : H p = some (.tup xs)) (k : Q (.int xs.length) H) : rLen K [.ref p] H Q := ⟨.ref p, xs.length, rfl, .inr ⟨xs, SqT.of h, rfl⟩, k⟩
theorem r_lenS {z : Str} (h : z.length ≤ sizeLine) (k : Q (.int z.length) H) : rLen K [.str z] H Q := ⟨.str z, z.length, rfl, ⟨h, rfl⟩, k⟩
def rIntT : List V → Hp → VK → Prop := fun xs H Q => (∃ i, xs = [.int i] ∧ Q (.int i) H) ∨ ∃ k, xs = [.bl k] ∧ Q (.int (if k then 1 else 0)) H
theorem b_int {X : Cx} : CallR X (.type "int") rIntT := call_int1
theorem r_int {n : Int} (k : Q (.int n) H) : rIntT [.int n] H Q := .inl ⟨n, rfl, k⟩
def rMax2 : List V → Hp → VK → Prop := fun xs H Q => ∃ i j, xs = [.int i, .int j] ∧ Q (.int (if j > i then j else i)) H
def rMin2 : List V → Hp → VK → Prop := fun xs H Q => ∃ i j, xs = [.int i, .int j] ∧ Q (.int (if j < i then j else i)) H
theorem b_max2 {X : Cx} (hc : X.calm = true) : CallR X (.builtin "max") rMax2 := call_max2 hc
theorem b_min2 {X : Cx} (hc : X.calm = true) : CallR X (.builtin "min") rMin2 := call_min2 hc
theorem r_max2 {a b : Int} (k : Q (.int (max a b)) H) : rMax2 [.int a, .int b] H Q := ⟨a, b, rfl, by
  rw [show (if b > a then b else a) = max a b by omega]
  exact k⟩
theorem r_min2 {a b : Int} (k : Q (.int (min a b)) H) : rMin2 [.int a, .int b] H Q := ⟨a, b, rfl, by
  rw [show (if b < a then b else a) = min a b by omega]
  exact k⟩
def rListOf (K : PySem.W.Frag) : List V → Hp → VK → Prop := fun xs H Q => ∃ p ys, xs = [.ref p] ∧ (SqL K H p ys ∨ SqT K H p ys) ∧ ∀ l, H l = none → Q (.ref l) (upd H l (.lst ys))
theorem b_list {X : Cx} : CallR X (.type "list") (rListOf X.K) := call_list_of
theorem n_listL {p : Addr} {xs : List V} (h : H p = some (.lst xs)) (k : ∀ q H', H q = none → Same H H' → H' q = some (.lst xs) → Q (.ref q) H') : rListOf K [.ref p] H Q := ⟨p, xs, rfl, .inl (SqL.of h), n_new k⟩
theorem n_listT {p : Addr} {xs : List V} (h : H p = some (.tup xs)) (k : ∀ q H', H q = none → Same H H' → H' q = some (.lst xs) → Q (.ref q) H') : rListOf K [.ref p] H Q := ⟨p, xs, rfl, .inr (SqT.of h), n_new k⟩
def rTupOf (K : PySem.W.Frag) : List V → Hp → VK → Prop := fun xs H Q => ∃ p ys, xs = [.ref p] ∧ ((SqL K H p ys ∧ ∀ l, H l = none → Q (.ref l) (upd H l (.tup ys))) ∨ (SqT K H p ys ∧ Q (.ref p) H))
theorem b_tuple {X : Cx} : CallR X (.type "tuple") (rTupOf X.K) := call_tuple_of
theorem n_tupL {p : Addr} {xs : List V} (h : H p = some (.lst xs)) (k : ∀ q H', H q = none → Same H H' → H' q = some (.tup xs) → Q (.ref q) H') : rTupOf K [.ref p] H Q := ⟨p, xs, rfl, .inl ⟨SqL.of h, n_new k⟩⟩
/-! ### methods of lists -/
def rApp (l : Addr) (y : V) (H : Hp) (Q : VK) : Prop := ∃ xs, H l = some (.lst xs) ∧ xs.length < sizeLine ∧ Q .non (upd H l (.lst (xs ++ [y])))
theorem r_app {l : Addr} {xs : List V} (hv : σ[i]? = some (some (.ref l))) (h : H l = some (.lst xs)) (k : te σ H fun y H1 => rApp l y H1 Q) : tBM K "list" rAppend (tVar i) (tCons te tNil) σ H Q := by
  refine ⟨_, hv, .inl ⟨rfl, _, SqL.of h⟩, ?_⟩
  have e : (fun y H1 => rApp l y H1 Q) = fun y H1 => tNil σ H1 fun xs H2 => rAppend (.ref l) (y :: xs) H2 Q := by
    funext y H1
    refine propext ⟨fun ⟨xs, h1, h2, h3⟩ => ⟨l, xs, y, rfl, rfl, h1, h2, h3⟩, fun ⟨l', xs, y', e1, e2, h1, h2, h3⟩ => ?_⟩
    cases e1
    cases e2
    exact ⟨xs, h1, h2, h3⟩
  rw [e] at k
  exact k
theorem n_app {l : Addr} {xs : List V} (h : H l = some (.lst xs)) (hl : xs.length < sizeLine) (k : ∀ H', Kp l H H' → H' l = some (.lst (xs ++ [y])) → Q .non H') : rApp l y H Q := ⟨xs, h, hl, k _ (Kp.upd l H _) upd_same⟩
/-! ### fields -/
theorem r_fld {f : Str} (k : ta σ H fun x H1 => ∃ a C dx fs v, x = .ref a ∧ H1 a = some (.ins C dx fs) ∧ Cls K C ∧ NoAttr K C f ∧ fs.lookup f = some v ∧ Q v H1) : tFld K ta f σ H Q := k
theorem r_fat {a C dx : Addr} {fs : List (Str × V)} {f : Str} {P : V → Prop} (h : H a = some (.ins C dx fs)) (c : Cls K C) (n : NoAttr K C f) (l : fs.lookup f = some v) (k : P v) :
    ∃ a' C dx fs w, V.ref a = .ref a' ∧ H a' = some (.ins C dx fs) ∧ Cls K C ∧ NoAttr K C f ∧ fs.lookup f = some w ∧ P w := ⟨a, C, dx, fs, v, rfl, h, c, n, l, k⟩
/-! ### loops -/
/-- for x in a list -/
def rForL (K : PySem.W.Frag) (g : TG) (tb : TS) (D : Ends) (σ : St) (x : V) (H : Hp) : Prop := ∃ a, x = .ref a ∧ (∃ xs, SqL K H a xs) ∧ ∃ W : Nat → Nat → St → Hp → Prop, (∃ m, W 0 m σ H) ∧ ∀ i m σ H, W i m σ H →
  ((Itl K a).stop i H ∧ D.nx σ H) ∨ ((Itl K a).go i H ∧ ∃ N : St → Hp → Prop, (∀ σ' H', N σ' H' → ∃ m', m' < m ∧ W (i + 1) m' σ' H') ∧ ∀ x H', (Itl K a).yld i H x H' → g x σ H' fun σ2 H2 => tb { D with nx := N, ct := N, bk := D.nx } σ2 H2)
theorem r_forL {tb : TS} (k : te σ H fun x H1 => rForL K g tb D σ x H1) : tFor (iList K te) g tb D σ H := k
theorem n_forL {p : Addr} {xs : List V} {tb : TS} (Pv : Nat → St → Hp → Prop) (hx : H p = some (.lst xs)) (h0 : Pv 0 σ H) (hl : ∀ i σ H, i ≤ xs.length → Pv i σ H → SqL K H p xs)
    (hs : ∀ i x σ H, xs[i]? = some x → Pv i σ H → g x σ H fun σ2 H2 => tb ⟨Pv (i + 1), b, a, Pv (i + 1)⟩ σ2 H2) (hd : ∀ σ H, Pv xs.length σ H → a σ H)  : rForL K g tb ⟨a, b, c, d⟩ σ (.ref p) H :=
  ⟨p, rfl, ⟨xs, SqL.of hx⟩, for_list (K := K) (a := p) (xs := xs) Pv h0 hl hs hd⟩
theorem n_forSL {p : Addr} {xs : List V} {tb : TS} (Pv : Nat → St → Hp → Prop) (hx : SqL K H p xs) (h0 : Pv 0 σ H) (hl : ∀ i σ H, i ≤ xs.length → Pv i σ H → SqL K H p xs)
    (hs : ∀ i x σ H, xs[i]? = some x → Pv i σ H → g x σ H fun σ2 H2 => tb ⟨Pv (i + 1), b, a, Pv (i + 1)⟩ σ2 H2) (hd : ∀ σ H, Pv xs.length σ H → a σ H)  : rForL K g tb ⟨a, b, c, d⟩ σ (.ref p) H :=
  ⟨p, rfl, ⟨xs, hx⟩, for_list (K := K) (a := p) (xs := xs) Pv h0 hl hs hd⟩
/-- for x in a tuple -/
def rForT (K : PySem.W.Frag) (g : TG) (tb : TS) (D : Ends) (σ : St) (x : V) (H : Hp) : Prop := ∃ a, x = .ref a ∧ (∃ xs, SqT K H a xs) ∧ ∃ W : Nat → Nat → St → Hp → Prop, (∃ m, W 0 m σ H) ∧ ∀ i m σ H, W i m σ H →
  ((Itt K a).stop i H ∧ D.nx σ H) ∨ ((Itt K a).go i H ∧ ∃ N : St → Hp → Prop, (∀ σ' H', N σ' H' → ∃ m', m' < m ∧ W (i + 1) m' σ' H') ∧ ∀ x H', (Itt K a).yld i H x H' → g x σ H' fun σ2 H2 => tb { D with nx := N, ct := N, bk := D.nx } σ2 H2)
theorem r_forT {tb : TS} (k : te σ H fun x H1 => rForT K g tb D σ x H1) : tFor (iTup K te) g tb D σ H := k
theorem n_forT {p : Addr} {xs : List V} {tb : TS} (Pv : Nat → St → Hp → Prop) (hx : H p = some (.tup xs)) (h0 : Pv 0 σ H) (hl : ∀ i σ H, i ≤ xs.length → Pv i σ H → H p = some (.tup xs))
    (hs : ∀ i x σ H, xs[i]? = some x → Pv i σ H → g x σ H fun σ2 H2 => tb ⟨Pv (i + 1), b, a, Pv (i + 1)⟩ σ2 H2) (hd : ∀ σ H, Pv xs.length σ H → a σ H)  : rForT K g tb ⟨a, b, c, d⟩ σ (.ref p) H :=
  ⟨p, rfl, ⟨xs, SqT.of hx⟩, for_tup (K := K) (a := p) (xs := xs) Pv h0 (fun i σ H hi p => SqT.of (hl i σ H hi p)) hs hd⟩
/-- for x in range(n), range(a, b) -/
def rForR (g : TG) (tb : TS) (D : Ends) (σ : St) (vs : List V) (H : Hp) : Prop := ∃ j : Int, vs = [.int j] ∧ -(2 ^ 62) ≤ j ∧ j < 2 ^ 62 ∧ ∃ W : Nat → Nat → St → Hp → Prop, (∃ m, W 0 m σ H) ∧ ∀ i m σ H, W i m σ H →
  ((Itr 0 j.toNat).stop i H ∧ D.nx σ H) ∨ ((Itr 0 j.toNat).go i H ∧ ∃ N : St → Hp → Prop, (∀ σ' H', N σ' H' → ∃ m', m' < m ∧ W (i + 1) m' σ' H') ∧ ∀ x H', (Itr 0 j.toNat).yld i H x H' → g x σ H' fun σ2 H2 => tb { D with nx := N, ct := N, bk := D.nx } σ2 H2)
theorem r_forR {tb : TS} {ta : TA} (k : ta σ H fun vs H1 => rForR g tb D σ vs H1) : tFor (iRng1 ta) g tb D σ H := k
theorem n_forR {n : Int} {tb : TS} (Pv : Nat → St → Hp → Prop) (hn : -(2 ^ 62) ≤ n ∧ n < 2 ^ 62) (h0 : Pv 0 σ H)
    (hs : ∀ i σ H, i < n.toNat → Pv i σ H → g (.int i) σ H fun σ2 H2 => tb ⟨Pv (i + 1), b, a, Pv (i + 1)⟩ σ2 H2) (hd : ∀ σ H, Pv n.toNat σ H → a σ H) : rForR g tb ⟨a, b, c, d⟩ σ [.int n] H :=
  ⟨n, rfl, hn.1, hn.2, for_range (lo := 0) (n := n.toNat) Pv h0 (fun i σ H hi p => by rw [Int.zero_add]; exact hs i σ H hi p) hd⟩
def rForR2 (g : TG) (tb : TS) (D : Ends) (σ : St) (vs : List V) (H : Hp) : Prop := ∃ i j : Int, vs = [.int i, .int j] ∧ (-(2 ^ 62) ≤ i ∧ i < 2 ^ 62 ∧ -(2 ^ 62) ≤ j ∧ j < 2 ^ 62) ∧ ∃ W : Nat → Nat → St → Hp → Prop, (∃ m, W 0 m σ H) ∧ ∀ k m σ H, W k m σ H →
  ((Itr i (j - i).toNat).stop k H ∧ D.nx σ H) ∨ ((Itr i (j - i).toNat).go k H ∧ ∃ N : St → Hp → Prop, (∀ σ' H', N σ' H' → ∃ m', m' < m ∧ W (k + 1) m' σ' H') ∧ ∀ x H', (Itr i (j - i).toNat).yld k H x H' → g x σ H' fun σ2 H2 => tb { D with nx := N, ct := N, bk := D.nx } σ2 H2)
theorem r_forR2 {tb : TS} {ta : TA} (k : ta σ H fun vs H1 => rForR2 g tb D σ vs H1) : tFor (iRng2 ta) g tb D σ H := k
theorem n_forR2 {lo n : Int} {tb : TS} (Pv : Nat → St → Hp → Prop) (hn : -(2 ^ 62) ≤ lo ∧ lo < 2 ^ 62 ∧ -(2 ^ 62) ≤ n ∧ n < 2 ^ 62) (h0 : Pv 0 σ H)
    (hs : ∀ i σ H, i < (n - lo).toNat → Pv i σ H → g (.int (lo + i)) σ H fun σ2 H2 => tb ⟨Pv (i + 1), b, a, Pv (i + 1)⟩ σ2 H2) (hd : ∀ σ H, Pv (n - lo).toNat σ H → a σ H) : rForR2 g tb ⟨a, b, c, d⟩ σ [.int lo, .int n] H :=
  ⟨lo, n, rfl, hn, for_range (lo := lo) (n := (n - lo).toNat) Pv h0 hs hd⟩
/-- while: what the test's answer asks; P: what must hold ahead of the next turn -/
def rWb (P : St → Hp → Prop) (tb : TS) (D : Ends) (σ : St) (b : Bool) (H : Hp) : Prop := if b = true then ∃ N : St → Hp → Prop, (∀ σ' H', N σ' H' → P σ' H') ∧ tb { D with nx := N, ct := N, bk := D.nx } σ H else D.nx σ H
theorem n_while {tb : TS} (Pv : Nat → St → Hp → Prop) (m0 : Nat) (h0 : Pv m0 σ H) (hs : ∀ m σ H, Pv m σ H → tt σ H (rWb (fun σ' H' => ∃ m', m' < m ∧ Pv m' σ' H') tb D σ)) : tWhile tt tb D σ H := ⟨Pv, ⟨m0, h0⟩, hs⟩
theorem w_t {P : St → Hp → Prop} {tb : TS} (k : tb ⟨P, b, a, P⟩ σ H) : rWb P tb ⟨a, b, c, d⟩ σ true H := iteT ⟨P, fun _ _ h => h, k⟩
theorem w_f {P : St → Hp → Prop} {tb : TS} (k : a σ H) : rWb P tb ⟨a, b, c, d⟩ σ false H := iteF k
theorem w_d {P : St → Hp → Prop} {tb : TS} {q : Prop} [Decidable q] (k1 : q → tb ⟨P, b, a, P⟩ σ H) (k0 : ¬ q → a σ H) : rWb P tb ⟨a, b, c, d⟩ σ (decide q) H := by
  by_cases h : q
  · rw [decide_eq_true h]
    exact w_t (k1 h)
  · rw [decide_eq_false h]
    exact w_f (k0 h)
end
end Bf
namespace Bf
open PySem L2
theorem same_kp {q : Addr} {H H1 H2 : Hp} (n : H q = none) (s : Same H H1) (k : Kp q H1 H2) : Same H H2 := fun b o e => k b o (ne_of_none e n) (s b o e)
theorem map_at {α : Type} {f : α → V} {l : List α} {i : Nat} {x : V} (h : (l.map f)[i]? = some x) : ∃ y, l[i]? = some y ∧ x = f y := by
  rw [List.getElem?_map] at h
  cases e : l[i]? with
  | none => rw [e] at h; cases h
  | some y => rw [e] at h; exact ⟨y, rfl, (Option.some.inj h).symm⟩
theorem take_snoc {α : Type} {l : List α} {i : Nat} {x : α} (h : l[i]? = some x) : l.take (i + 1) = l.take i ++ [x] := by
  rw [List.take_add_one, h]
  rfl
theorem foldl_take {α β : Type} (f : β → α → β) (b : β) {l : List α} {i : Nat} {x : α} (h : l[i]? = some x) : (l.take (i + 1)).foldl f b = f ((l.take i).foldl f b) x := by
  rw [take_snoc h, List.foldl_append]
  rfl
theorem range_at {n i : Nat} (h : i < n) : (List.range n)[i]? = some i := by simp [h]
theorem sql_same {K : PySem.W.Frag} {H H' : Hp} {a : Addr} {xs : List V} (h : SqL K H a xs) (s : Same H H') : SqL K H' a xs :=
  h.elim (fun h => .inl (h.elim (fun h => .inl (s _ _ h)) fun ⟨o, h⟩ => .inr ⟨o, s _ _ h⟩)) fun h => .inr h
end Bf
/-! rules of our own: zip of a tuple and a list; -o, len(o) of an own instance -/
namespace Bf
open PySem L2
/-- the tuple at a and the list at b, of one length, the items in new pairs -/
def ItzM (K : PySem.W.Frag) (a b : Addr) : It :=
  ⟨fun i H => ∃ (xs ys : List V) (x y : V), SqT K H a xs ∧ SqL K H b ys ∧ xs[i]? = some x ∧ ys[i]? = some y,
    fun i H v H' => ∃ T x y, v = .ref T ∧ H T = none ∧ H' = upd H T (.tup [x, y]) ∧ (∀ xs, SqT K H a xs → xs[i]? = some x) ∧ ∀ ys, SqL K H b ys → ys[i]? = some y,
    fun i H => ∃ xs ys : List V, SqT K H a xs ∧ SqL K H b ys ∧ i = xs.length ∧ i = ys.length⟩
theorem sep_of {z TI TO i1 i2 a b : Addr} (D : ZipApart z TI TO i1 i2 a b) : ZipSep2 z TI TO i1 i2 [i1, a] [i2, b] :=
  { TIz := D.TIz, TOz := D.TOz, TITO := D.TITO, TIi1 := D.TIi1, mem1 := by simp,
    zf1 := fun h => by
      rcases List.mem_cons.mp h with e | h
      · exact D.i1z e.symm
      · exact D.l1z (List.mem_singleton.mp h).symm,
    Tf1 := fun h => by
      rcases List.mem_cons.mp h with e | h
      · exact D.TOi1 e
      · exact D.l1TO (List.mem_singleton.mp h).symm,
    TIi2 := D.TIi2, mem2 := by simp,
    zf2 := fun h => by
      rcases List.mem_cons.mp h with e | h
      · exact D.i2z e.symm
      · exact D.l2z (List.mem_singleton.mp h).symm,
    Tf2 := fun h => by
      rcases List.mem_cons.mp h with e | h
      · exact D.TOi2 e
      · exact D.l2TO (List.mem_singleton.mp h).symm,
    sep1_2 := fun h => by
      rcases List.mem_cons.mp h with e | h
      · exact D.i12 e
      · exact D.l2i1 (List.mem_singleton.mp h).symm,
    sep2_1 := fun h => by
      rcases List.mem_cons.mp h with e | h
      · exact D.i12 e.symm
      · exact D.l1i2 (List.mem_singleton.mp h).symm }
theorem turn_zipM {P : Program} {w : World} {K : PySem.W.Frag} {elts : List Expr} {kk : Nat} {tpos : Pos} {a b z TI TO i1 i2 : Addr} (D : ZipApart z TI TO i1 i2 a b) :
    Turn P w K (.Tuple elts kk tpos) (ItzM K a b) [z, TI, TO, i1, i2] z (fun i h => IsZip h z TI TO .none ∧ IsPair h TI (.ref i1) (.ref i2) ∧ (∃ x y, IsPair h TO x y) ∧ h.IsTupleIter i1 a i ∧ h.IsListIter i2 b i) where
  mem := by simp
  obj := fun i h st c hc => by
    obtain ⟨hz, hTI, ⟨x, y, hTO⟩, ⟨o1, e1, _, d1⟩, ⟨o2, e2, _, d2⟩⟩ := st
    have e' : c = z ∨ c = TI ∨ c = TO ∨ c = i1 ∨ c = i2 := by simpa using hc
    rcases e' with q | q | q | q | q
    · rw [q]; exact ⟨_, hz, fun v q => nomatch q⟩
    · rw [q]; exact ⟨_, hTI, fun v q => nomatch q⟩
    · rw [q]; exact ⟨_, hTO, fun v q => nomatch q⟩
    · rw [q]; exact ⟨o1, e1, fun v q => by rw [d1] at q; cases q⟩
    · rw [q]; exact ⟨o2, e2, fun v q => by rw [d2] at q; cases q⟩
  keep := fun i h h' st k => by
    obtain ⟨hz, hTI, ⟨x, y, hTO⟩, h1, h2⟩ := st
    exact ⟨k z (by simp) _ hz, k TI (by simp) _ hTI, ⟨x, y, k TO (by simp) _ hTO⟩, h1.at fun o q => k i1 (by simp) o q, h2.at fun o q => k i2 (by simp) o q⟩
  item := by
    intro X hP hw hK hc i pins s σ H E I hf st hg
    subst hP hw hK
    obtain ⟨hz, hTI, ⟨x0, y0, hTO⟩, h1, h2⟩ := st
    obtain ⟨xs, ys, x, y, hqx, hqy, hx, hy⟩ := hg
    obtain ⟨its, rv, p, _⟩ := I.tuple hqx
    obtain ⟨its2, rv2, p2, _⟩ := I.list hqy
    obtain ⟨u, hu, ru⟩ := rv.get hx
    obtain ⟨u2, hu2, ru2⟩ := rv2.get hy
    have hzl : z < s.heap.objs.size := Heap.lt_size hz
    have hh : X.A.in1.handled = none := I.ok.hd hc
    have D1 := Draws.tuple (prog := X.prog) (w := X.w) hh i1 a D.l1i1 its.toArray
    have D2 := Draws.list (prog := X.prog) (w := X.w) hh i2 b D.l2i2 its2.toArray
    have lt1 : i < its.toArray.size := by simpa using (List.getElem?_eq_some_iff.mp hu).1
    have lt2 : i < its2.toArray.size := by simpa using (List.getElem?_eq_some_iff.mp hu2).1
    refine wpAny_pyNext_zipD2_item (sep_of D) D1 D2 hz hTI hTO ⟨h1, p⟩ ⟨h2, p2.isList⟩ lt1 lt2 fun w1 w2 h' tk e1 e2 z' TO' g1 g2 hT hsz hk => ?_
    obtain rfl : u = w1 := by
      have q : its.toArray[i]? = some u := by simpa using hu
      rw [q] at e1
      exact Option.some.inj e1
    obtain rfl : u2 = w2 := by
      have q : its2.toArray[i]? = some u2 := by simpa using hu2
      rw [q] at e2
      exact Option.some.inj e2
    have h1' := g1.1
    have h2' := g2.1
    refine ⟨_, rfl, wpAny_letOwnedTupleGo_zip (s := { s with heap := h', toks := tk }) z' fun h'' z'' sb => ?_⟩
    have hT2 : h''.get? s.heap.objs.size = some { cls := .type "tuple", data := .seq #[u, u2] } := (sb.2 _ (Nat.ne_of_gt hzl)).trans hT
    have new : ObjOk X.prog X.w (upd H s.heap.objs.size (.tup [x, y])) h'' s.heap.objs.size (.tup [x, y]) :=
      ⟨by show 2 ≤ sizeLine; decide, [u, u2], .cons ru (.cons ru2 .nil), ⟨_, hT2, rfl, _, rfl⟩⟩
    have I1 : Inv X pins σ (upd H s.heap.objs.size (.tup [x, y])) { s with heap := h'', toks := tk } :=
      I.turnedNew (t' := tk) (ch := [z, TI, TO, i1, i2]) (fun c o hb q => (sb.2 c (fun q' => hb (by simp [q']))).trans (hk c o (fun q' => hb (by simp [q'])) (fun q' => hb (by simp [q'])) (fun q' => hb (by simp [q'])) (fun q' => hb (by simp [q'])) q)) hf (Nat.le_refl _) new
    refine ⟨.ref s.heap.objs.size, _, I1, rfl, ⟨_, x, y, rfl, I.hok.fresh (Nat.le_refl _), rfl, fun l hl => by rw [I.tuple_inj hl hqx]; exact hx, fun l hl => by rw [I.list_inj hl hqy]; exact hy⟩, ⟨z'', ?_, ⟨u, u2, ?_⟩, ?_, ?_⟩, fun c hcm => ?_⟩
    · exact (sb.2 _ D.TIz).trans (hk _ _ D.TIz D.TITO D.TIi1 D.TIi2 hTI)
    · exact (sb.2 _ D.TOz).trans TO'
    · exact h1'.at fun o q => (sb.2 _ D.i1z).trans q
    · exact h2'.at fun o q => (sb.2 _ D.i2z).trans q
    · have hlt : c < s.heap.objs.size := by
        have e' : c = z ∨ c = TI ∨ c = TO ∨ c = i1 ∨ c = i2 := by simpa using hcm
        rcases e' with q | q | q | q | q
        · rw [q]; exact hzl
        · rw [q]; exact Heap.lt_size hTI
        · rw [q]; exact Heap.lt_size hTO
        · rw [q]; obtain ⟨_, e1, _⟩ := h1; exact Heap.lt_size e1
        · rw [q]; obtain ⟨_, e2, _⟩ := h2; exact Heap.lt_size e2
      rw [upd_ne (Nat.ne_of_lt hlt)]
      exact (hf c hcm).1
  done := by
    intro X hP hw hK hc i pins s σ H E I hf st hg
    subst hP hw hK
    obtain ⟨hz, hTI, ⟨x0, y0, hTO⟩, h1, h2⟩ := st
    obtain ⟨xs, ys, hqx, hqy, e1, e2⟩ := hg
    obtain ⟨its, rv, p, _⟩ := I.tuple hqx
    obtain ⟨its2, rv2, p2, _⟩ := I.list hqy
    have l1 := rv.length
    have l2 := rv2.length
    have hh : X.A.in1.handled = none := I.ok.hd hc
    have D1 := Draws.tuple (prog := X.prog) (w := X.w) hh i1 a D.l1i1 its.toArray
    have D2 := Draws.list (prog := X.prog) (w := X.w) hh i2 b D.l2i2 its2.toArray
    refine wpAny_pyNext_zipD2_end (sep_of D) D1 D2 hz hTI hTO ⟨h1, p⟩ ⟨h2, p2.isList⟩ (by simp; omega) (by simp; omega) (.inl (by simp; omega)) fun h' tk hk => ⟨rfl, I.turnedL (t' := tk) (ch := [z, TI, TO, i1, i2]) (fun c o hb q =>
      hk c o (fun q' => hb (by simp [q'])) (fun q' => hb (by simp [q'])) (fun q' => hb (by simp [q'])) (fun q' => hb (by simp [q'])) q) hf⟩
  self := fun A i s Q E st h => wpAny_pyIter_zip st.1 h
def iZipM (K : PySem.W.Frag) (ta : TA) : TI := fun σ H R => ta σ H fun vs H1 => ∃ a b xs ys, vs = [.ref a, .ref b] ∧ SqT K H1 a xs ∧ SqL K H1 b ys ∧ R (ItzM K a b) H1
theorem pi_zipTL {X : Cx} {e e2 : Expr} {ta : TA} {p pos tpos : Pos} {elts : List Expr} {kk : Nat} (hg : Gl X "zip") (hm : X.mg "zip" = none) (ha : PA X [e, e2] ta)
    (hs : starEach [e, e2] X.env = (false, eval e X.env) :: starEach [e2] X.env := by rfl) (hpl : (backTo pos (starEach [e2] X.env)).any (·.1) = false := by rfl) :
    PI X (.Tuple elts kk tpos) (.Call (.Name "zip" p) [e, e2] [] pos) (iZipM X.K ta) := by
  refine ⟨fun pins s σ H R I h => ?_⟩
  refine PyProof.Rows.Call_ (ld_blt I hg hm PyProof.Rows.boot_zip (PyProof.Rows.callWith_type1 (thn (ha.run pos pins s σ H _ I h) fun us s1 ⟨vs, H1, I1, r1, q1⟩ => ?_) hs hpl))
  obtain ⟨a, b, xs, ys, ex, hqx, hqy, q⟩ := q1
  subst ex
  cases r1 with
  | cons r rr =>
    cases rr with
    | cons r' rr =>
      cases rr
      cases r
      cases r'
      obtain ⟨its, rv, p1, _⟩ := I1.tuple hqx
      obtain ⟨its2, rv2, p2, _⟩ := I1.list hqy
      obtain ⟨o1, ho1, _⟩ := id p1
      have la : a < s1.heap.objs.size := Heap.lt_size ho1
      have lb : b < s1.heap.objs.size := p2.lt
      refine zip_begins2 (begins_tuple a its.toArray) (begins_list b its2.toArray) p1 p2.isList fun h' hz hTI hTO h1 h2 hsz hk => wpAny_pyIter_zip hz ?_
      have I2 : Inv X pins σ H1 { s1 with heap := h' } := I1.kept (t' := s1.toks) hk
      refine ⟨s1.heap.objs.size + 4, [s1.heap.objs.size + 4, s1.heap.objs.size + 2, s1.heap.objs.size + 3, s1.heap.objs.size, s1.heap.objs.size + 1], _, _, H1, rfl, I2, turn_zipM (PySem.W.ktu_apart s1.heap.objs.size a b la lb), ⟨hz, hTI, ⟨_, _, hTO⟩, ⟨_, h1, rfl, rfl⟩, ⟨_, h2, rfl, rfl⟩⟩, fun c hcm => ?_, q⟩
      have e' : c = s1.heap.objs.size + 4 ∨ c = s1.heap.objs.size + 2 ∨ c = s1.heap.objs.size + 3 ∨ c = s1.heap.objs.size ∨ c = s1.heap.objs.size + 1 := by simpa using hcm
      have hle : s1.heap.objs.size ≤ c := by
        rcases e' with z | z | z | z | z
        · rw [z]; exact Nat.le_add_right _ _
        · rw [z]; exact Nat.le_add_right _ _
        · rw [z]; exact Nat.le_add_right _ _
        · rw [z]; exact Nat.le_refl _
        · rw [z]; exact Nat.le_add_right _ _
      exact I1.fpOk hle (I1.hok.fresh hle)
/-- the loop's reading -/
def rForZ (K : PySem.W.Frag) (g : TG) (tb : TS) (D : Ends) (σ : St) (vs : List V) (H : Hp) : Prop := ∃ a b xs ys, vs = [.ref a, .ref b] ∧ SqT K H a xs ∧ SqL K H b ys ∧ ∃ W : Nat → Nat → St → Hp → Prop, (∃ m, W 0 m σ H) ∧ ∀ i m σ H, W i m σ H →
  ((ItzM K a b).stop i H ∧ D.nx σ H) ∨ ((ItzM K a b).go i H ∧ ∃ N : St → Hp → Prop, (∀ σ' H', N σ' H' → ∃ m', m' < m ∧ W (i + 1) m' σ' H') ∧ ∀ x H', (ItzM K a b).yld i H x H' → g x σ H' fun σ2 H2 => tb { D with nx := N, ct := N, bk := D.nx } σ2 H2)
section
variable {K : PySem.W.Frag} {σ : St} {H : Hp} {D : Ends} {tb : TS} {ta : TA} {g : TG} {a c d : St → Hp → Prop} {b : VK}
theorem r_forZ (k : ta σ H fun vs H1 => rForZ K g tb D σ vs H1) : tFor (iZipM K ta) g tb D σ H := k
theorem n_forZ {p q : Addr} {xs ys : List V} (Pv : Nat → St → Hp → Prop) (hp : H p = some (.tup xs)) (hq : H q = some (.lst ys)) (hl : xs.length = ys.length) (h0 : Pv 0 σ H) (hk : ∀ i σ H, Pv i σ H → H p = some (.tup xs) ∧ H q = some (.lst ys))
    (hs : ∀ (i : Nat) x y T σ H H', xs[i]? = some x → ys[i]? = some y → Pv i σ H → H T = none → Same H H' → H' T = some (.tup [x, y]) → g (.ref T) σ H' fun σ2 H2 => tb ⟨Pv (i + 1), b, a, Pv (i + 1)⟩ σ2 H2) (hd : ∀ σ H, Pv xs.length σ H → a σ H) : rForZ K g tb ⟨a, b, c, d⟩ σ [.ref p, .ref q] H := by
  refine ⟨p, q, xs, ys, rfl, SqT.of hp, SqL.of hq, fun i m σ H => m = xs.length - i ∧ i ≤ xs.length ∧ Pv i σ H, ⟨xs.length, rfl, Nat.zero_le _, h0⟩, ?_⟩
  rintro i m σ H ⟨rfl, hi, v⟩
  obtain ⟨k1, k2⟩ := hk i σ H v
  by_cases hlt : i < xs.length
  · have hx : xs[i]? = some xs[i] := List.getElem?_eq_getElem hlt
    have hlt2 : i < ys.length := by omega
    have hy : ys[i]? = some ys[i] := List.getElem?_eq_getElem hlt2
    refine .inr ⟨⟨xs, ys, xs[i], ys[i], SqT.of k1, SqL.of k2, hx, hy⟩, Pv (i + 1), fun σ' H' v' => ⟨xs.length - (i + 1), by omega, rfl, hlt, v'⟩, fun x H' y => ?_⟩
    obtain ⟨T, x', y', rfl, nT, rfl, e1, e2⟩ := y
    have f1 := e1 xs (SqT.of k1)
    have f2 := e2 ys (SqL.of k2)
    exact hs i x' y' T σ H _ f1 f2 v nT (same_new nT) upd_same
  · have e : i = xs.length := by omega
    subst e
    exact .inl ⟨⟨xs, ys, SqT.of k1, SqL.of k2, rfl, hl⟩, hd σ H v⟩
end
/-! ### -o and len(o) -/
section
variable {X : Cx} {k : Nat} {C : Addr} {sp : Sp}
def rNegO (C : Addr) (sp : Sp) : V → Hp → VK → Prop := fun x H Q => ∃ a dx fs, x = .ref a ∧ H a = some (.ins C dx fs) ∧ sp [.ref a] H Q E0
theorem un_own (c : C8.Met X.prog X.w X.K X.mg X.base k C "__neg__" sp []) {j : Nat} (hr : Room j X.A) (hk : k ≤ j) : UnR X (unaryOp .USub) (rNegO C sp) := by
  intro pins s σ H x v Q I rx h
  obtain ⟨a, dx, fs, rfl, ha, q⟩ := h
  obtain ⟨f, fd, ps, ds, hc, hm, F, b, d⟩ := c.ex
  cases (show v = Value.ref a from rx)
  obtain ⟨mA, O, _⟩ := ins_get I.hok ha
  obtain ⟨od, J, _⟩ := O.look
  obtain ⟨m, hF⟩ := I.fr
  refine PySem.W.ksp_neg hF I.ok.mod.kin J hm.at_ hm.fn ?_
  exact run_fn (us := [.ref a]) (vs := [.ref a]) F (hr.mono hk) b d pass0 I (.cons rfl .nil) q
def rLenO (C : Addr) (sp : Sp) : List V → Hp → VK → Prop := fun xs H Q => ∃ a dx fs, xs = [.ref a] ∧ H a = some (.ins C dx fs) ∧ sp [.ref a] H (fun v H' => ∃ n : Int, v = .int n ∧ (0 ≤ n ∧ n < 2 ^ 63) ∧ Q (.int n) H') E0
theorem call_lenO (c : C8.Met X.prog X.w X.K X.mg X.base k C "__len__" sp []) {j : Nat} (hr : Room j X.A) (hk : k + 1 ≤ j) : CallR X (.builtin "len") (rLenO C sp) := by
  intro pins s σ H xs us Q I r h
  obtain ⟨a, dx, fs, rfl, ha, q⟩ := h
  obtain ⟨f, fd, ps, ds, hc, hm, F, b, d⟩ := c.ex
  obtain ⟨u, rfl, ru⟩ := r.one
  cases (show u = Value.ref a from ru)
  obtain ⟨mA, O, _⟩ := ins_get I.hok ha
  obtain ⟨od, J, _⟩ := O.look
  obtain ⟨m, hF⟩ := I.fr
  refine PySem.W.len_K hF I.ok.mod.kin J hm.at_ hm.fn ?_
  have hr1 : Room k X.A.in1 := Room.in1 (hr.mono hk)
  have r2 : Vals ([V.ref a] ++ []) ([Value.ref a] ++ ds) := (show Vals [V.ref a] [Value.ref a] from .cons rfl .nil).append d
  have hl : ([Value.ref a] ++ ds).length = ps.length := by rw [← r2.length]; exact F.len _ _ _ _ q
  refine wpAny_call (codeAny_mono (F.run X.A.in1 X.stack s H ⟨[Value.ref a], []⟩ ([Value.ref a] ++ ds) ([V.ref a] ++ []) _ E0 hr1 I.env0.in1 (b s [Value.ref a] I.kIn hl) r2 q) fun r s' hq => ?_)
  cases r with
  | error e => exact pass0 pins σ H s e s' I hq
  | ok fl =>
    cases fl with
    | ret u =>
      obtain ⟨v, H', I', rv, n, e, hn, qn⟩ := I.after hq
      subst e
      obtain ⟨t, e⟩ := (show ∃ t, u = Value.int n t from rv)
      subst e
      exact ⟨hn, .int n, H', I'.tok _, ⟨_, rfl⟩, qn⟩
    | next => exact False.elim hq
    | brk => exact False.elim hq
    | cont => exact False.elim hq
end
end Bf
/-! reading lemmas, second part: slices, fields, methods, comprehensions -/
namespace Bf
open PySem L2
section
variable {K : PySem.W.Frag} {σ : St} {H H1 : Hp} {D : Ends} {t u : TS} {te ta tb tc tv : TE} {ts : TA} {tt tu : TT} {g : TG} {gs : TGs} {v x y : V} {Q : VK} {R : Bool → Hp → Prop} {S : St → Hp → Prop} {i j : Nat} {a c d : St → Hp → Prop} {b : VK}
/-! ### slices, sums of lists and tuples -/
theorem r_sl {r : V → Option Int → Option Int → Hp → VK → Prop} {tl th : TO} (k : te σ H fun x H1 => tl σ H1 fun l H2 => th σ H2 fun u H3 => r x l u H3 Q) : tSl r te tl th σ H Q := k
theorem r_nopart {R : Option Int → Hp → Prop} (k : R none H) : tNoPart σ H R := k
theorem r_part {R : Option Int → Hp → Prop} (k : te σ H fun x H1 => ∃ i, x = .int i ∧ R (some i) H1) : tPart te σ H R := k
theorem r_isint {P : Int → Prop} {n : Int} (k : P n) : ∃ i, V.int n = .int i ∧ P i := ⟨n, rfl, k⟩
theorem cut_to {xs : List V} {n : Int} (h : 0 ≤ n) : cutV xs none (some n) = xs.take n.toNat := by
  have e : n = ((n.toNat : Nat) : Int) := by omega
  unfold cutV
  rw [HT.sIx_none, List.drop_zero, Nat.sub_zero, e, HT.sIx_nat, Int.toNat_natCast]
  rcases Nat.le_total n.toNat xs.length with h1 | h1
  · rw [Nat.min_eq_left h1]
  · rw [Nat.min_eq_right h1, List.take_length, List.take_of_length_le h1]
theorem cut_from {xs : List V} {n : Int} (h : 0 ≤ n) : cutV xs (some n) none = xs.drop n.toNat := by
  have e : n = ((n.toNat : Nat) : Int) := by omega
  unfold cutV
  rw [HT.sIx_none, e, HT.sIx_nat, Int.toNat_natCast]
  rcases Nat.le_total n.toNat xs.length with h1 | h1
  · rw [Nat.min_eq_left h1, List.take_of_length_le (by rw [List.length_drop]; exact Nat.le_refl _)]
  · rw [Nat.min_eq_right h1, Nat.sub_self, List.take_zero, List.drop_eq_nil_of_le h1]
theorem n_slL {p : Addr} {xs ys : List V} {lo hi : Option Int} (h : H p = some (.lst xs)) (e : cutV xs lo hi = ys) (k : ∀ q H', H q = none → Same H H' → H' q = some (.lst ys) → Q (.ref q) H') : rSlL K (.ref p) lo hi H Q :=
  ⟨p, xs, rfl, SqL.of h, by subst e; exact n_new k⟩
theorem n_slT {p : Addr} {xs ys : List V} {lo hi : Option Int} (h : H p = some (.tup xs)) (w : ¬ (HT.sIx xs.length 0 lo = 0 ∧ HT.sIx xs.length xs.length hi = xs.length)) (e : cutV xs lo hi = ys) (k : ∀ q H', H q = none → Same H H' → H' q = some (.tup ys) → Q (.ref q) H') : rSlT K (.ref p) lo hi H Q :=
  ⟨p, xs, rfl, SqT.of h, w, by subst e; exact n_new k⟩
theorem n_catT {p q : Addr} {xs ys : List V} (h : H p = some (.tup xs)) (h2 : H q = some (.tup ys)) (e1 : xs ≠ []) (e2 : ys ≠ []) (hl : xs.length + ys.length ≤ sizeLine) (k : ∀ q H', H q = none → Same H H' → H' q = some (.tup (xs ++ ys)) → Q (.ref q) H') : rCatT K (.ref p) (.ref q) H Q :=
  ⟨p, q, xs, ys, rfl, rfl, SqT.of h, SqT.of h2, e1, hl, fun z => absurd z e2, fun _ => n_new k⟩
theorem n_cat {p q : Addr} {xs ys : List V} (h : H p = some (.lst xs)) (h2 : H q = some (.lst ys)) (hl : xs.length + ys.length ≤ sizeLine) (k : ∀ q H', H q = none → Same H H' → H' q = some (.lst (xs ++ ys)) → Q (.ref q) H') : rCat (.ref p) (.ref q) H Q :=
  ⟨p, q, xs, ys, rfl, rfl, h, h2, hl, n_new k⟩
def rRevL (K : PySem.W.Frag) (x : V) (H1 : Hp) (Q : VK) : Prop := ∃ a xs, x = .ref a ∧ SqL K H1 a xs ∧ ∀ p, H1 p = none → Q (.ref p) (upd H1 p (.lst xs.reverse))
theorem r_revL (k : te σ H fun x H1 => rRevL K x H1 Q) : tRevL K te σ H Q := k
theorem n_revL {p : Addr} {xs : List V} (h : H p = some (.lst xs)) (k : ∀ q H', H q = none → Same H H' → H' q = some (.lst xs.reverse) → Q (.ref q) H') : rRevL K (.ref p) H Q := ⟨p, xs, rfl, SqL.of h, n_new k⟩
/-! ### fields, methods, new instances -/
def rSFld (K : PySem.W.Frag) (f : Str) (D : Ends) (σ : St) (y x : V) (H2 : Hp) : Prop := ∃ a C dx fs, x = .ref a ∧ H2 a = some (.ins C dx fs) ∧ Cls K C ∧ NoAttr K C f ∧ fs.length < 1000 ∧ D.nx σ (upd H2 a (.ins C dx (putF f y fs)))
theorem r_sfld {f : Str} (k : tv σ H fun y H1 => ta σ H1 fun x H2 => rSFld K f ⟨a, b, c, d⟩ σ y x H2) : sFld K ta tv f ⟨a, b, c, d⟩ σ H := k
theorem n_sfld {p C dx : Addr} {fs : List (Str × V)} {f : Str} (h : H p = some (.ins C dx fs)) (k1 : Cls K C) (k2 : NoAttr K C f) (l : fs.length < 1000) (k : ∀ H', Kp p H H' → H' p = some (.ins C dx (putF f y fs)) → a σ H') : rSFld K f ⟨a, b, c, d⟩ σ y (.ref p) H :=
  ⟨p, C, dx, fs, rfl, h, k1, k2, l, k _ (Kp.upd p H _) upd_same⟩
def rMeth (C : Addr) (m : Str) (sp : Sp) (dvs : List V) (E : XK) (t : TA) (σ : St) (x : V) (H1 : Hp) (Q : VK) : Prop := ∃ a dx fs, x = .ref a ∧ H1 a = some (.ins C dx fs) ∧ fs.lookup m = none ∧ t σ H1 fun vs H2 => sp (x :: (vs ++ dvs)) H2 Q E
theorem r_meth {C : Addr} {m : Str} {sp : Sp} {dvs : List V} {E : XK} (k : ta σ H fun x H1 => rMeth C m sp dvs E ts σ x H1 Q) : tMeth C m sp dvs E ta ts σ H Q := k
theorem n_meth {C p dx : Addr} {m : Str} {sp : Sp} {dvs : List V} {E : XK} {fs : List (Str × V)} (h : H p = some (.ins C dx fs)) (l : fs.lookup m = none) (k : ts σ H fun vs H2 => sp (.ref p :: (vs ++ dvs)) H2 Q E) : rMeth C m sp dvs E ts σ (.ref p) H Q := ⟨p, dx, fs, rfl, h, l, k⟩
def rMake (C : Addr) (sp : Sp) (dvs : List V) (E : XK) (vs : List V) (H1 : Hp) (Q : VK) : Prop := ∀ x dx, H1 x = none → H1 dx = none → dx ≠ x → sp (.ref x :: (vs ++ dvs)) (upd (upd H1 dx (.own x)) x (.ins C dx [])) (fun v H2 => v = .non ∧ Q (.ref x) H2) E
theorem r_make {C : Addr} {sp : Sp} {dvs : List V} {E : XK} (k : ts σ H fun vs H1 => rMake C sp dvs E vs H1 Q) : tMake C sp dvs E ts σ H Q := k
theorem n_make {C : Addr} {sp : Sp} {dvs : List V} {E : XK} {vs : List V} (k : ∀ x dx H', H x = none → Same H H' → H' x = some (.ins C dx []) → sp (.ref x :: (vs ++ dvs)) H' (fun v H2 => v = .non ∧ Q (.ref x) H2) E) : rMake C sp dvs E vs H Q :=
  fun x dx nx nd hne => k x dx _ nx (fun p o e => by
    rw [upd_ne (ne_of_none e nx), upd_ne (ne_of_none e nd)]
    exact e) upd_same
/-! ### list comprehensions -/
/-- what an element's value is handed to -/
def rAcc (D : Addr) (N : Hp → Prop) : VK := fun y H4 => ∃ acc, H4 D = some (.lst acc) ∧ acc.length < sizeLine ∧ N (upd H4 D (.lst (acc ++ [y])))
theorem n_acc {D : Addr} {N : Hp → Prop} {acc : List V} (h : H D = some (.lst acc)) (l : acc.length < sizeLine) (k : ∀ H5, Kp D H H5 → H5 D = some (.lst (acc ++ [y])) → N H5) : rAcc D N y H := ⟨acc, h, l, k _ (Kp.upd D H _) upd_same⟩
/-- the loop, its source being J -/
def rLc (J : It) (g : TG) (tt : TT) (te : TE) (vs : List Nat) (σ : St) (H1 : Hp) (Q : VK) : Prop := ∀ D, H1 D = none → ∃ W : Nat → Nat → Hp → Prop, (∃ m, W 0 m (upd H1 D (.lst []))) ∧ ∀ i m H, W i m H →
  (J.stop i H ∧ Q (.ref D) H) ∨ (J.go i H ∧ ∃ Nx : Hp → Prop, (∀ H', Nx H' → ∃ m', m' < m ∧ W (i + 1) m' H') ∧ ∀ x H', J.yld i H x H' → g x (wipe σ vs) H' fun σ2 H2 => wipe σ2 vs = wipe σ vs ∧ tt σ2 H2 fun b H3 =>
    if b = true then te σ2 H3 (rAcc D Nx) else Nx H3)
/-- one turn -/
def rTurn (g : TG) (tt : TT) (te : TE) (vs : List Nat) (σ : St) (D : Addr) (N : Hp → Prop) (x : V) (H : Hp) : Prop := g x (wipe σ vs) H fun σ2 H2 => wipe σ2 vs = wipe σ vs ∧ tt σ2 H2 fun b H3 => if b = true then te σ2 H3 (rAcc D N) else N H3
theorem r_turn {vs : List Nat} {D : Addr} {N : Hp → Prop} (k : g x (wipe σ vs) H fun σ2 H2 => wipe σ2 vs = wipe σ vs ∧ tt σ2 H2 fun b H3 => if b = true then te σ2 H3 (rAcc D N) else N H3) : rTurn g tt te vs σ D N x H := k
theorem r_wipe {σ2 : St} {vs : List Nat} {P : Prop} (h : wipe σ2 vs = wipe σ vs) (k : P) : wipe σ2 vs = wipe σ vs ∧ P := ⟨h, k⟩
theorem r_yes (k : R true H) : tYes σ H R := k
def rLcL (K : PySem.W.Frag) (g : TG) (tt : TT) (te : TE) (vs : List Nat) (σ : St) (x : V) (H1 : Hp) (Q : VK) : Prop := ∃ a, x = .ref a ∧ (∃ xs, SqL K H1 a xs) ∧ rLc (Itl K a) g tt te vs σ H1 Q
theorem r_lcL {vs : List Nat} (k : ta σ H fun x H1 => rLcL K g tt te vs σ x H1 Q) : tLc (iList K ta) g tt te vs σ H Q := k
theorem n_lcL {p : Addr} {xs : List V} {vs : List Nat} (hx : H p = some (.lst xs))
    (k : ∀ D H0, H D = none → Same H H0 → H0 D = some (.lst []) → ∃ Pv : Nat → Hp → Prop, Pv 0 H0 ∧ (∀ i H, Pv i H → H p = some (.lst xs)) ∧
      (∀ i x H, xs[i]? = some x → Pv i H → rTurn g tt te vs σ D (Pv (i + 1)) x H) ∧ ∀ H', Pv xs.length H' → Q (.ref D) H') : rLcL K g tt te vs σ (.ref p) H Q := by
  refine ⟨p, rfl, ⟨xs, SqL.of hx⟩, fun D hD => ?_⟩
  obtain ⟨Pv, h0, hk, hs, hd⟩ := k D _ hD (same_new hD) upd_same
  exact lc_list (K := K) (a := p) (xs := xs) Pv h0 (fun i H _ p => SqL.of (hk i H p)) hs hd
def rLcT (K : PySem.W.Frag) (g : TG) (tt : TT) (te : TE) (vs : List Nat) (σ : St) (x : V) (H1 : Hp) (Q : VK) : Prop := ∃ a, x = .ref a ∧ (∃ xs, SqT K H1 a xs) ∧ rLc (Itt K a) g tt te vs σ H1 Q
theorem r_lcT {vs : List Nat} (k : ta σ H fun x H1 => rLcT K g tt te vs σ x H1 Q) : tLc (iTup K ta) g tt te vs σ H Q := k
theorem n_lcT {p : Addr} {xs : List V} {vs : List Nat} (hx : H p = some (.tup xs))
    (k : ∀ D H0, H D = none → Same H H0 → H0 D = some (.lst []) → ∃ Pv : Nat → Hp → Prop, Pv 0 H0 ∧ (∀ i H, Pv i H → H p = some (.tup xs)) ∧
      (∀ i x H, xs[i]? = some x → Pv i H → rTurn g tt te vs σ D (Pv (i + 1)) x H) ∧ ∀ H', Pv xs.length H' → Q (.ref D) H') : rLcT K g tt te vs σ (.ref p) H Q := by
  refine ⟨p, rfl, ⟨xs, SqT.of hx⟩, fun D hD => ?_⟩
  obtain ⟨Pv, h0, hk, hs, hd⟩ := k D _ hD (same_new hD) upd_same
  exact lc_tup (K := K) (a := p) (xs := xs) Pv h0 (fun i H _ p => SqT.of (hk i H p)) hs hd
def rLcR (g : TG) (tt : TT) (te : TE) (vs : List Nat) (σ : St) (us : List V) (H1 : Hp) (Q : VK) : Prop := ∃ j : Int, us = [.int j] ∧ -(2 ^ 62) ≤ j ∧ j < 2 ^ 62 ∧ rLc (Itr 0 j.toNat) g tt te vs σ H1 Q
theorem r_lcR {vs : List Nat} (k : ts σ H fun us H1 => rLcR g tt te vs σ us H1 Q) : tLc (iRng1 ts) g tt te vs σ H Q := k
theorem n_lcR {n : Int} {vs : List Nat} (hn : -(2 ^ 62) ≤ n ∧ n < 2 ^ 62)
    (k : ∀ D H0, H D = none → Same H H0 → H0 D = some (.lst []) → ∃ Pv : Nat → Hp → Prop, Pv 0 H0 ∧
      (∀ i H, i < n.toNat → Pv i H → rTurn g tt te vs σ D (Pv (i + 1)) (.int i) H) ∧ ∀ H', Pv n.toNat H' → Q (.ref D) H') : rLcR g tt te vs σ [.int n] H Q := by
  refine ⟨n, rfl, hn.1, hn.2, fun D hD => ?_⟩
  obtain ⟨Pv, h0, hs, hd⟩ := k D _ hD (same_new hD) upd_same
  exact lc_range (lo := 0) (n := n.toNat) Pv h0 (fun i H hi p => by rw [Int.zero_add]; exact hs i H hi p) hd
/-! ### the same rules in a comprehension's block: K is named -/
theorem pe_fldK {X : Cx} {o : Expr} {f : Str} {pos : Pos} (hK : X.K = K) (he : PE X o ta) (hb : attributeBase o f X.env (eval o X.env) = eval o X.env) : PE X (.Attribute o f pos) (tFld K ta f) := by
  subst hK
  exact pe_fld he hb
theorem ix_seqK {X : Cx} (hK : X.K = K) : IxR X (rIx K) := by
  subst hK
  exact ix_seq
theorem b_tupleK {X : Cx} (hK : X.K = K) : CallR X (.type "tuple") (rTupOf K) := by
  subst hK
  exact b_tuple
theorem b_lenK {X : Cx} (hK : X.K = K) : CallR X (.builtin "len") (rLen K) := by
  subst hK
  exact b_len
theorem pi_listK {X : Cx} {tg o : Expr} (hK : X.K = K) (he : PE X o te) : PI X tg o (iList K te) := by
  subst hK
  exact pi_list he
theorem pi_tupK {X : Cx} {tg o : Expr} (hK : X.K = K) (he : PE X o te) : PI X tg o (iTup K te) := by
  subst hK
  exact pi_tup he
/-! ### dicts -/
def rDGet (x y : V) (H2 : Hp) (Q : VK) : Prop := ∃ a v, x = .ref a ∧ DGet H2 a y (some v) ∧ Q v H2
theorem r_dget {td ty : TE} (k : td σ H fun x H1 => ty σ H1 fun y H2 => rDGet x y H2 Q) : tDGet td ty σ H Q := k
theorem n_dgetS {p : Addr} {kvs : List (Key × V)} {z : Str} (h : H p = some (.dK kvs)) (e : valV kvs (.inr z) = some v) (k : Q v H) : rDGet (.ref p) (.str z) H Q :=
  ⟨p, v, rfl, by rw [← e]; exact DGet.k (k := .inr z) h, k⟩
def rDisp (p : Addr) (Q : VK) (ps : List (V × V)) (H2 : Hp) : Prop := H2 p = some (.dK []) ∧ ∃ kvs : List (Key × V), ps = kvs.map (fun kv => (kV kv.1, kv.2)) ∧ kvs.length ≤ 15 ∧ Q (.ref p) (upd H2 p (.dK (mergeK [] kvs)))
theorem r_disp {trs : List (TE × TE)} (k : ∀ p H1, H p = none → Same H H1 → H1 p = some (.dK []) → tPairs trs σ H1 (rDisp p Q)) : tDisp trs σ H Q := fun p n => k p _ n (same_new n) upd_same
theorem r_pcons {tk tv : TE} {trs : List (TE × TE)} {R : List (V × V) → Hp → Prop} (k : tk σ H fun x H1 => tv σ H1 fun y H2 => tPairs trs σ H2 fun ps H3 => R ((x, y) :: ps) H3) : tPairs ((tk, tv) :: trs) σ H R := k
theorem r_pnil {R : List (V × V) → Hp → Prop} (k : R [] H) : tPairs [] σ H R := k
theorem n_disp {p : Addr} {ps : List (V × V)} {kvs kvs' : List (Key × V)} (h : H p = some (.dK [])) (e : ps = kvs.map (fun kv => (kV kv.1, kv.2))) (l : kvs.length ≤ 15) (m : mergeK [] kvs = kvs') (k : ∀ H3, Kp p H H3 → H3 p = some (.dK kvs') → Q (.ref p) H3) : rDisp p Q ps H :=
  ⟨h, kvs, e, l, by rw [m]; exact k _ (Kp.upd p H _) upd_same⟩
end
end Bf
/-! the text by places, what the top has written, how a promise is made -/
namespace Bf
open PySem L2
def topS (i : Nat) : Stmt := PySem.Challenge.pw_brimful_k07_whole_programs_are_undone.main.body.getD i (.Pass ⟨0, 0, 0, 0⟩)
structure Gs (mg : Str → Option Value) : Prop where
  c_FACTORS : ∃ u, mg "FACTORS" = some u ∧ RelV (.int 3) u
  c_MODULUS : ∃ u, mg "MODULUS" = some u ∧ RelV (.int 1000000000) u
  c_CELLS : ∃ u, mg "CELLS" = some u ∧ RelV (.int 60) u
  c_INPUTS : ∃ u, mg "INPUTS" = some u ∧ RelV (.int 60) u
  c_STEPS : ∃ u, mg "STEPS" = some u ∧ RelV (.int 20000) u
  n_bool : mg "bool" = none
  n_int : mg "int" = none
  n_isinstance : mg "isinstance" = none
  n_len : mg "len" = none
  n_list : mg "list" = none
  n_max : mg "max" = none
  n_min : mg "min" = none
  n_range : mg "range" = none
  n_str : mg "str" = none
  n_tuple : mg "tuple" = none
  n_zip : mg "zip" = none
/-- a def of the module, of no default -/
structure DefAt (K : PySem.W.Frag) (mg : Str → Option Value) (x : Str) (st : Stmt) : Prop where
  ex : ∃ (f : Addr) (fd : FuncData), FunD K x x (defArgs st) (defBody st) (defScope st) [] [] f fd ∧ mg x = some (.ref f)
section
variable {P : Program} {w : World} {K : PySem.W.Frag} {mg : Str → Option Value} {base : Heap}
theorem cal_of {x : Str} {st : Stmt} {N ps : List Str} {k : Nat} {sp : Sp} (F : DefAt K mg x st) (S : FnScope N ps (defScope st))
    (b : ∀ (kV doc pm : Value) (an : Option Addr) (cdv ct : Value) (us : List Value), us.length = ps.length → bindArgs (PySem.W.fnOf x x (defArgs st) (defBody st) (defScope st) .none kV doc pm an cdv ct) ⟨us, []⟩ = pure (ps.zip us))
    (len : ∀ vs H Q E, sp vs H Q E → vs.length = ps.length)
    (hbody : ∀ (f : Addr) (cdv : Value) (A : Around) (outer : List Env) (s : Shared) (H : Hp) (vs : List V) (Q : VK) (E : XK), Room k (A.deeper (PyProof.Rows.envOfC x (defScope st) s.heap.objs.size f cdv)) → sp vs H Q E →
      ∃ t, PSs (cxOf CX0 P w K mg base N x (defScope st) f cdv A outer s H E).nox (defBody st) t ∧ t ⟨fun _ H' => Q .non H', Q, fun _ _ => False, fun _ _ => False⟩ (start N vs) H) : C8.Cal P w K mg base (k + 1) x sp [] := by
  obtain ⟨f, fd, D, m⟩ := F.ex
  refine ⟨f, fd, ps, [], FunD.ok D S len fun cdv A outer s H vs Q E hr h => ?_, m, D.kp, FunD.bindsN D b, .nil⟩
  obtain ⟨t, h1, h2⟩ := hbody f cdv A outer s H vs Q E hr h
  exact ⟨t, h1.nox, h2⟩
theorem fn_of {x qual : Str} {st : Stmt} {f : Addr} {fd : FuncData} {N ps : List Str} {k : Nat} {sp : Sp} (D : FunD K x qual (defArgs st) (defBody st) (defScope st) [] [] f fd) (S : FnScope N ps (defScope st))
    (len : ∀ vs H Q E, sp vs H Q E → vs.length = ps.length)
    (hbody : ∀ (cdv : Value) (A : Around) (outer : List Env) (s : Shared) (H : Hp) (vs : List V) (Q : VK) (E : XK), Room k (A.deeper (PyProof.Rows.envOfC qual (defScope st) s.heap.objs.size f cdv)) → sp vs H Q E →
      ∃ t, PSs (cxOf CX0 P w K mg base N qual (defScope st) f cdv A outer s H E).nox (defBody st) t ∧ t ⟨fun _ H' => Q .non H', Q, fun _ _ => False, fun _ _ => False⟩ (start N vs) H) : FnOk P w K mg base CX0 (k + 1) f fd ps sp :=
  FunD.ok D S len fun cdv A outer s H vs Q E hr h => by
    obtain ⟨t, h1, h2⟩ := hbody cdv A outer s H vs Q E hr h
    exact ⟨t, h1.nox, h2⟩
end
end Bf
/-! plain mathematics of numbers.py -/
namespace Bf
/-- n is a prime, by trial division -/
def Pr (n : Int) : Prop := ∀ d : Int, 2 ≤ d → d * d ≤ n → n % d ≠ 0
theorem pr_even {n : Int} (h2 : 2 ≤ n) (he : n % 2 = 0) : Pr n ↔ n = 2 := by
  constructor
  · intro h
    by_cases h4 : n = 2
    · exact h4
    · exact absurd he (h 2 (by omega) (by omega))
  · intro e d hd hdd
    subst e
    have : d * d ≥ 2 * 2 := Int.mul_le_mul hd hd (by omega) (by omega)
    omega
theorem dvd_mod {n d : Int} : n % d = 0 ↔ d ∣ n := ⟨Int.dvd_of_emod_eq_zero, Int.emod_eq_zero_of_dvd⟩
/-- odd n: no divisor below d; then none below d + 2 -/
theorem pr_step {n d : Int} (ho : n % 2 ≠ 0) (hd : d % 2 = 1) (h : ∀ e : Int, 2 ≤ e → e < d → n % e ≠ 0) (hn : n % d ≠ 0) : ∀ e : Int, 2 ≤ e → e < d + 2 → n % e ≠ 0 := by
  intro e h2 he
  by_cases h1 : e < d
  · exact h e h2 h1
  · by_cases h3 : e = d
    · subst h3; exact hn
    · have h4 : e = d + 1 := by omega
      intro hz
      apply ho
      have hdv : e ∣ n := dvd_mod.mp hz
      have h2e : (2 : Int) ∣ e := by
        apply dvd_mod.mp
        omega
      exact dvd_mod.mpr (Int.dvd_trans h2e hdv)
theorem pr_end {n d : Int} (h : ∀ e : Int, 2 ≤ e → e < d → n % e ≠ 0) (hd : 0 ≤ d) (hdd : n < d * d) : Pr n := by
  intro e h2 hee
  apply h e h2
  apply Int.lt_of_not_ge
  intro hge
  have : d * d ≤ e * e := Int.mul_le_mul hge hge hd (by omega)
  omega
/-! ### inverses -/
/-- v is the inverse of n modulo m -/
def IsInv (m n v : Int) : Prop := 0 ≤ v ∧ v < m ∧ v * n % m = 1
theorem inv_one {m n v w : Int} (hm : 2 ≤ m) (hv : IsInv m n v) (hw : IsInv m n w) : v = w := by
  obtain ⟨v0, v1, v2⟩ := hv
  obtain ⟨w0, w1, w2⟩ := hw
  have e : (v - w) % m = 0 := by
    have h1 : v * (w * n) % m = v % m := by
      rw [Int.mul_emod, w2, Int.mul_one, Int.emod_emod]
    have h2 : w * (v * n) % m = w % m := by
      rw [Int.mul_emod, v2, Int.mul_one, Int.emod_emod]
    have h3 : v * (w * n) = w * (v * n) := by rw [← Int.mul_assoc, ← Int.mul_assoc, Int.mul_comm v w]
    rw [h3] at h1
    have h4 : v % m = w % m := h1.symm.trans h2
    exact Int.emod_eq_zero_of_dvd (Int.dvd_of_emod_eq_zero (by rw [Int.sub_emod, h4, Int.sub_self, Int.zero_emod]))
  have h5 : v % m = v := Int.emod_eq_of_lt v0 v1
  have h6 : w % m = w := Int.emod_eq_of_lt w0 w1
  obtain ⟨k, hk⟩ := dvd_mod.mp e
  have : k = 0 := by
    by_cases h0 : k = 0
    · exact h0
    · exfalso
      rcases Int.lt_or_gt_of_ne h0 with hl | hg
      · have : m * k ≤ m * (-1) := Int.mul_le_mul_of_nonneg_left (by omega) (by omega)
        omega
      · have : m * 1 ≤ m * k := Int.mul_le_mul_of_nonneg_left (by omega) (by omega)
        omega
  subst this
  omega
open Classical in
noncomputable def invOf (n m : Int) : Int := if h : ∃ v, IsInv m n v then h.choose else 0
theorem invOf_is {m n v : Int} (h : IsInv m n v) : IsInv m n (invOf n m) := by
  unfold invOf
  have hh : ∃ v, IsInv m n v := ⟨v, h⟩
  rw [dif_pos hh]
  exact hh.choose_spec
theorem invOf_eq {m n v : Int} (hm : 2 ≤ m) (h : IsInv m n v) : invOf n m = v := inv_one hm (invOf_is h) h
/-- the extended Euclid's turn -/
structure Eu (n m r o a b : Int) : Prop where
  r0 : 0 ≤ r
  r1 : r ≤ m
  o0 : 0 ≤ o
  o1 : o ≤ m
  ra : (r - a * n) % m = 0
  ob : (o - b * n) % m = 0
  g : Int.gcd r o = Int.gcd n m
theorem gcd_mod (m n : Int) : Int.gcd m (n % m) = Int.gcd m n := by
  have e : n % m = n - n / m * m := by
    have := Int.emod_add_mul_ediv n m
    rw [Int.mul_comm] at this
    omega
  rw [e, Int.gcd_sub_mul_right_right]
theorem eu_start {n m : Int} (hm : 2 ≤ m) : Eu n m (n % m) m 1 0 where
  r0 := Int.emod_nonneg n (by omega)
  r1 := Int.le_of_lt (Int.emod_lt_of_pos n (by omega))
  o0 := by omega
  o1 := Int.le_refl m
  ra := by
    rw [Int.one_mul]
    apply Int.emod_eq_zero_of_dvd
    have : n % m - n = m * -(n / m) := by
      have := Int.emod_add_mul_ediv n m
      rw [Int.mul_neg]
      omega
    exact ⟨_, this⟩
  ob := by
    rw [Int.zero_mul, Int.sub_zero]
    exact Int.emod_self
  g := by
    rw [Int.gcd_comm, Int.gcd_comm n m, gcd_mod]
theorem eu_turn {n m r o a b : Int} (h : Eu n m r o a b) (ho : 0 < o) : Eu n m o (r - r / o * o) b (a - r / o * b) ∧ r - r / o * o < o ∧ 0 ≤ r - r / o * o ∧ 0 ≤ r / o ∧ r / o ≤ m := by
  have e : r - r / o * o = r % o := by
    have := Int.emod_add_mul_ediv r o
    rw [Int.mul_comm] at this
    omega
  have l0 := Int.emod_nonneg r (show o ≠ 0 by omega)
  have l1 := Int.emod_lt_of_pos r ho
  have q0 : 0 ≤ r / o := Int.ediv_nonneg h.r0 (by omega)
  have q1 : r / o ≤ r := Int.ediv_le_self o h.r0
  refine ⟨⟨h.o0, h.o1, by omega, by have := h.o1; omega, h.ob, ?_, ?_⟩, by omega, by omega, q0, by have := h.r1; omega⟩
  · have h1 := dvd_mod.mp h.ra
    have h2 := dvd_mod.mp h.ob
    apply dvd_mod.mpr
    have : r - r / o * o - (a - r / o * b) * n = (r - a * n) - r / o * (o - b * n) := by
      rw [Int.sub_mul, Int.mul_sub, Int.mul_assoc]
      omega
    rw [this]
    exact Int.dvd_sub h1 (Int.dvd_trans h2 (Int.dvd_mul_left _ _))
  · rw [e, ← h.g, gcd_mod, Int.gcd_comm]
theorem eu_end {n m r a b : Int} (hm : 2 ≤ m) (h : Eu n m r 0 a b) : (r = 1 ↔ Int.gcd n m = 1) ∧ (r = 1 → IsInv m n (a % m)) := by
  have g := h.g
  rw [Int.gcd_zero_right] at g
  have r0 := h.r0
  refine ⟨by omega, fun e => ⟨Int.emod_nonneg a (by omega), Int.emod_lt_of_pos a (by omega), ?_⟩⟩
  have h1 := h.ra
  rw [e] at h1
  obtain ⟨k, hk⟩ := dvd_mod.mp h1
  have : a * n = 1 + m * (-k) := by
    rw [Int.mul_neg]
    omega
  rw [Int.mul_emod, Int.emod_emod, ← Int.mul_emod, this, Int.add_mul_emod_self_left]
  exact Int.emod_eq_of_lt (by omega) (by omega)
end Bf
/-! plain mathematics: weights, interpolate -/
namespace Bf
/-- the product of (x - j) over j in range(K) but i, modulo p -/
def wprod (p x i : Int) (js : List Nat) : Int := js.foldl (fun (acc : Int) (j : Nat) => if (j : Int) ≠ i then acc * (x - j) % p else acc) 1
noncomputable def wgt (p : Int) (K : Nat) (x : Int) (i : Nat) : Int := wprod p x i (List.range K) * invOf (wprod p i i (List.range K)) p % p
noncomputable def wgts (p : Int) (K : Nat) (x : Int) : List Int := (List.range K).map (wgt p K x)
/-- every number from 1 to K - 1 is a unit modulo p -/
def Units (p : Int) (K : Nat) : Prop := ∀ d : Nat, 1 ≤ d → d < K → Int.gcd (d : Int) p = 1
theorem wprod_bd {p x i : Int} (hp : 2 ≤ p) (js : List Nat) : 0 ≤ wprod p x i js ∧ wprod p x i js < p := by
  unfold wprod
  suffices h : ∀ (acc : Int), 0 ≤ acc → acc < p → 0 ≤ js.foldl (fun (acc : Int) (j : Nat) => if (j : Int) ≠ i then acc * (x - j) % p else acc) acc ∧ js.foldl (fun (acc : Int) (j : Nat) => if (j : Int) ≠ i then acc * (x - j) % p else acc) acc < p from h 1 (by omega) (by omega)
  induction js with
  | nil => intro acc h0 h1; exact ⟨h0, h1⟩
  | cons j r ih =>
    intro acc h0 h1
    rw [List.foldl_cons]
    by_cases e : (j : Int) ≠ i
    · rw [if_pos e]
      exact ih _ (Int.emod_nonneg _ (by omega)) (Int.emod_lt_of_pos _ (by omega))
    · rw [if_neg e]
      exact ih _ h0 h1
theorem gcd_mul_mod {a b p : Int} (ha : Int.gcd a p = 1) (hb : Int.gcd b p = 1) : Int.gcd (a * b % p) p = 1 := by
  rw [Int.gcd_comm, gcd_mod, Int.gcd_comm]
  have h1 : Nat.Coprime a.natAbs p.natAbs := ha
  have h2 : Nat.Coprime b.natAbs p.natAbs := hb
  show Nat.gcd (a * b).natAbs p.natAbs = 1
  rw [Int.natAbs_mul]
  exact Nat.Coprime.mul_left h1 h2
theorem gcd_diff {p : Int} {K i j : Nat} (u : Units p K) (hi : i < K) (hj : j < K) (hne : (j : Int) ≠ (i : Int)) : Int.gcd ((i : Int) - j) p = 1 := by
  rcases Nat.lt_or_ge j i with h | h
  · have e : (i : Int) - j = ((i - j : Nat) : Int) := by omega
    rw [e]
    exact u _ (by omega) (by omega)
  · have e : (i : Int) - j = -((j - i : Nat) : Int) := by omega
    rw [e, Int.neg_gcd]
    exact u _ (by omega) (by omega)
theorem wprod_unit {p : Int} {K i : Nat} (u : Units p K) (hi : i < K) (js : List Nat) (hjs : ∀ j ∈ js, j < K) : Int.gcd (wprod p i i js) p = 1 := by
  unfold wprod
  suffices h : ∀ (acc : Int), Int.gcd acc p = 1 → Int.gcd (js.foldl (fun (acc : Int) (j : Nat) => if (j : Int) ≠ i then acc * ((i : Int) - j) % p else acc) acc) p = 1 from h 1 (by simp)
  induction js with
  | nil => intro acc h; exact h
  | cons j r ih =>
    intro acc h
    rw [List.foldl_cons]
    have hr : ∀ j ∈ r, j < K := fun j hj => hjs j (List.mem_cons_of_mem _ hj)
    by_cases e : (j : Int) ≠ i
    · rw [if_pos e]
      exact ih hr _ (gcd_mul_mod h (gcd_diff u hi (hjs j List.mem_cons_self) e))
    · rw [if_neg e]
      exact ih hr _ h
theorem unit_inv {n m : Int} (hm : 2 ≤ m) (h : Int.gcd n m = 1) : ∃ v, IsInv m n v := by
  -- the extended Euclid's run, as far as it goes
  have run : ∀ (k : Nat) (r o a b : Int), o.toNat = k → Eu n m r o a b → ∃ v, IsInv m n v := by
    intro k
    induction k using Nat.strongRecOn with
    | ind k ih =>
      intro r o a b hk eu
      by_cases ho : 0 < o
      · obtain ⟨t1, t2, t3, _, _⟩ := eu_turn eu ho
        exact ih _ (by omega) _ _ _ _ rfl t1
      · have o0 : o = 0 := by
          have := eu.o0
          omega
        subst o0
        obtain ⟨g1, g2⟩ := eu_end hm eu
        exact ⟨_, g2 (g1.mpr h)⟩
  exact run _ _ _ _ _ rfl (eu_start hm)
theorem invOf_unit {n m : Int} (hm : 2 ≤ m) (h : Int.gcd n m = 1) : IsInv m n (invOf n m) := by
  obtain ⟨v, hv⟩ := unit_inv hm h
  exact invOf_is hv
theorem inv_gcd {n m v : Int} (h : IsInv m n v) : Int.gcd v m = 1 := by
  obtain ⟨_, _, h2⟩ := h
  have h1 : ((Int.gcd v m : Nat) : Int) ∣ v := Int.gcd_dvd_left ..
  have h3 : ((Int.gcd v m : Nat) : Int) ∣ m := Int.gcd_dvd_right ..
  have h4 : ((Int.gcd v m : Nat) : Int) ∣ 1 := by
    have e : (1 : Int) = v * n - m * (v * n / m) := by
      have := Int.emod_add_mul_ediv (v * n) m
      omega
    rw [e]
    exact Int.dvd_sub (Int.dvd_trans h1 (Int.dvd_mul_right ..)) (Int.dvd_trans h3 (Int.dvd_mul_right ..))
  have h5 := Int.eq_one_of_dvd_one (by omega) h4
  omega
theorem inv_gcd_n {n m v : Int} (h : IsInv m n v) : Int.gcd n m = 1 := by
  obtain ⟨_, _, h2⟩ := h
  have h1 : ((Int.gcd n m : Nat) : Int) ∣ n := Int.gcd_dvd_left ..
  have h3 : ((Int.gcd n m : Nat) : Int) ∣ m := Int.gcd_dvd_right ..
  have h4 : ((Int.gcd n m : Nat) : Int) ∣ 1 := by
    have e : (1 : Int) = v * n - m * (v * n / m) := by
      have := Int.emod_add_mul_ediv (v * n) m
      omega
    rw [e]
    exact Int.dvd_sub (Int.dvd_trans h1 (Int.dvd_mul_left ..)) (Int.dvd_trans h3 (Int.dvd_mul_right ..))
  have h5 := Int.eq_one_of_dvd_one (by omega) h4
  omega
theorem wgts_len (p : Int) (K : Nat) (x : Int) : (wgts p K x).length = K := by simp [wgts]
theorem wgts_bd {p : Int} (hp : 2 ≤ p) {K : Nat} {x w : Int} (h : w ∈ wgts p K x) : 0 ≤ w ∧ w < p := by
  unfold wgts at h
  obtain ⟨i, _, rfl⟩ := List.mem_map.mp h
  exact ⟨Int.emod_nonneg _ (by omega), Int.emod_lt_of_pos _ (by omega)⟩
/-- the two loops of interpolate -/
def inner (cols row : List Int) : Int := (row.zip cols).foldl (fun part (q : Int × Int) => part + q.1 * q.2) 0
def outer (p : Int) (cols : List Int) (rows : List (List Int × Int)) : Int := rows.foldl (fun total (q : List Int × Int) => (total + q.2 * inner cols q.1) % p) 0
noncomputable def itp (tb : List (List Int)) (p x y : Int) : Int :=
  if (0 ≤ x ∧ x < tb.length) ∧ 0 ≤ y ∧ y < tb.length then (tb.getD x.toNat []).getD y.toNat 0 % p
  else outer p (wgts p tb.length y) (tb.zip (wgts p tb.length x))
/-- a table of K rows of K numbers -/
structure IsTab (p : Int) (tb : List (List Int)) : Prop where
  pos : 1 ≤ tb.length
  sq : ∀ row ∈ tb, row.length = tb.length
  bd : ∀ row ∈ tb, ∀ e ∈ row, 0 ≤ e ∧ e < p
end Bf
/-! the steps: data, validity, inverse, what perform does -/
namespace Bf
open PySem
inductive Fac where
  | cell (i : Int) | inp (i : Int)
def Fac.d : Fac → Dt
  | .cell i => .t [.s "cell", .i i]
  | .inp i => .t [.s "input", .i i]
def Fac.ok (t c n : Int) : Fac → Prop
  | .cell i => (0 ≤ i ∧ i < c) ∧ i ≠ t
  | .inp i => 0 ≤ i ∧ i < n
inductive Step where
  | add (t k : Int) (fs : List Fac)
  | scale (t k : Int)
  | swap (a b : Int)
  | table (t s : Int) (tb : List (List Int)) (a b : Int)
def tabD (tb : List (List Int)) : Dt := .t (tb.map fun r => .t (r.map .i))
def Step.d : Step → Dt
  | .add t k fs => .t [.s "add", .i t, .i k, .t (fs.map Fac.d)]
  | .scale t k => .t [.s "scale", .i t, .i k]
  | .swap a b => .t [.s "swap", .i a, .i b]
  | .table t s tb a b => .t [.s "table", .i t, .i s, tabD tb, .i a, .i b]
structure Look (m c t s : Int) (tb : List (List Int)) (a b : Int) : Prop where
  ht : 0 ≤ t ∧ t < c
  ha : 0 ≤ a ∧ a < c
  hb : 0 ≤ b ∧ b < c
  hta : t ≠ a
  htb : t ≠ b
  hab : a ≠ b
  hs : s = 1 ∨ s = m - 1
  tab : IsTab m tb
  le : (tb.length : Int) ≤ m
  sz : tb.length ≤ 1000000
  un : Units m tb.length
def Step.ok (m c n : Int) : Step → Prop
  | .add t k fs => (0 ≤ t ∧ t < c) ∧ (0 ≤ k ∧ k < m) ∧ fs.length ≤ 3 ∧ ∀ f ∈ fs, f.ok t c n
  | .scale t k => (0 ≤ t ∧ t < c) ∧ (0 ≤ k ∧ k < m) ∧ Int.gcd k m = 1
  | .swap a b => (0 ≤ a ∧ a < c) ∧ (0 ≤ b ∧ b < c) ∧ a ≠ b
  | .table t s tb a b => Look m c t s tb a b
def Step.isTable : Step → Bool
  | .table .. => true
  | _ => false
noncomputable def Step.inv (m : Int) : Step → Step
  | .add t k fs => .add t (-k % m) fs
  | .scale t k => .scale t (invOf k m)
  | .swap a b => .swap a b
  | .table t s tb a b => .table t (m - s) tb a b
theorem neg_emod {k m : Int} (h0 : 0 ≤ k) (h1 : k < m) : -k % m = if k = 0 then 0 else m - k := by
  by_cases h : k = 0
  · subst h; simp
  · rw [if_neg h]
    have : -k = m - k + m * (-1) := by omega
    rw [this, Int.add_mul_emod_self_left]
    exact Int.emod_eq_of_lt (by omega) (by omega)
theorem neg_emod' {k m : Int} (h0 : 0 ≤ k) (h1 : k < m) : (m - k) % m = -k % m := by
  have : m - k = -k + m * 1 := by omega
  rw [this, Int.add_mul_emod_self_left]
theorem invOf_gcd {k m : Int} (hm : 2 ≤ m) (h : Int.gcd k m = 1) : Int.gcd (invOf k m) m = 1 := inv_gcd (invOf_unit hm h)
theorem invOf_invOf {k m : Int} (hm : 2 ≤ m) (h0 : 0 ≤ k) (h1 : k < m) (h : Int.gcd k m = 1) : invOf (invOf k m) m = k := by
  have i1 := invOf_unit hm h
  refine invOf_eq hm ⟨h0, h1, ?_⟩
  rw [Int.mul_comm]
  exact i1.2.2
theorem Step.inv_ok {m c n : Int} (hm : 2 ≤ m) : ∀ {s : Step}, s.ok m c n → (s.inv m).ok m c n
  | .add t k fs, h => ⟨h.1, ⟨Int.emod_nonneg _ (by omega), Int.emod_lt_of_pos _ (by omega)⟩, h.2.2.1, h.2.2.2⟩
  | .scale t k, h => ⟨h.1, ⟨(invOf_unit hm h.2.2).1, (invOf_unit hm h.2.2).2.1⟩, invOf_gcd hm h.2.2⟩
  | .swap a b, h => h
  | .table t s tb a b, h => { h with hs := by rcases h.hs with e | e <;> subst e <;> omega }
theorem Step.inv_inv {m c n : Int} (hm : 2 ≤ m) : ∀ {s : Step}, s.ok m c n → (s.inv m).inv m = s
  | .add t k fs, h => by
    obtain ⟨_, ⟨h0, h1⟩, _⟩ := h
    show Step.add t (-(-k % m) % m) fs = _
    rw [neg_emod h0 h1]
    by_cases hk : k = 0
    · subst hk; simp
    · rw [if_neg hk, neg_emod (by omega) (by omega), if_neg (by omega)]
      rw [show m - (m - k) = k by omega]
  | .scale t k, h => by
    show Step.scale t (invOf (invOf k m) m) = _
    rw [invOf_invOf hm h.2.1.1 h.2.1.2 h.2.2]
  | .swap a b, h => rfl
  | .table t s tb a b, h => by
    show Step.table t (m - (m - s)) tb a b = _
    rw [show m - (m - s) = s by omega]
theorem Step.inv_table {m : Int} : ∀ {s : Step}, (s.inv m).isTable = s.isTable
  | .add .. => rfl
  | .scale .. => rfl
  | .swap .. => rfl
  | .table .. => rfl
/-! ### what perform does -/
def gt (l : List Int) (i : Int) : Int := l.getD i.toNat 0
def facV (mem given : List Int) : Fac → Int
  | .cell i => gt mem i
  | .inp i => gt given i
def tot (m : Int) (mem given : List Int) (k : Int) (fs : List Fac) : Int := fs.foldl (fun (total : Int) f => total * facV mem given f % m) k
noncomputable def perf (m : Int) (given mem : List Int) : Step → List Int
  | .add t k fs => mem.set t.toNat ((gt mem t + tot m mem given k fs) % m)
  | .scale t k => mem.set t.toNat (gt mem t * k % m)
  | .swap a b => (mem.set a.toNat (gt mem b)).set b.toNat (gt mem a)
  | .table t s tb a b => mem.set t.toNat ((gt mem t + s * itp tb m (gt mem a) (gt mem b)) % m)
theorem perf_add {m : Int} {given mem : List Int} {t k : Int} {fs : List Fac} : perf m given mem (.add t k fs) = mem.set t.toNat ((gt mem t + tot m mem given k fs) % m) := rfl
theorem perf_scale {m : Int} {given mem : List Int} {t k : Int} : perf m given mem (.scale t k) = mem.set t.toNat (gt mem t * k % m) := rfl
theorem perf_swap {m : Int} {given mem : List Int} {a b : Int} : perf m given mem (.swap a b) = (mem.set a.toNat (gt mem b)).set b.toNat (gt mem a) := rfl
theorem perf_table {m : Int} {given mem : List Int} {t s a b : Int} {tb : List (List Int)} : perf m given mem (.table t s tb a b) = mem.set t.toNat ((gt mem t + s * itp tb m (gt mem a) (gt mem b)) % m) := rfl
/-- a memory: c numbers in range -/
def Mem (m c : Int) (l : List Int) : Prop := (l.length : Int) = c ∧ ∀ x ∈ l, 0 ≤ x ∧ x < m
theorem gt_bd {m c : Int} {l : List Int} (h : Mem m c l) {i : Int} (h0 : 0 ≤ i) (h1 : i < c) : 0 ≤ gt l i ∧ gt l i < m := by
  have e : i.toNat < l.length := by have := h.1; omega
  unfold gt
  rw [List.getD_eq_getElem?_getD, List.getElem?_eq_getElem e]
  exact h.2 _ (List.getElem_mem e)
theorem gt_at {l : List Int} {i : Int} (h0 : 0 ≤ i) (h1 : i < l.length) : l[i.toNat]? = some (gt l i) := by
  have e : i.toNat < l.length := by omega
  unfold gt
  rw [List.getD_eq_getElem?_getD, List.getElem?_eq_getElem e]
  rfl
theorem gt_set {l : List Int} {i j : Int} {x : Int} (hi : 0 ≤ i) (hj : 0 ≤ j) (h1 : i < l.length) : gt (l.set i.toNat x) j = if j = i then x else gt l j := by
  unfold gt
  rw [List.getD_eq_getElem?_getD, List.getD_eq_getElem?_getD, List.getElem?_set]
  by_cases e : j = i
  · subst e
    rw [if_pos rfl, if_pos rfl, if_pos (by omega)]
    rfl
  · rw [if_neg e, if_neg (by omega)]
theorem Mem.set {m c : Int} {l : List Int} (h : Mem m c l) (i : Nat) {x : Int} (hx : 0 ≤ x ∧ x < m) : Mem m c (l.set i x) := by
  refine ⟨by rw [List.length_set]; exact h.1, fun y hy => ?_⟩
  rcases List.mem_or_eq_of_mem_set hy with q | q
  · exact h.2 y q
  · rw [q]; exact hx
theorem perf_mem {m c n : Int} (hm : 2 ≤ m) {given mem : List Int} (h : Mem m c mem) : ∀ {s : Step}, s.ok m c n → Mem m c (perf m given mem s)
  | .add t k fs, _ => h.set _ ⟨Int.emod_nonneg _ (by omega), Int.emod_lt_of_pos _ (by omega)⟩
  | .scale t k, _ => h.set _ ⟨Int.emod_nonneg _ (by omega), Int.emod_lt_of_pos _ (by omega)⟩
  | .swap a b, o => (h.set _ (gt_bd h o.2.1.1 o.2.1.2)).set _ (gt_bd h o.1.1 o.1.2)
  | .table t s tb a b, _ => h.set _ ⟨Int.emod_nonneg _ (by omega), Int.emod_lt_of_pos _ (by omega)⟩
theorem set_back {l : List Int} {i : Int} {x y : Int} (h0 : 0 ≤ i) (h1 : i < l.length) (e : y = gt l i) : (l.set i.toNat x).set i.toNat y = l := by
  rw [List.set_set, e]
  have e2 : i.toNat < l.length := by omega
  unfold gt
  rw [List.getD_eq_getElem?_getD, List.getElem?_eq_getElem e2]
  exact List.set_getElem_self e2
/-- congruence modulo m -/
theorem tot_cong {m : Int} {mem mem' given : List Int} : ∀ {fs : List Fac} {k k' : Int}, (∀ f ∈ fs, facV mem given f = facV mem' given f) → (k + k') % m = 0 → (tot m mem given k fs + tot m mem' given k' fs) % m = 0
  | [], _, _, _, h => h
  | f :: r, k, k', he, h => by
    refine tot_cong (fs := r) (k := k * facV mem given f % m) (k' := k' * facV mem' given f % m) (fun g hg => he g (List.mem_cons_of_mem _ hg)) ?_
    rw [← he f List.mem_cons_self, ← Int.add_emod, ← Int.add_mul, Int.mul_emod, h, Int.zero_mul, Int.zero_emod]
theorem add_cancel {m x u v : Int} (h0 : 0 ≤ x) (h1 : x < m) (h : (u + v) % m = 0) : ((x + u) % m + v) % m = x := by
  rw [Int.emod_add_emod, Int.add_assoc, Int.add_emod, h, Int.add_zero, Int.emod_emod, Int.emod_eq_of_lt h0 h1]
theorem perf_undo {m c n : Int} (hm : 2 ≤ m) {given mem : List Int} (h : Mem m c mem) : ∀ {s : Step}, s.ok m c n → perf m given (perf m given mem s) (s.inv m) = mem
  | .add t k fs, o => by
    obtain ⟨⟨t0, t1⟩, ⟨k0, k1⟩, _, hf⟩ := o
    have hb := gt_bd h t0 t1
    have hl := h.1
    rw [show Step.inv m (.add t k fs) = .add t (-k % m) fs from rfl, perf_add, perf_add]
    refine set_back t0 (by omega) ?_
    rw [gt_set t0 t0 (by omega), if_pos rfl]
    refine add_cancel hb.1 hb.2 (tot_cong (fun f hm' => ?_) ?_)
    · have := hf f hm'
      cases f with
      | inp i => rfl
      | cell i =>
        show gt mem i = gt (mem.set _ _) i
        rw [gt_set t0 this.1.1 (by omega), if_neg this.2]
    · rw [Int.add_emod, Int.emod_emod, ← Int.add_emod, Int.add_right_neg, Int.zero_emod]
  | .scale t k, o => by
    obtain ⟨⟨t0, t1⟩, ⟨k0, k1⟩, hg⟩ := o
    have hb := gt_bd h t0 t1
    have hl := h.1
    rw [show Step.inv m (.scale t k) = .scale t (invOf k m) from rfl, perf_scale, perf_scale]
    refine set_back t0 (by omega) ?_
    rw [gt_set t0 t0 (by omega), if_pos rfl]
    have hi := invOf_unit hm hg
    rw [Int.mul_emod, Int.emod_emod, ← Int.mul_emod, Int.mul_assoc, Int.mul_emod, Int.mul_comm k, hi.2.2, Int.mul_one, Int.emod_emod, Int.emod_eq_of_lt hb.1 hb.2]
  | .swap a b, o => by
    obtain ⟨⟨a0, a1⟩, ⟨b0, b1⟩, hab⟩ := o
    have hl := h.1
    rw [show Step.inv m (.swap a b) = .swap a b from rfl, perf_swap, perf_swap]
    rw [gt_set b0 b0 (by rw [List.length_set]; omega), if_pos rfl, gt_set b0 a0 (by rw [List.length_set]; omega), if_neg hab, gt_set a0 a0 (by omega), if_pos rfl]
    refine List.ext_getElem? fun i => ?_
    rw [List.getElem?_set, List.getElem?_set, List.getElem?_set, List.getElem?_set]
    simp only [List.length_set]
    have ea := gt_at (l := mem) a0 (by omega)
    have eb := gt_at (l := mem) b0 (by omega)
    by_cases e1 : b.toNat = i
    · subst e1
      rw [if_pos rfl, if_pos (by omega), eb]
    · rw [if_neg e1]
      by_cases e2 : a.toNat = i
      · subst e2
        rw [if_pos rfl, if_pos (by omega), ea]
      · rw [if_neg e2, if_neg e1, if_neg e2]
  | .table t s tb a b, o => by
    obtain ⟨t0, t1⟩ := o.ht
    have hb := gt_bd h t0 t1
    have hl := h.1
    rw [show Step.inv m (.table t s tb a b) = .table t (m - s) tb a b from rfl, perf_table, perf_table]
    refine set_back t0 (by omega) ?_
    rw [gt_set t0 t0 (by omega), if_pos rfl, gt_set t0 o.ha.1 (by omega), if_neg (fun e => o.hta e.symm), gt_set t0 o.hb.1 (by omega), if_neg (fun e => o.htb e.symm)]
    refine add_cancel hb.1 hb.2 ?_
    rw [← Int.add_mul, show s + (m - s) = m by omega, Int.mul_emod_right]
/-! ### a whole program -/
noncomputable def runs (m : Int) (given mem : List Int) (ss : List Step) : List Int := ss.foldl (perf m given) mem
noncomputable def inverse (m : Int) (ss : List Step) : List Step := (ss.map (Step.inv m)).reverse
theorem runs_mem {m c n : Int} (hm : 2 ≤ m) {given : List Int} : ∀ {ss : List Step} {mem : List Int}, Mem m c mem → (∀ s ∈ ss, s.ok m c n) → Mem m c (runs m given mem ss)
  | [], _, h, _ => h
  | s :: r, _, h, o => runs_mem (ss := r) hm (perf_mem hm h (o s List.mem_cons_self)) fun x hx => o x (List.mem_cons_of_mem _ hx)
theorem runs_undo {m c n : Int} (hm : 2 ≤ m) {given : List Int} : ∀ {ss : List Step} {mem : List Int}, Mem m c mem → (∀ s ∈ ss, s.ok m c n) → runs m given (runs m given mem ss) (inverse m ss) = mem
  | [], _, _, _ => rfl
  | s :: r, mem, h, o => by
    have h1 := perf_mem hm (given := given) h (o s List.mem_cons_self)
    have ih := runs_undo (ss := r) hm (given := given) h1 fun x hx => o x (List.mem_cons_of_mem _ hx)
    unfold inverse
    rw [List.map_cons, List.reverse_cons]
    unfold runs at ih ⊢
    rw [List.foldl_append, List.foldl_cons (l := r)]
    unfold inverse at ih
    rw [ih]
    exact perf_undo hm h (o s List.mem_cons_self)
theorem inverse_ok {m c n : Int} (hm : 2 ≤ m) {ss : List Step} (o : ∀ s ∈ ss, s.ok m c n) : ∀ s ∈ inverse m ss, s.ok m c n := by
  intro s hs
  unfold inverse at hs
  rw [List.mem_reverse] at hs
  obtain ⟨x, hx, rfl⟩ := List.mem_map.mp hs
  exact Step.inv_ok hm (o x hx)
theorem inverse_inverse {m c n : Int} (hm : 2 ≤ m) {ss : List Step} (o : ∀ s ∈ ss, s.ok m c n) : inverse m (inverse m ss) = ss := by
  unfold inverse
  rw [List.map_reverse, List.reverse_reverse, List.map_map]
  conv => rhs; rw [← List.map_id ss]
  exact List.map_congr_left fun s hs => Step.inv_inv hm (o s hs)
theorem runs_undo' {m c n : Int} (hm : 2 ≤ m) {given : List Int} {ss : List Step} {mem : List Int} (h : Mem m c mem) (o : ∀ s ∈ ss, s.ok m c n) : runs m given (runs m given mem (inverse m ss)) ss = mem := by
  have := runs_undo hm (given := given) h (inverse_ok hm o)
  rwa [inverse_inverse hm o] at this
theorem inverse_len {m : Int} {ss : List Step} : (inverse m ss).length = ss.length := by simp [inverse]
open L2 in
theorem TK.kpi {d C dx : Addr} {fs : List (Str × V)} {H H' : L2.Hp} (h : H d = some (.ins C dx fs)) (k : Kp d H H') : TK H H' := fun b ys e => k b _ (ne_of e h (by intro z; cases z)) e
theorem fac_flat : ∀ f : Fac, f.d.flat = true
  | .cell _ => rfl
  | .inp _ => rfl
theorem flats_map {α : Type} {f : α → Dt} (h : ∀ x, (f x).flat = true) : ∀ l : List α, Dt.flats (l.map f) = true
  | [] => rfl
  | x :: r => by rw [List.map_cons, Dt.flats, h x, flats_map h r]; rfl
theorem tab_flat (tb : List (List Int)) : (tabD tb).flat = true := flats_map (f := fun r : List Int => Dt.t (r.map .i)) (fun r => flats_map (f := Dt.i) (fun _ => rfl) r) tb
theorem step_flat : ∀ s : Step, s.d.flat = true
  | .add t k fs => by
    show Dt.flats [.s "add", .i t, .i k, .t (fs.map Fac.d)] = true
    simp only [Dt.flats, Dt.flat, flats_map fac_flat, Bool.and_true]
  | .scale t k => rfl
  | .swap a b => rfl
  | .table t s tb a b => by
    show Dt.flats [.s "table", .i t, .i s, tabD tb, .i a, .i b] = true
    simp only [Dt.flats, Dt.flat, tab_flat, Bool.and_true]
theorem steps_flat (ss : List Step) : Dt.flats (ss.map Step.d) = true := flats_map step_flat ss
end Bf
local macro_rules | `(tactic| walk_at "pfN1") => `(tactic| first | decide +kernel | omega | assumption | rfl | (simp only [List.length_cons, List.length_nil]; omega))
local macro_rules | `(tactic| walk_at "rd1N1") => `(tactic| first
  | with_reducible refine Bf.r_seq ?_
  | with_reducible refine Bf.r_asg ?_
  | with_reducible refine Bf.r_var (by with_unfolding_all rfl) ?_
  | with_reducible refine Bf.r_c ?_
  | with_reducible refine Bf.r_name ?_
  | with_reducible refine Bf.r_ret ?_
  | with_reducible refine Bf.r_op ?_
  | with_reducible refine Bf.r_I0 ?_
  | ((with_reducible refine Bf.r_I ?c ?_); (case c => first | decide | (show (0 : Int) < _; omega) | (refine Or.inl ⟨?_, ?_⟩ <;> omega) | (refine Or.inr ⟨?_, ?_⟩ <;> omega) | (refine And.intro ?_ ?_ <;> omega)))
  | with_reducible refine Bf.r_ifS ?_
  | with_reducible refine Bf.r_test ?_
  | with_reducible refine Bf.r_isbl ?_
  | with_reducible refine Bf.r_eqI ?_
  | with_reducible refine Bf.r_neI ?_
  | with_reducible refine Bf.r_eqS ?_
  | with_reducible refine Bf.r_neS ?_
  | with_reducible refine Bf.r_cons ?_
  | with_reducible refine Bf.r_nil ?_
  | with_reducible refine Bf.r_CB ?_
  | with_reducible refine Bf.r_call ?_
  | with_reducible refine Bf.i_t ?_
  | with_reducible refine Bf.i_f ?_
  | with_reducible refine Bf.i_nt ?_
  | with_reducible refine Bf.i_nf ?_
  | with_reducible refine Bf.r_ixT (by assumption) (by with_unfolding_all rfl) ?_
  | with_reducible refine Bf.r_ixL (by assumption) (by with_unfolding_all rfl) ?_
  | with_reducible refine Bf.r_fld ?_
  | ((with_reducible refine Bf.r_fat (by assumption) ?c ?n (by with_unfolding_all rfl) ?_); (case c => assumption); (case n => assumption))
  | with_reducible refine Bf.r_par ?_
  | with_reducible refine Bf.r_two ?_
  | with_reducible refine Bf.r_aug (by with_unfolding_all rfl) ?_
  | with_reducible refine Bf.r_ip ?_
  | with_reducible refine Bf.r_app (by with_unfolding_all rfl) (by assumption) ?_
  | with_reducible refine Bf.r_next ?_
  | with_reducible refine Bf.r_cont ?_
  | with_reducible refine Bf.r_drop ?_
  | with_reducible refine Bf.r_and ?_
  | with_reducible refine Bf.r_or ?_
  | with_reducible refine Bf.r_not ?_
  | with_reducible refine Bf.r_andV ?_
  | with_reducible refine Bf.r_orV ?_
  | with_reducible refine Bf.r_notV ?_
  | with_reducible refine Bf.r_chain ?_
  | with_reducible refine Bf.r_B ?_
  | with_reducible refine Bf.r_ifE ?_
  | with_reducible refine Bf.r_un ?_
  | with_reducible refine Bf.r_U ?_
  | with_reducible refine Bf.r_tup ?_
  | with_reducible refine Bf.r_lst ?_
  | with_reducible refine Bf.r_lenT (by assumption) ?_
  | with_reducible refine Bf.r_lenL (by assumption) ?_
  | with_reducible refine Bf.r_int ?_
  | with_reducible refine Bf.r_max2 ?_
  | with_reducible refine Bf.r_min2 ?_
  | with_reducible refine Bf.isi_ Bf.ty_i Bf.kb_ii ?_
  | with_reducible refine Bf.isi_ Bf.ty_i Bf.kb_ib ?_
  | with_reducible refine Bf.isi_ Bf.ty_i Bf.kb_is ?_
  | with_reducible refine Bf.isi_ Bf.ty_i Bf.kb_it ?_
  | with_reducible refine Bf.isi_ Bf.ty_i Bf.kb_il ?_
  | with_reducible refine Bf.isi_ Bf.ty_s Bf.kb_si ?_
  | with_reducible refine Bf.isi_ Bf.ty_s Bf.kb_sb ?_
  | with_reducible refine Bf.isi_ Bf.ty_s Bf.kb_ss ?_
  | with_reducible refine Bf.isi_ Bf.ty_s Bf.kb_st ?_
  | with_reducible refine Bf.isi_ Bf.ty_s Bf.kb_sl ?_
  | with_reducible refine Bf.isi_ (Bf.ty_t (by assumption)) Bf.kb_tt ?_
  | with_reducible refine Bf.isi_ (Bf.ty_l (by assumption)) Bf.kb_ll ?_
  | with_reducible refine Bf.isi_ (Bf.ty_t (by assumption)) Bf.kb_tl ?_
  | with_reducible refine Bf.isi_ (Bf.ty_l (by assumption)) Bf.kb_lt ?_
  | with_reducible refine Bf.isi_ Bf.ty_b Bf.kb_bi ?_
  | with_reducible refine Bf.isi_ Bf.ty_b Bf.kb_bb ?_
  | with_reducible refine Bf.isi_ Bf.ty_b Bf.kb_bs ?_
  | with_reducible refine Bf.isi_ Bf.ty_b Bf.kb_bt ?_
  | with_reducible refine Bf.isi_ Bf.ty_b Bf.kb_bL ?_
  | with_reducible refine Bf.isi_ Bf.ty_n Bf.kb_ni ?_
  | with_reducible refine Bf.isi_ Bf.ty_n Bf.kb_nb ?_
  | with_reducible refine Bf.isi_ Bf.ty_n Bf.kb_ns ?_
  | with_reducible refine Bf.isi_ Bf.ty_n Bf.kb_nt ?_
  | with_reducible refine Bf.isi_ Bf.ty_n Bf.kb_nl ?_
  | with_reducible refine Bf.isi_ (Bf.ty_t (by assumption)) Bf.kb_ti ?_
  | with_reducible refine Bf.isi_ (Bf.ty_l (by assumption)) Bf.kb_li ?_
  | with_reducible refine Bf.isi_ (Bf.ty_t (by assumption)) Bf.kb_tb ?_
  | with_reducible refine Bf.isi_ (Bf.ty_l (by assumption)) Bf.kb_lb ?_
  | with_reducible refine Bf.isi_ (Bf.ty_t (by assumption)) Bf.kb_ts ?_
  | with_reducible refine Bf.isi_ (Bf.ty_l (by assumption)) Bf.kb_ls ?_
  | with_reducible refine Bf.r_gtup (by assumption) (by with_unfolding_all rfl) ?_
  | with_reducible refine Bf.r_gcons ?_
  | with_reducible refine Bf.r_gnil ?_
  | with_reducible refine Bf.r_gsub ?_
  | ((with_reducible refine Bf.n_num ?h ?_); (case h => first | assumption | (refine And.intro ?_ ?_ <;> omega)))
  | with_reducible refine Bf.n_isint ?_
  | with_reducible refine Bf.n_mixed ?_
  | with_reducible refine Bf.r_dget ?_
  | with_reducible refine Bf.n_dgetS (by assumption) (by with_unfolding_all rfl) ?_
  | with_reducible refine Bf.r_pcons ?_
  | with_reducible refine Bf.r_pnil ?_
  | with_reducible refine Bf.r_sl ?_
  | with_reducible refine Bf.r_nopart ?_
  | with_reducible refine Bf.r_part ?_
  | with_reducible refine Bf.r_isint ?_
  | with_reducible refine Bf.r_revL ?_
  | with_reducible refine Bf.r_sfld ?_
  | with_reducible refine Bf.r_meth ?_
  | with_reducible refine Bf.n_meth (by assumption) (by with_unfolding_all rfl) ?_
  | with_reducible refine Bf.r_make ?_
  | with_reducible refine Bf.r_turn ?_
  | with_reducible refine Bf.r_wipe (by with_unfolding_all rfl) ?_
  | with_reducible refine Bf.r_yes ?_
  | with_reducible refine Bf.r_lcL ?_
  | with_reducible refine Bf.r_lcT ?_
  | with_reducible refine Bf.r_lcR ?_
  | with_reducible refine Bf.r_forL ?_
  | with_reducible refine Bf.r_forZ ?_
  | with_reducible refine Bf.r_forT ?_
  | with_reducible refine Bf.r_forR ?_
  | with_reducible refine Bf.r_forR2 ?_
  | ((with_reducible refine Bf.i_d1 ?h ?_); (case h => walk_at "pfN1"))
  | ((with_reducible refine Bf.i_d0 ?h ?_); (case h => walk_at "pfN1"))
  | ((with_reducible refine Bf.i_n1 ?h ?_); (case h => walk_at "pfN1"))
  | ((with_reducible refine Bf.i_n0 ?h ?_); (case h => walk_at "pfN1")))
local macro_rules | `(tactic| walk_at "rdN1") => `(tactic| repeat walk_at "rd1N1")
namespace Bf
open PySem L2
abbrev s_is_integer : Stmt := topS 5
theorem bi_is_integer : ∀ (kV doc pm : Value) (an : Option Addr) (cdv ct : Value) (us : List Value), us.length = 1 → bindArgs (PySem.W.fnOf "is_integer" "is_integer" (defArgs s_is_integer) (defBody s_is_integer) (defScope s_is_integer) .none kV doc pm an cdv ct) ⟨us, []⟩ = pure ((["value"] : List Str).zip us) := fun _ _ _ _ _ _ us hl => match us, hl with | [_], _ => rfl
theorem sc_is_integer : FnScope ["value"] ["value"] (defScope s_is_integer) := C8.fnScope_by (by decide +kernel)
abbrev s_is_number : Stmt := topS 6
theorem bi_is_number : ∀ (kV doc pm : Value) (an : Option Addr) (cdv ct : Value) (us : List Value), us.length = 2 → bindArgs (PySem.W.fnOf "is_number" "is_number" (defArgs s_is_number) (defBody s_is_number) (defScope s_is_number) .none kV doc pm an cdv ct) ⟨us, []⟩ = pure ((["value", "modulus"] : List Str).zip us) := fun _ _ _ _ _ _ us hl => match us, hl with | [_, _], _ => rfl
theorem sc_is_number : FnScope ["value", "modulus"] ["value", "modulus"] (defScope s_is_number) := C8.fnScope_by (by decide +kernel)
def spIsInt : Sp := fun vs H Q _ => (∃ n, vs = [.int n] ∧ Q (.bl true) H) ∨ ∃ z, vs = [.str z] ∧ Q (.bl false) H
def spIsNum : Sp := fun vs H Q _ => ∃ n m, vs = [.int n, .int m] ∧ Q (.bl (decide (0 ≤ n ∧ n < m))) H
section
variable {P : Program} {w : World} {K : PySem.W.Frag} {mg : Str → Option Value} {base : Heap}
theorem cal_is_integer (T : Gs mg) (F : DefAt K mg "is_integer" s_is_integer) : C8.Cal P w K mg base 1 "is_integer" spIsInt [] := by
  refine cal_of F sc_is_integer bi_is_integer (fun vs H Q E h => ?_) (fun f cdv A outer s H vs Q E hr h => ?_)
  · rcases h with ⟨n, rfl, _⟩ | ⟨n, rfl, _⟩ <;> rfl
  · refine ⟨_, (pss_one (ps_ret (pe_and (pe_callB call_isi (by rfl) T.n_isinstance (by decide +kernel) (pa_cons (pv 0) (pa_cons (pe_bltn (v := .ty "int") rfl T.n_int (by decide +kernel) rfl) pa_nil))) (pe_one (pe_not (pe_callB call_isi (by rfl) T.n_isinstance (by decide +kernel) (pa_cons (pv 0) (pa_cons (pe_bltn (v := .ty "bool") rfl T.n_bool (by decide +kernel) rfl) pa_nil)))))))), ?_⟩
    rcases h with ⟨n, rfl, k⟩ | ⟨n, rfl, k⟩
    · walk_at "rdN1"
      exact k
    · walk_at "rdN1"
      exact k
theorem cal_is_number (T : Gs mg) (c_is_integer : C8.Cal P w K mg base 1 "is_integer" spIsInt []) (F : DefAt K mg "is_number" s_is_number) : C8.Cal P w K mg base 2 "is_number" spIsNum [] := by
  refine cal_of F sc_is_number bi_is_number (fun vs H Q E h => ?_) (fun f cdv A outer s H vs Q E hr h => ?_)
  · obtain ⟨n, m, rfl, _⟩ := h
    rfl
  · refine ⟨_, (pss_one (ps_ret (pe_and (C8.pe_c c_is_integer hr (by first | decide | omega) rfl (pa_cons (pv 0) pa_nil)) (pe_one (pe_chain op_le op_lt pe_int (pv 0) (pv 1)))))), ?_⟩
    obtain ⟨n, m, rfl, k⟩ := h
    walk_at "rdN1"
    refine .inl ⟨n, rfl, ?_⟩
    walk_at "rdN1"
    refine i_d2 (fun h0 => ?_) (fun h0 => ?_)
    · walk_at "rdN1"
      rw [show decide (n < m) = decide (0 ≤ n ∧ n < m) by simp [h0]]
      exact k
    · walk_at "rdN1"
      rw [show decide (0 ≤ n ∧ n < m) = false by simp [h0]] at k
      exact k
theorem n_num {n m : Int} {H : Hp} {Q : VK} {E : XK} (h : 0 ≤ n ∧ n < m) (k : Q (.bl true) H) : spIsNum ([.int n, .int m] ++ []) H Q E := ⟨n, m, rfl, by rw [decide_eq_true h]; exact k⟩
theorem n_isint {n : Int} {H : Hp} {Q : VK} {E : XK} (k : Q (.bl true) H) : spIsInt ([.int n] ++ []) H Q E := .inl ⟨n, rfl, k⟩
end
end Bf
local macro_rules | `(tactic| walk_at "pfN2") => `(tactic| first | decide +kernel | omega | assumption | rfl | (simp only [List.length_cons, List.length_nil]; omega))
local macro_rules | `(tactic| walk_at "rd1N2") => `(tactic| first
  | with_reducible refine Bf.r_seq ?_
  | with_reducible refine Bf.r_asg ?_
  | with_reducible refine Bf.r_var (by with_unfolding_all rfl) ?_
  | with_reducible refine Bf.r_c ?_
  | with_reducible refine Bf.r_name ?_
  | with_reducible refine Bf.r_ret ?_
  | with_reducible refine Bf.r_op ?_
  | with_reducible refine Bf.r_I0 ?_
  | ((with_reducible refine Bf.r_I ?c ?_); (case c => first | decide | (show (0 : Int) < _; omega) | (refine Or.inl ⟨?_, ?_⟩ <;> omega) | (refine Or.inr ⟨?_, ?_⟩ <;> omega) | (refine And.intro ?_ ?_ <;> omega)))
  | with_reducible refine Bf.r_ifS ?_
  | with_reducible refine Bf.r_test ?_
  | with_reducible refine Bf.r_isbl ?_
  | with_reducible refine Bf.r_eqI ?_
  | with_reducible refine Bf.r_neI ?_
  | with_reducible refine Bf.r_eqS ?_
  | with_reducible refine Bf.r_neS ?_
  | with_reducible refine Bf.r_cons ?_
  | with_reducible refine Bf.r_nil ?_
  | with_reducible refine Bf.r_CB ?_
  | with_reducible refine Bf.r_call ?_
  | with_reducible refine Bf.i_t ?_
  | with_reducible refine Bf.i_f ?_
  | with_reducible refine Bf.i_nt ?_
  | with_reducible refine Bf.i_nf ?_
  | with_reducible refine Bf.r_ixT (by assumption) (by with_unfolding_all rfl) ?_
  | with_reducible refine Bf.r_ixL (by assumption) (by with_unfolding_all rfl) ?_
  | with_reducible refine Bf.r_fld ?_
  | ((with_reducible refine Bf.r_fat (by assumption) ?c ?n (by with_unfolding_all rfl) ?_); (case c => assumption); (case n => assumption))
  | with_reducible refine Bf.r_par ?_
  | with_reducible refine Bf.r_two ?_
  | with_reducible refine Bf.r_aug (by with_unfolding_all rfl) ?_
  | with_reducible refine Bf.r_ip ?_
  | with_reducible refine Bf.r_app (by with_unfolding_all rfl) (by assumption) ?_
  | with_reducible refine Bf.r_next ?_
  | with_reducible refine Bf.r_cont ?_
  | with_reducible refine Bf.r_drop ?_
  | with_reducible refine Bf.r_and ?_
  | with_reducible refine Bf.r_or ?_
  | with_reducible refine Bf.r_not ?_
  | with_reducible refine Bf.r_andV ?_
  | with_reducible refine Bf.r_orV ?_
  | with_reducible refine Bf.r_notV ?_
  | with_reducible refine Bf.r_chain ?_
  | with_reducible refine Bf.r_B ?_
  | with_reducible refine Bf.r_ifE ?_
  | with_reducible refine Bf.r_un ?_
  | with_reducible refine Bf.r_U ?_
  | with_reducible refine Bf.r_tup ?_
  | with_reducible refine Bf.r_lst ?_
  | with_reducible refine Bf.r_lenT (by assumption) ?_
  | with_reducible refine Bf.r_lenL (by assumption) ?_
  | with_reducible refine Bf.r_int ?_
  | with_reducible refine Bf.r_max2 ?_
  | with_reducible refine Bf.r_min2 ?_
  | with_reducible refine Bf.isi_ Bf.ty_i Bf.kb_ii ?_
  | with_reducible refine Bf.isi_ Bf.ty_i Bf.kb_ib ?_
  | with_reducible refine Bf.isi_ Bf.ty_i Bf.kb_is ?_
  | with_reducible refine Bf.isi_ Bf.ty_i Bf.kb_it ?_
  | with_reducible refine Bf.isi_ Bf.ty_i Bf.kb_il ?_
  | with_reducible refine Bf.isi_ Bf.ty_s Bf.kb_si ?_
  | with_reducible refine Bf.isi_ Bf.ty_s Bf.kb_sb ?_
  | with_reducible refine Bf.isi_ Bf.ty_s Bf.kb_ss ?_
  | with_reducible refine Bf.isi_ Bf.ty_s Bf.kb_st ?_
  | with_reducible refine Bf.isi_ Bf.ty_s Bf.kb_sl ?_
  | with_reducible refine Bf.isi_ (Bf.ty_t (by assumption)) Bf.kb_tt ?_
  | with_reducible refine Bf.isi_ (Bf.ty_l (by assumption)) Bf.kb_ll ?_
  | with_reducible refine Bf.isi_ (Bf.ty_t (by assumption)) Bf.kb_tl ?_
  | with_reducible refine Bf.isi_ (Bf.ty_l (by assumption)) Bf.kb_lt ?_
  | with_reducible refine Bf.isi_ Bf.ty_b Bf.kb_bi ?_
  | with_reducible refine Bf.isi_ Bf.ty_b Bf.kb_bb ?_
  | with_reducible refine Bf.isi_ Bf.ty_b Bf.kb_bs ?_
  | with_reducible refine Bf.isi_ Bf.ty_b Bf.kb_bt ?_
  | with_reducible refine Bf.isi_ Bf.ty_b Bf.kb_bL ?_
  | with_reducible refine Bf.isi_ Bf.ty_n Bf.kb_ni ?_
  | with_reducible refine Bf.isi_ Bf.ty_n Bf.kb_nb ?_
  | with_reducible refine Bf.isi_ Bf.ty_n Bf.kb_ns ?_
  | with_reducible refine Bf.isi_ Bf.ty_n Bf.kb_nt ?_
  | with_reducible refine Bf.isi_ Bf.ty_n Bf.kb_nl ?_
  | with_reducible refine Bf.isi_ (Bf.ty_t (by assumption)) Bf.kb_ti ?_
  | with_reducible refine Bf.isi_ (Bf.ty_l (by assumption)) Bf.kb_li ?_
  | with_reducible refine Bf.isi_ (Bf.ty_t (by assumption)) Bf.kb_tb ?_
  | with_reducible refine Bf.isi_ (Bf.ty_l (by assumption)) Bf.kb_lb ?_
  | with_reducible refine Bf.isi_ (Bf.ty_t (by assumption)) Bf.kb_ts ?_
  | with_reducible refine Bf.isi_ (Bf.ty_l (by assumption)) Bf.kb_ls ?_
  | with_reducible refine Bf.r_gtup (by assumption) (by with_unfolding_all rfl) ?_
  | with_reducible refine Bf.r_gcons ?_
  | with_reducible refine Bf.r_gnil ?_
  | with_reducible refine Bf.r_gsub ?_
  | ((with_reducible refine Bf.n_num ?h ?_); (case h => first | assumption | (refine And.intro ?_ ?_ <;> omega)))
  | with_reducible refine Bf.n_isint ?_
  | with_reducible refine Bf.n_mixed ?_
  | with_reducible refine Bf.r_dget ?_
  | with_reducible refine Bf.n_dgetS (by assumption) (by with_unfolding_all rfl) ?_
  | with_reducible refine Bf.r_pcons ?_
  | with_reducible refine Bf.r_pnil ?_
  | with_reducible refine Bf.r_sl ?_
  | with_reducible refine Bf.r_nopart ?_
  | with_reducible refine Bf.r_part ?_
  | with_reducible refine Bf.r_isint ?_
  | with_reducible refine Bf.r_revL ?_
  | with_reducible refine Bf.r_sfld ?_
  | with_reducible refine Bf.r_meth ?_
  | with_reducible refine Bf.n_meth (by assumption) (by with_unfolding_all rfl) ?_
  | with_reducible refine Bf.r_make ?_
  | with_reducible refine Bf.r_turn ?_
  | with_reducible refine Bf.r_wipe (by with_unfolding_all rfl) ?_
  | with_reducible refine Bf.r_yes ?_
  | with_reducible refine Bf.r_lcL ?_
  | with_reducible refine Bf.r_lcT ?_
  | with_reducible refine Bf.r_lcR ?_
  | with_reducible refine Bf.r_forL ?_
  | with_reducible refine Bf.r_forZ ?_
  | with_reducible refine Bf.r_forT ?_
  | with_reducible refine Bf.r_forR ?_
  | with_reducible refine Bf.r_forR2 ?_
  | ((with_reducible refine Bf.i_d1 ?h ?_); (case h => walk_at "pfN2"))
  | ((with_reducible refine Bf.i_d0 ?h ?_); (case h => walk_at "pfN2"))
  | ((with_reducible refine Bf.i_n1 ?h ?_); (case h => walk_at "pfN2"))
  | ((with_reducible refine Bf.i_n0 ?h ?_); (case h => walk_at "pfN2")))
local macro_rules | `(tactic| walk_at "rdN2") => `(tactic| repeat walk_at "rd1N2")
namespace Bf
open PySem L2
abbrev s_is_prime : Stmt := topS 7
theorem bi_is_prime : ∀ (kV doc pm : Value) (an : Option Addr) (cdv ct : Value) (us : List Value), us.length = 1 → bindArgs (PySem.W.fnOf "is_prime" "is_prime" (defArgs s_is_prime) (defBody s_is_prime) (defScope s_is_prime) .none kV doc pm an cdv ct) ⟨us, []⟩ = pure ((["n"] : List Str).zip us) := fun _ _ _ _ _ _ us hl => match us, hl with | [_], _ => rfl
theorem sc_is_prime : FnScope ["n", "divisor"] ["n"] (defScope s_is_prime) := C8.fnScope_by (by decide +kernel)
abbrev s_inverse_of : Stmt := topS 8
theorem bi_inverse_of : ∀ (kV doc pm : Value) (an : Option Addr) (cdv ct : Value) (us : List Value), us.length = 2 → bindArgs (PySem.W.fnOf "inverse_of" "inverse_of" (defArgs s_inverse_of) (defBody s_inverse_of) (defScope s_inverse_of) .none kV doc pm an cdv ct) ⟨us, []⟩ = pure ((["n", "modulus"] : List Str).zip us) := fun _ _ _ _ _ _ us hl => match us, hl with | [_, _], _ => rfl
theorem sc_inverse_of : FnScope ["n", "modulus", "rest", "other", "mine", "yours", "times"] ["n", "modulus"] (defScope s_inverse_of) := C8.fnScope_by (by decide +kernel)
def spPrime : Sp := fun vs H Q _ => ∃ n, vs = [.int n] ∧ 2 ≤ n ∧ n < 2 ^ 62 ∧ (Pr n → Q (.bl true) H) ∧ (¬ Pr n → Q (.bl false) H)
def spInv : Sp := fun vs H Q _ => ∃ n m, vs = [.int n, .int m] ∧ 2 ≤ m ∧ m ≤ 1000000000 ∧ (Int.gcd n m = 1 → ∀ H', Same H H' → Q (.int (invOf n m)) H') ∧ (Int.gcd n m ≠ 1 → ∀ H', Same H H' → Q .non H')
section
variable {P : Program} {w : World} {K : PySem.W.Frag} {mg : Str → Option Value} {base : Heap}
theorem cal_is_prime (T : Gs mg) (F : DefAt K mg "is_prime" s_is_prime) : C8.Cal P w K mg base 1 "is_prime" spPrime [] := by
  refine cal_of F sc_is_prime bi_is_prime (fun vs H Q E h => ?_) (fun f cdv A outer s H vs Q E hr h => ?_)
  · obtain ⟨n, rfl, _⟩ := h
    rfl
  · refine ⟨_, (pss_cons (ps_if (pt_cmpR op_lt (pv 0) pe_int (nomark _)) (pss_one (ps_ret pe_bl)) pss_nil)
      (pss_cons (ps_if (pt_cmpR op_eq (pe_op op_mod (pv 0) pe_int) pe_int (nomark _)) (pss_one (ps_ret (pe_cmpR op_eq (pv 0) pe_int (nomark _)))) pss_nil)
      (pss_cons (ps_set (i := 1) sc_is_prime.nd rfl (by first | exact Or.inl rfl | exact Or.inr rfl) pe_int)
      (pss_cons (ps_while PassesOwn.never (pt_cmpR op_le (pe_op op_mul (pv 1) (pv 1)) (pv 0) (nomark _)) (pss_cons (ps_if (pt_cmpR op_eq (pe_op op_mod (pv 0) (pv 1)) pe_int (nomark _)) (pss_one (ps_ret pe_bl)) pss_nil)
      (pss_one (ps_aug (i := 1) sc_is_prime.nd rfl (by first | exact Or.inl rfl | exact Or.inr rfl) pe_int ip_add))))
      (pss_one (ps_ret pe_bl)))))), ?_⟩
    obtain ⟨n, rfl, h2, h62, k1, k0⟩ := h
    walk_at "rdN2"
    refine i_d2 (fun he => ?_) (fun he => ?_)
    · walk_at "rdN2"
      refine q_d (P := fun z => Q (.bl z) H) (fun e => ?_) (fun e => ?_)
      · exact k1 ((pr_even h2 he).mpr e)
      · exact k0 fun z => e ((pr_even h2 he).mp z)
    · walk_at "rdN2"
      refine n_while (fun m σ H' => ∃ d : Int, σ = [some (.int n), some (.int d)] ∧ m = (n + 2 - d).toNat ∧ 3 ≤ d ∧ d ≤ n + 1 ∧ d % 2 = 1 ∧ (∀ e : Int, 2 ≤ e → e < d → n % e ≠ 0) ∧ H' = H) (n + 2 - 3).toNat ⟨3, rfl, rfl, by omega, by omega, by decide, fun e h3 h4 => by
        have : e = 2 := by omega
        subst this
        exact he, rfl⟩ ?_
      rintro m σ H' ⟨d, rfl, rfl, hd, hdn, ho, hp, rfl⟩
      walk_at "rdN2"
      refine w_d (fun hc => ?_) (fun hc => ?_)
      · have hdn2 : d ≤ n := by
          have : 3 * d ≤ d * d := Int.mul_le_mul_of_nonneg_right hd (by omega)
          omega
        walk_at "rdN2"
        refine i_d2 (fun hz => ?_) (fun hz => ?_)
        · walk_at "rdN2"
          exact k0 fun z => z d (by omega) hc hz
        · walk_at "rdN2"
          exact ⟨_, by omega, d + 2, rfl, rfl, by omega, by
            by_cases q : d + 2 ≤ n + 1
            · exact q
            · exfalso
              have q2 : d = n := by omega
              exact hz (by rw [q2]; exact Int.emod_self), by omega, pr_step he ho hp hz, rfl⟩
      · walk_at "rdN2"
        exact k1 (pr_end hp (by omega) (by omega))
theorem cal_inverse_of (T : Gs mg) (F : DefAt K mg "inverse_of" s_inverse_of) : C8.Cal P w K mg base 1 "inverse_of" spInv [] := by
  refine cal_of F sc_inverse_of bi_inverse_of (fun vs H Q E h => ?_) (fun f cdv A outer s H vs Q E hr h => ?_)
  · obtain ⟨n, m, rfl, _⟩ := h
    rfl
  · refine ⟨_, (pss_cons (ps_par (by rfl) sc_inverse_of.nd (i := 2) (j := 3) rfl rfl (by decide) rfl rfl (pa_cons (pe_op op_mod (pv 0) (pv 1)) (pa_cons (pv 1) pa_nil)) (by rfl))
      (pss_cons (ps_asg (pe_tup (pa_cons pe_int (pa_cons pe_int pa_nil))) (pg_tup rfl (pgs_cons (pg_name (i := 4) sc_inverse_of.nd rfl (by first | exact Or.inl rfl | exact Or.inr rfl)) (pgs_cons (pg_name (i := 5) sc_inverse_of.nd rfl (by first | exact Or.inl rfl | exact Or.inr rfl)) pgs_nil))))
      (pss_cons (ps_while PassesOwn.never (pt_cmpR op_gt (pv 3) pe_int (nomark _)) (pss_cons (ps_set (i := 6) sc_inverse_of.nd rfl (by first | exact Or.inl rfl | exact Or.inr rfl) (pe_op op_fdivN (pv 2) (pv 3)))
      (pss_cons (ps_par (by rfl) sc_inverse_of.nd (i := 2) (j := 3) rfl rfl (by decide) rfl rfl (pa_cons (pv 3) (pa_cons (pe_op op_sub (pv 2) (pe_op op_mul (pv 6) (pv 3))) pa_nil)) (by rfl))
      (pss_one (ps_par (by rfl) sc_inverse_of.nd (i := 4) (j := 5) rfl rfl (by decide) rfl rfl (pa_cons (pv 5) (pa_cons (pe_op op_sub (pv 4) (pe_op op_mul (pv 6) (pv 5))) pa_nil)) (by rfl))))))
      (pss_cons (ps_if (pt_cmpR op_ne (pv 2) pe_int (nomark _)) (pss_one (ps_ret pe_non)) pss_nil)
      (pss_one (ps_ret (pe_op op_mod (pv 4) (pv 1)))))))), ?_⟩
    obtain ⟨n, m, rfl, h2, h9, k1, k0⟩ := h
    walk_at "rdN2"
    refine n_tup (by decide) fun p H1 np s1 hp => ?_
    walk_at "rdN2"
    refine n_while (fun z σ H' => ∃ (r o a b : Int) (w : Option V), σ = [some (.int n), some (.int m), some (.int r), some (.int o), some (.int a), some (.int b), w] ∧ z = o.toNat ∧ Eu n m r o a b ∧ H' = H1) m.toNat
      ⟨n % m, m, 1, 0, none, rfl, rfl, eu_start h2, rfl⟩ ?_
    rintro z σ H' ⟨r, o, a, b, w, rfl, rfl, eu, rfl⟩
    walk_at "rdN2"
    refine w_d (fun hc => ?_) (fun hc => ?_)
    · obtain ⟨t1, t2, t3, t4, t5⟩ := eu_turn eu hc
      have o1 := eu.o1
      have ef : Int.fdiv r o = r / o := Int.fdiv_eq_ediv_of_nonneg r (by omega)
      with_reducible refine r_seq ?_
      with_reducible refine r_asg ?_
      walk_at "rdN2"
      rw [← ef] at t1 t2 t3 t4 t5
      exact ⟨_, by omega, o, r - Int.fdiv r o * o, b, a - Int.fdiv r o * b, _, rfl, rfl, t1, rfl⟩
    · have o0 : o = 0 := by
        have := eu.o0
        omega
      subst o0
      obtain ⟨g1, g2⟩ := eu_end h2 eu
      walk_at "rdN2"
      refine i_n2 (fun hr => ?_) (fun hr => ?_)
      · walk_at "rdN2"
        exact k0 (fun z => hr (g1.mpr z)) _ s1
      · walk_at "rdN2"
        rw [← invOf_eq h2 (g2 hr)]
        exact k1 (g1.mp hr) _ s1
end
end Bf
local macro_rules | `(tactic| walk_at "pfN3") => `(tactic| first | decide +kernel | omega | assumption | rfl | (simp only [List.length_cons, List.length_nil]; omega))
local macro_rules | `(tactic| walk_at "rd1N3") => `(tactic| first
  | with_reducible refine Bf.r_seq ?_
  | with_reducible refine Bf.r_asg ?_
  | with_reducible refine Bf.r_var (by with_unfolding_all rfl) ?_
  | with_reducible refine Bf.r_c ?_
  | with_reducible refine Bf.r_name ?_
  | with_reducible refine Bf.r_ret ?_
  | with_reducible refine Bf.r_op ?_
  | with_reducible refine Bf.r_I0 ?_
  | ((with_reducible refine Bf.r_I ?c ?_); (case c => first | decide | (show (0 : Int) < _; omega) | (refine Or.inl ⟨?_, ?_⟩ <;> omega) | (refine Or.inr ⟨?_, ?_⟩ <;> omega) | (refine And.intro ?_ ?_ <;> omega)))
  | with_reducible refine Bf.r_ifS ?_
  | with_reducible refine Bf.r_test ?_
  | with_reducible refine Bf.r_isbl ?_
  | with_reducible refine Bf.r_eqI ?_
  | with_reducible refine Bf.r_neI ?_
  | with_reducible refine Bf.r_eqS ?_
  | with_reducible refine Bf.r_neS ?_
  | with_reducible refine Bf.r_cons ?_
  | with_reducible refine Bf.r_nil ?_
  | with_reducible refine Bf.r_CB ?_
  | with_reducible refine Bf.r_call ?_
  | with_reducible refine Bf.i_t ?_
  | with_reducible refine Bf.i_f ?_
  | with_reducible refine Bf.i_nt ?_
  | with_reducible refine Bf.i_nf ?_
  | with_reducible refine Bf.r_ixT (by assumption) (by with_unfolding_all rfl) ?_
  | with_reducible refine Bf.r_ixL (by assumption) (by with_unfolding_all rfl) ?_
  | with_reducible refine Bf.r_fld ?_
  | ((with_reducible refine Bf.r_fat (by assumption) ?c ?n (by with_unfolding_all rfl) ?_); (case c => assumption); (case n => assumption))
  | with_reducible refine Bf.r_par ?_
  | with_reducible refine Bf.r_two ?_
  | with_reducible refine Bf.r_aug (by with_unfolding_all rfl) ?_
  | with_reducible refine Bf.r_ip ?_
  | with_reducible refine Bf.r_app (by with_unfolding_all rfl) (by assumption) ?_
  | with_reducible refine Bf.r_next ?_
  | with_reducible refine Bf.r_cont ?_
  | with_reducible refine Bf.r_drop ?_
  | with_reducible refine Bf.r_and ?_
  | with_reducible refine Bf.r_or ?_
  | with_reducible refine Bf.r_not ?_
  | with_reducible refine Bf.r_andV ?_
  | with_reducible refine Bf.r_orV ?_
  | with_reducible refine Bf.r_notV ?_
  | with_reducible refine Bf.r_chain ?_
  | with_reducible refine Bf.r_B ?_
  | with_reducible refine Bf.r_ifE ?_
  | with_reducible refine Bf.r_un ?_
  | with_reducible refine Bf.r_U ?_
  | with_reducible refine Bf.r_tup ?_
  | with_reducible refine Bf.r_lst ?_
  | with_reducible refine Bf.r_lenT (by assumption) ?_
  | with_reducible refine Bf.r_lenL (by assumption) ?_
  | with_reducible refine Bf.r_int ?_
  | with_reducible refine Bf.r_max2 ?_
  | with_reducible refine Bf.r_min2 ?_
  | with_reducible refine Bf.isi_ Bf.ty_i Bf.kb_ii ?_
  | with_reducible refine Bf.isi_ Bf.ty_i Bf.kb_ib ?_
  | with_reducible refine Bf.isi_ Bf.ty_i Bf.kb_is ?_
  | with_reducible refine Bf.isi_ Bf.ty_i Bf.kb_it ?_
  | with_reducible refine Bf.isi_ Bf.ty_i Bf.kb_il ?_
  | with_reducible refine Bf.isi_ Bf.ty_s Bf.kb_si ?_
  | with_reducible refine Bf.isi_ Bf.ty_s Bf.kb_sb ?_
  | with_reducible refine Bf.isi_ Bf.ty_s Bf.kb_ss ?_
  | with_reducible refine Bf.isi_ Bf.ty_s Bf.kb_st ?_
  | with_reducible refine Bf.isi_ Bf.ty_s Bf.kb_sl ?_
  | with_reducible refine Bf.isi_ (Bf.ty_t (by assumption)) Bf.kb_tt ?_
  | with_reducible refine Bf.isi_ (Bf.ty_l (by assumption)) Bf.kb_ll ?_
  | with_reducible refine Bf.isi_ (Bf.ty_t (by assumption)) Bf.kb_tl ?_
  | with_reducible refine Bf.isi_ (Bf.ty_l (by assumption)) Bf.kb_lt ?_
  | with_reducible refine Bf.isi_ Bf.ty_b Bf.kb_bi ?_
  | with_reducible refine Bf.isi_ Bf.ty_b Bf.kb_bb ?_
  | with_reducible refine Bf.isi_ Bf.ty_b Bf.kb_bs ?_
  | with_reducible refine Bf.isi_ Bf.ty_b Bf.kb_bt ?_
  | with_reducible refine Bf.isi_ Bf.ty_b Bf.kb_bL ?_
  | with_reducible refine Bf.isi_ Bf.ty_n Bf.kb_ni ?_
  | with_reducible refine Bf.isi_ Bf.ty_n Bf.kb_nb ?_
  | with_reducible refine Bf.isi_ Bf.ty_n Bf.kb_ns ?_
  | with_reducible refine Bf.isi_ Bf.ty_n Bf.kb_nt ?_
  | with_reducible refine Bf.isi_ Bf.ty_n Bf.kb_nl ?_
  | with_reducible refine Bf.isi_ (Bf.ty_t (by assumption)) Bf.kb_ti ?_
  | with_reducible refine Bf.isi_ (Bf.ty_l (by assumption)) Bf.kb_li ?_
  | with_reducible refine Bf.isi_ (Bf.ty_t (by assumption)) Bf.kb_tb ?_
  | with_reducible refine Bf.isi_ (Bf.ty_l (by assumption)) Bf.kb_lb ?_
  | with_reducible refine Bf.isi_ (Bf.ty_t (by assumption)) Bf.kb_ts ?_
  | with_reducible refine Bf.isi_ (Bf.ty_l (by assumption)) Bf.kb_ls ?_
  | with_reducible refine Bf.r_gtup (by assumption) (by with_unfolding_all rfl) ?_
  | with_reducible refine Bf.r_gcons ?_
  | with_reducible refine Bf.r_gnil ?_
  | with_reducible refine Bf.r_gsub ?_
  | ((with_reducible refine Bf.n_num ?h ?_); (case h => first | assumption | (refine And.intro ?_ ?_ <;> omega)))
  | with_reducible refine Bf.n_isint ?_
  | with_reducible refine Bf.n_mixed ?_
  | with_reducible refine Bf.r_dget ?_
  | with_reducible refine Bf.n_dgetS (by assumption) (by with_unfolding_all rfl) ?_
  | with_reducible refine Bf.r_pcons ?_
  | with_reducible refine Bf.r_pnil ?_
  | with_reducible refine Bf.r_sl ?_
  | with_reducible refine Bf.r_nopart ?_
  | with_reducible refine Bf.r_part ?_
  | with_reducible refine Bf.r_isint ?_
  | with_reducible refine Bf.r_revL ?_
  | with_reducible refine Bf.r_sfld ?_
  | with_reducible refine Bf.r_meth ?_
  | with_reducible refine Bf.n_meth (by assumption) (by with_unfolding_all rfl) ?_
  | with_reducible refine Bf.r_make ?_
  | with_reducible refine Bf.r_turn ?_
  | with_reducible refine Bf.r_wipe (by with_unfolding_all rfl) ?_
  | with_reducible refine Bf.r_yes ?_
  | with_reducible refine Bf.r_lcL ?_
  | with_reducible refine Bf.r_lcT ?_
  | with_reducible refine Bf.r_lcR ?_
  | with_reducible refine Bf.r_forL ?_
  | with_reducible refine Bf.r_forZ ?_
  | with_reducible refine Bf.r_forT ?_
  | with_reducible refine Bf.r_forR ?_
  | with_reducible refine Bf.r_forR2 ?_
  | ((with_reducible refine Bf.i_d1 ?h ?_); (case h => walk_at "pfN3"))
  | ((with_reducible refine Bf.i_d0 ?h ?_); (case h => walk_at "pfN3"))
  | ((with_reducible refine Bf.i_n1 ?h ?_); (case h => walk_at "pfN3"))
  | ((with_reducible refine Bf.i_n0 ?h ?_); (case h => walk_at "pfN3")))
local macro_rules | `(tactic| walk_at "rdN3") => `(tactic| repeat walk_at "rd1N3")
namespace Bf
open PySem L2
abbrev s_weights : Stmt := topS 9
theorem bi_weights : ∀ (kV doc pm : Value) (an : Option Addr) (cdv ct : Value) (us : List Value), us.length = 3 → bindArgs (PySem.W.fnOf "weights" "weights" (defArgs s_weights) (defBody s_weights) (defScope s_weights) .none kV doc pm an cdv ct) ⟨us, []⟩ = pure ((["size", "prime", "x"] : List Str).zip us) := fun _ _ _ _ _ _ us hl => match us, hl with | [_, _, _], _ => rfl
theorem sc_weights : FnScope ["size", "prime", "x", "found", "i", "above", "below", "j"] ["size", "prime", "x"] (defScope s_weights) := C8.fnScope_by (by decide +kernel)
abbrev s_interpolate : Stmt := topS 10
theorem bi_interpolate : ∀ (kV doc pm : Value) (an : Option Addr) (cdv ct : Value) (us : List Value), us.length = 4 → bindArgs (PySem.W.fnOf "interpolate" "interpolate" (defArgs s_interpolate) (defBody s_interpolate) (defScope s_interpolate) .none kV doc pm an cdv ct) ⟨us, []⟩ = pure ((["table", "prime", "x", "y"] : List Str).zip us) := fun _ _ _ _ _ _ us hl => match us, hl with | [_, _, _, _], _ => rfl
theorem sc_interpolate : FnScope ["table", "prime", "x", "y", "size", "rows", "columns", "total", "row", "weight", "part", "entry", "other"] ["table", "prime", "x", "y"] (defScope s_interpolate) := C8.fnScope_by (by decide +kernel)
theorem wprod_succ (p x i : Int) (j : Nat) : wprod p x i (List.range (j + 1)) = if (j : Int) ≠ i then wprod p x i (List.range j) * (x - j) % p else wprod p x i (List.range j) := by
  unfold wprod
  rw [List.range_succ, List.foldl_append]
  rfl
theorem wgts_take_succ {p : Int} {K : Nat} {x : Int} {i : Nat} (h : i < K) : ((wgts p K x).take (i + 1)) = (wgts p K x).take i ++ [wgt p K x i] := by
  apply take_snoc
  unfold wgts
  rw [List.getElem?_map, range_at h]
  rfl
def spWgts : Sp := fun vs H Q _ => ∃ (n : Nat) (p x : Int), vs = [.int n, .int p, .int x] ∧ n ≤ 1000000 ∧ 2 ≤ p ∧ p ≤ 1000000000 ∧ Units p n ∧ ∀ q H', H q = none → Same H H' → H' q = some (.lst ((wgts p n x).map V.int)) → Q (.ref q) H'
def spItp : Sp := fun vs H Q _ => ∃ (tb : List (List Int)) (t : V) (p x y : Int), vs = [t, .int p, .int x, .int y] ∧ Rp H (.t (tb.map fun r => .t (r.map .i))) t ∧ tb.length ≤ 1000000 ∧ 2 ≤ p ∧ p ≤ 1000000000 ∧ Units p tb.length ∧ (∀ row ∈ tb, row.length = tb.length) ∧ ∀ H', Same H H' → Q (.int (itp tb p x y)) H'
section
variable {P : Program} {w : World} {K : PySem.W.Frag} {mg : Str → Option Value} {base : Heap}
theorem cal_weights (T : Gs mg) (c_inverse_of : C8.Cal P w K mg base 1 "inverse_of" spInv []) (F : DefAt K mg "weights" s_weights) : C8.Cal P w K mg base 2 "weights" spWgts [] := by
  refine cal_of F sc_weights bi_weights (fun vs H Q E h => ?_) (fun f cdv A outer s H vs Q E hr h => ?_)
  · obtain ⟨n, p, x, rfl, _⟩ := h
    rfl
  · refine ⟨_, (pss_cons (ps_set (i := 3) sc_weights.nd rfl (by first | exact Or.inl rfl | exact Or.inr rfl) (pe_lst pa_nil))
      (pss_cons (ps_for PassesOwn.never rfl (pi_range1 rfl T.n_range (pa_cons (pv 0) pa_nil)) (pg_name (i := 4) sc_weights.nd rfl (by first | exact Or.inl rfl | exact Or.inr rfl)) (pss_cons (ps_asg (pe_tup (pa_cons pe_int (pa_cons pe_int pa_nil))) (pg_tup rfl (pgs_cons (pg_name (i := 5) sc_weights.nd rfl (by first | exact Or.inl rfl | exact Or.inr rfl)) (pgs_cons (pg_name (i := 6) sc_weights.nd rfl (by first | exact Or.inl rfl | exact Or.inr rfl)) pgs_nil))))
      (pss_cons (ps_for PassesOwn.never rfl (pi_range1 rfl T.n_range (pa_cons (pv 0) pa_nil)) (pg_name (i := 7) sc_weights.nd rfl (by first | exact Or.inl rfl | exact Or.inr rfl)) (pss_one (ps_if (pt_cmpR op_ne (pv 7) (pv 4) (nomark _)) (pss_cons (ps_set (i := 5) sc_weights.nd rfl (by first | exact Or.inl rfl | exact Or.inr rfl) (pe_op op_mod (pe_op op_mul (pv 5) (pe_op op_sub (pv 2) (pv 7))) (pv 1)))
      (pss_one (ps_set (i := 6) sc_weights.nd rfl (by first | exact Or.inl rfl | exact Or.inr rfl) (pe_op op_mod (pe_op op_mul (pv 6) (pe_op op_sub (pv 4) (pv 7))) (pv 1))))) pss_nil)))
      (pss_one (ps_expr (pe_bm PySem.F.plainAttrs_list PySem.F.slot_list_append PySem.F.type_list_append mt_append (pv 3) (pa_cons (pe_op op_mod (pe_op op_mul (pv 5) (C8.pe_c c_inverse_of hr (by first | decide | omega) rfl (pa_cons (pv 6) (pa_cons (pv 1) pa_nil)))) (pv 1)) pa_nil)))))))
      (pss_one (ps_ret (pv 3))))), ?_⟩
    obtain ⟨n, p, x, rfl, hn, h2, h9, hu, k⟩ := h
    walk_at "rdN3"
    refine n_lst (by decide) fun q H1 nq s1 hq => ?_
    walk_at "rdN3"
    refine n_forR (fun i σ H' => ∃ u1 u2 u3 u4 : Option V, σ = [some (.int n), some (.int p), some (.int x), some (.ref q), u1, u2, u3, u4] ∧ H' q = some (.lst (((wgts p n x).take i).map V.int)) ∧ Same H H') (by omega)
      ⟨_, _, _, _, rfl, hq, s1⟩ ?_ ?_
    · rintro i σ H2 hi ⟨u1, u2, u3, u4, rfl, hq2, s2⟩
      have hi' : i < n := by omega
      walk_at "rdN3"
      refine n_tup (by decide) fun T H3 nT s3 hT => ?_
      walk_at "rdN3"
      refine n_forR (fun j σ H' => ∃ u4 : Option V, σ = [some (.int n), some (.int p), some (.int x), some (.ref q), some (.int i), some (.int (wprod p x i (List.range j))), some (.int (wprod p i i (List.range j))), u4] ∧ H' = H3) (by omega)
        ⟨_, rfl, rfl⟩ ?_ ?_
      · rintro j σ H' hj ⟨u4, rfl, rfl⟩
        have b1 := wprod_bd (x := x) (i := i) h2 (List.range j)
        have b2 := wprod_bd (x := i) (i := i) h2 (List.range j)
        walk_at "rdN3"
        refine i_n2 (fun hne => ?_) (fun hne => ?_)
        · walk_at "rdN3"
          exact ⟨_, by rw [wprod_succ, wprod_succ, if_pos hne, if_pos hne]; rfl, rfl⟩
        · walk_at "rdN3"
          exact ⟨_, by rw [wprod_succ, wprod_succ, if_neg (by omega), if_neg (by omega)]; rfl, rfl⟩
      · rintro σ H' ⟨u4, rfl, rfl⟩
        rw [show (n : Int).toNat = n by omega]
        have b1 := wprod_bd (x := x) (i := i) h2 (List.range n)
        have hq3 := s3 _ _ hq2
        walk_at "rdN3"
        refine ⟨_, _, rfl, h2, h9, fun _ H4 s4 => ?_, fun hc => absurd (wprod_unit hu hi' (List.range n) (fun j hj => List.mem_range.mp hj)) hc⟩
        walk_at "rdN3"
        have hq4 := s4 _ _ hq3
        refine n_app hq4 (by
          rw [List.length_map, List.length_take]
          have : sizeLine = 2 ^ 24 := rfl
          omega) fun H5 k5 hq5 => ?_
        walk_at "rdN3"
        refine ⟨_, _, _, _, rfl, ?_, same_kp nq (s2.trans (s3.trans s4)) k5⟩
        rw [hq5, wgts_take_succ hi', List.map_append]
        rfl
    · rintro σ H' ⟨u1, u2, u3, u4, rfl, hq2, s2⟩
      walk_at "rdN3"
      rw [show (n : Int).toNat = n by omega, List.take_of_length_le (by rw [wgts_len]; exact Nat.le_refl _)] at hq2
      exact k q H' nq s2 hq2
theorem cal_interpolate (T : Gs mg) (c_weights : C8.Cal P w K mg base 2 "weights" spWgts []) (F : DefAt K mg "interpolate" s_interpolate) : C8.Cal P w K mg base 3 "interpolate" spItp [] := by
  refine cal_of F sc_interpolate bi_interpolate (fun vs H Q E h => ?_) (fun f cdv A outer s H vs Q E hr h => ?_)
  · obtain ⟨n, t, p, x, y, rfl, _⟩ := h
    rfl
  · refine ⟨_, (pss_cons (ps_set (i := 4) sc_interpolate.nd rfl (by first | exact Or.inl rfl | exact Or.inr rfl) (pe_callB b_len (by rfl) T.n_len PySem.boot_len (pa_cons (pv 0) pa_nil)))
      (pss_cons (ps_if (PW.pt (pw_and (pt_chain op_le op_lt pe_int (pv 2) (pv 4)) (pw_and1 (pt_chain op_le op_lt pe_int (pv 3) (pv 4))))) (pss_one (ps_ret (pe_op op_mod (pe_ix ix_seq (pe_ix ix_seq (pv 0) (pv 2) (fun _ _ => rfl)) (pv 3) (fun _ _ => rfl)) (pv 1)))) pss_nil)
      (pss_cons (ps_set (i := 5) sc_interpolate.nd rfl (by first | exact Or.inl rfl | exact Or.inr rfl) (C8.pe_c c_weights hr (by first | decide | omega) rfl (pa_cons (pv 4) (pa_cons (pv 1) (pa_cons (pv 2) pa_nil)))))
      (pss_cons (ps_set (i := 6) sc_interpolate.nd rfl (by first | exact Or.inl rfl | exact Or.inr rfl) (C8.pe_c c_weights hr (by first | decide | omega) rfl (pa_cons (pv 4) (pa_cons (pv 1) (pa_cons (pv 3) pa_nil)))))
      (pss_cons (ps_set (i := 7) sc_interpolate.nd rfl (by first | exact Or.inl rfl | exact Or.inr rfl) pe_int)
      (pss_cons (ps_for PassesOwn.never rfl (pi_zipTL (by rfl) T.n_zip (pa_cons (pv 0) (pa_cons (pv 5) pa_nil))) (pg_tup rfl (pgs_cons (pg_name (i := 8) sc_interpolate.nd rfl (by first | exact Or.inl rfl | exact Or.inr rfl)) (pgs_cons (pg_name (i := 9) sc_interpolate.nd rfl (by first | exact Or.inl rfl | exact Or.inr rfl)) pgs_nil))) (pss_cons (ps_set (i := 10) sc_interpolate.nd rfl (by first | exact Or.inl rfl | exact Or.inr rfl) pe_int)
      (pss_cons (ps_for PassesOwn.never rfl (pi_zipTL (by rfl) T.n_zip (pa_cons (pv 8) (pa_cons (pv 6) pa_nil))) (pg_tup rfl (pgs_cons (pg_name (i := 11) sc_interpolate.nd rfl (by first | exact Or.inl rfl | exact Or.inr rfl)) (pgs_cons (pg_name (i := 12) sc_interpolate.nd rfl (by first | exact Or.inl rfl | exact Or.inr rfl)) pgs_nil))) (pss_one (ps_aug (i := 10) sc_interpolate.nd rfl (by first | exact Or.inl rfl | exact Or.inr rfl) (pe_op op_mul (pv 11) (pv 12)) ip_add)))
      (pss_one (ps_set (i := 7) sc_interpolate.nd rfl (by first | exact Or.inl rfl | exact Or.inr rfl) (pe_op op_mod (pe_op op_add (pv 7) (pe_op op_mul (pv 9) (pv 10))) (pv 1)))))))
      (pss_one (ps_ret (pv 7))))))))), ?_⟩
    obtain ⟨tb, t, p, x, y, rfl, hR, hn, h2, h9, hu, hsq, k⟩ := h
    obtain ⟨a, vs, rfl, ha, hl⟩ := hR
    have hlen := hl.len
    rw [List.length_map] at hlen
    walk_at "rdN3"
    by_cases hc : (0 ≤ x ∧ x < tb.length) ∧ 0 ≤ y ∧ y < tb.length
    · have hcc := hc
      obtain ⟨⟨x0, x1⟩, y0, y1⟩ := hc
      have e1 : x.toNat < tb.length := by omega
      have e2 : (tb.map fun r => Dt.t (r.map .i))[x.toNat]? = some (.t ((tb.getD x.toNat []).map .i)) := by
        rw [List.getElem?_map, List.getElem?_eq_getElem e1, List.getD_eq_getElem?_getD, List.getElem?_eq_getElem e1]
        rfl
      obtain ⟨v1, hv1, r1⟩ := hl.get e2
      obtain ⟨b, vs2, rfl, hb, hl2⟩ := r1
      have e3 := RpL.eq_ints hl2
      subst e3
      have em : tb.getD x.toNat [] ∈ tb := by
        rw [List.getD_eq_getElem?_getD, List.getElem?_eq_getElem e1]
        exact List.getElem_mem e1
      have e4 : y.toNat < (tb.getD x.toNat []).length := by rw [hsq _ em]; omega
      have e5 : ((tb.getD x.toNat []).map V.int)[y.toNat]? = some (.int ((tb.getD x.toNat []).getD y.toNat 0)) := by
        rw [List.getElem?_map, List.getD_eq_getElem?_getD (l := tb.getD x.toNat []), List.getElem?_eq_getElem e4]
        rfl
      rw [← hlen] at x1 y1
      refine i_d1 x0 ?_
      walk_at "rdN3"
      refine r_ixT ha (at_nat x0 hv1) ?_
      walk_at "rdN3"
      refine r_ixT hb (at_nat y0 e5) ?_
      walk_at "rdN3"
      have e6 : itp tb p x y = (tb.getD x.toNat []).getD y.toNat 0 % p := by
        unfold itp
        rw [if_pos hcc]
      rw [← e6]
      exact k H (Same.refl H)
    · have rest : itp tb p x y = Bf.outer p (wgts p tb.length y) (tb.zip (wgts p tb.length x)) := by
        unfold itp
        rw [if_neg hc]
      refine i_d2 (fun c1 => ?_) (fun c1 => ?_)
      · walk_at "rdN3"
        refine i_d2 (fun c2 => ?_) (fun c2 => ?_)
        · walk_at "rdN3"
          refine i_d2 (fun c3 => ?_) (fun c3 => ?_)
          · have c4 : ¬ y < vs.length := fun c4 => hc (by rw [← hlen]; exact ⟨⟨c1, c2⟩, c3, c4⟩)
            walk_at "rdN3"
            (refine ⟨tb.length, p, x, by rw [hlen]; rfl, hn, h2, h9, hu, fun q1 H1 n1 s1 hq1 => ?_⟩
             walk_at "rdN3"
             refine ⟨tb.length, p, y, by rw [hlen]; rfl, hn, h2, h9, hu, fun q2 H2 n2 s2 hq2 => ?_⟩
             walk_at "rdN3"
             replace hq1 := s2 _ _ hq1
             replace ha := s2 _ _ (s1 _ _ ha)
             replace hl := hl.same (s1.trans s2)
             have s3 := s1.trans s2
             refine n_forZ (fun i σ H' => ∃ u1 u2 u3 u4 u5 : Option V, σ = [some (.ref a), some (.int p), some (.int x), some (.int y), some (.int vs.length), some (.ref q1), some (.ref q2), some (.int (Bf.outer p (wgts p tb.length y) ((tb.zip (wgts p tb.length x)).take i))), u1, u2, u3, u4, u5] ∧ Same H2 H') ha hq1 (by rw [hlen, List.length_map, wgts_len])
               ⟨_, _, _, _, _, rfl, Same.refl _⟩ ?_ ?_ ?_
             · rintro i σ H' ⟨u1, u2, u3, u4, u5, rfl, s4⟩
               exact ⟨s4 _ _ ha, s4 _ _ hq1⟩
             · rintro i v v2 T σ H3 H4 hv hv2 ⟨u1, u2, u3, u4, u5, rfl, s4⟩ nT s5 hT
               obtain ⟨wt, hwt, rfl⟩ := map_at hv2
               obtain ⟨dr, hdr, hrv⟩ := hl.at hv
               rw [List.getElem?_map] at hdr
               obtain ⟨row, hrow, rfl⟩ := Option.map_eq_some_iff.mp hdr
               obtain ⟨b, vs2, rfl, hb, hl2⟩ := hrv
               have e3 := RpL.eq_ints hl2
               subst e3
               replace hb := s5 _ _ (s4 _ _ hb)
               have hq2' := s5 _ _ (s4 _ _ hq2)
               have bw := wgts_bd h2 (List.mem_of_getElem? hwt)
               have hz : (tb.zip (wgts p tb.length x))[i]? = some (row, wt) := List.getElem?_zip_eq_some.mpr ⟨hrow, hwt⟩
               walk_at "rdN3"
               refine n_forZ (fun j σ H' => ∃ u4 u5 : Option V, σ = [some (.ref a), some (.int p), some (.int x), some (.int y), some (.int vs.length), some (.ref q1), some (.ref q2), some (.int (Bf.outer p (wgts p tb.length y) ((tb.zip (wgts p tb.length x)).take i))), some (.ref b), some (.int wt), some (.int (((row.zip (wgts p tb.length y)).take j).foldl (fun (part : Int) (q : Int × Int) => part + q.1 * q.2) 0)), u4, u5] ∧ Same H4 H') hb hq2' (by rw [List.length_map, List.length_map, wgts_len, hsq _ (List.mem_of_getElem? hrow)])
                 ⟨_, _, rfl, Same.refl _⟩ ?_ ?_ ?_
               · rintro j σ H' ⟨u4, u5, rfl, s6⟩
                 exact ⟨s6 _ _ hb, s6 _ _ hq2'⟩
               · rintro j v v2 T2 σ H5 H6 hv hv2 ⟨u4, u5, rfl, s6⟩ nT2 s7 hT2
                 obtain ⟨en, hen, rfl⟩ := map_at hv
                 obtain ⟨wt2, hwt2, rfl⟩ := map_at hv2
                 have bw2 := wgts_bd h2 (List.mem_of_getElem? hwt2)
                 have hz2 : (row.zip (wgts p tb.length y))[j]? = some (en, wt2) := List.getElem?_zip_eq_some.mpr ⟨hen, hwt2⟩
                 walk_at "rdN3"
                 exact ⟨_, _, by rw [foldl_take _ _ hz2]; rfl, s6.trans s7⟩
               · rintro σ H' ⟨u4, u5, rfl, s6⟩
                 rw [List.length_map, show row.length = (row.zip (wgts p tb.length y)).length by rw [List.length_zip, wgts_len, hsq _ (List.mem_of_getElem? hrow), Nat.min_self], List.take_length]
                 walk_at "rdN3"
                 have e8 : Bf.outer p (wgts p tb.length y) ((tb.zip (wgts p tb.length x)).take (i + 1)) = _ := foldl_take _ _ hz
                 exact ⟨_, _, _, _, _, by rw [e8]; rfl, s4.trans (s5.trans s6)⟩
             · rintro σ H' ⟨u1, u2, u3, u4, u5, rfl, s4⟩
               rw [show vs.length = (tb.zip (wgts p tb.length x)).length by rw [List.length_zip, wgts_len, hlen, Nat.min_self], List.take_length, ← rest]
               walk_at "rdN3"
               exact k _ (s3.trans s4))
          · walk_at "rdN3"
            (refine ⟨tb.length, p, x, by rw [hlen]; rfl, hn, h2, h9, hu, fun q1 H1 n1 s1 hq1 => ?_⟩
             walk_at "rdN3"
             refine ⟨tb.length, p, y, by rw [hlen]; rfl, hn, h2, h9, hu, fun q2 H2 n2 s2 hq2 => ?_⟩
             walk_at "rdN3"
             replace hq1 := s2 _ _ hq1
             replace ha := s2 _ _ (s1 _ _ ha)
             replace hl := hl.same (s1.trans s2)
             have s3 := s1.trans s2
             refine n_forZ (fun i σ H' => ∃ u1 u2 u3 u4 u5 : Option V, σ = [some (.ref a), some (.int p), some (.int x), some (.int y), some (.int vs.length), some (.ref q1), some (.ref q2), some (.int (Bf.outer p (wgts p tb.length y) ((tb.zip (wgts p tb.length x)).take i))), u1, u2, u3, u4, u5] ∧ Same H2 H') ha hq1 (by rw [hlen, List.length_map, wgts_len])
               ⟨_, _, _, _, _, rfl, Same.refl _⟩ ?_ ?_ ?_
             · rintro i σ H' ⟨u1, u2, u3, u4, u5, rfl, s4⟩
               exact ⟨s4 _ _ ha, s4 _ _ hq1⟩
             · rintro i v v2 T σ H3 H4 hv hv2 ⟨u1, u2, u3, u4, u5, rfl, s4⟩ nT s5 hT
               obtain ⟨wt, hwt, rfl⟩ := map_at hv2
               obtain ⟨dr, hdr, hrv⟩ := hl.at hv
               rw [List.getElem?_map] at hdr
               obtain ⟨row, hrow, rfl⟩ := Option.map_eq_some_iff.mp hdr
               obtain ⟨b, vs2, rfl, hb, hl2⟩ := hrv
               have e3 := RpL.eq_ints hl2
               subst e3
               replace hb := s5 _ _ (s4 _ _ hb)
               have hq2' := s5 _ _ (s4 _ _ hq2)
               have bw := wgts_bd h2 (List.mem_of_getElem? hwt)
               have hz : (tb.zip (wgts p tb.length x))[i]? = some (row, wt) := List.getElem?_zip_eq_some.mpr ⟨hrow, hwt⟩
               walk_at "rdN3"
               refine n_forZ (fun j σ H' => ∃ u4 u5 : Option V, σ = [some (.ref a), some (.int p), some (.int x), some (.int y), some (.int vs.length), some (.ref q1), some (.ref q2), some (.int (Bf.outer p (wgts p tb.length y) ((tb.zip (wgts p tb.length x)).take i))), some (.ref b), some (.int wt), some (.int (((row.zip (wgts p tb.length y)).take j).foldl (fun (part : Int) (q : Int × Int) => part + q.1 * q.2) 0)), u4, u5] ∧ Same H4 H') hb hq2' (by rw [List.length_map, List.length_map, wgts_len, hsq _ (List.mem_of_getElem? hrow)])
                 ⟨_, _, rfl, Same.refl _⟩ ?_ ?_ ?_
               · rintro j σ H' ⟨u4, u5, rfl, s6⟩
                 exact ⟨s6 _ _ hb, s6 _ _ hq2'⟩
               · rintro j v v2 T2 σ H5 H6 hv hv2 ⟨u4, u5, rfl, s6⟩ nT2 s7 hT2
                 obtain ⟨en, hen, rfl⟩ := map_at hv
                 obtain ⟨wt2, hwt2, rfl⟩ := map_at hv2
                 have bw2 := wgts_bd h2 (List.mem_of_getElem? hwt2)
                 have hz2 : (row.zip (wgts p tb.length y))[j]? = some (en, wt2) := List.getElem?_zip_eq_some.mpr ⟨hen, hwt2⟩
                 walk_at "rdN3"
                 exact ⟨_, _, by rw [foldl_take _ _ hz2]; rfl, s6.trans s7⟩
               · rintro σ H' ⟨u4, u5, rfl, s6⟩
                 rw [List.length_map, show row.length = (row.zip (wgts p tb.length y)).length by rw [List.length_zip, wgts_len, hsq _ (List.mem_of_getElem? hrow), Nat.min_self], List.take_length]
                 walk_at "rdN3"
                 have e8 : Bf.outer p (wgts p tb.length y) ((tb.zip (wgts p tb.length x)).take (i + 1)) = _ := foldl_take _ _ hz
                 exact ⟨_, _, _, _, _, by rw [e8]; rfl, s4.trans (s5.trans s6)⟩
             · rintro σ H' ⟨u1, u2, u3, u4, u5, rfl, s4⟩
               rw [show vs.length = (tb.zip (wgts p tb.length x)).length by rw [List.length_zip, wgts_len, hlen, Nat.min_self], List.take_length, ← rest]
               walk_at "rdN3"
               exact k _ (s3.trans s4))
        · walk_at "rdN3"
          (refine ⟨tb.length, p, x, by rw [hlen]; rfl, hn, h2, h9, hu, fun q1 H1 n1 s1 hq1 => ?_⟩
           walk_at "rdN3"
           refine ⟨tb.length, p, y, by rw [hlen]; rfl, hn, h2, h9, hu, fun q2 H2 n2 s2 hq2 => ?_⟩
           walk_at "rdN3"
           replace hq1 := s2 _ _ hq1
           replace ha := s2 _ _ (s1 _ _ ha)
           replace hl := hl.same (s1.trans s2)
           have s3 := s1.trans s2
           refine n_forZ (fun i σ H' => ∃ u1 u2 u3 u4 u5 : Option V, σ = [some (.ref a), some (.int p), some (.int x), some (.int y), some (.int vs.length), some (.ref q1), some (.ref q2), some (.int (Bf.outer p (wgts p tb.length y) ((tb.zip (wgts p tb.length x)).take i))), u1, u2, u3, u4, u5] ∧ Same H2 H') ha hq1 (by rw [hlen, List.length_map, wgts_len])
             ⟨_, _, _, _, _, rfl, Same.refl _⟩ ?_ ?_ ?_
           · rintro i σ H' ⟨u1, u2, u3, u4, u5, rfl, s4⟩
             exact ⟨s4 _ _ ha, s4 _ _ hq1⟩
           · rintro i v v2 T σ H3 H4 hv hv2 ⟨u1, u2, u3, u4, u5, rfl, s4⟩ nT s5 hT
             obtain ⟨wt, hwt, rfl⟩ := map_at hv2
             obtain ⟨dr, hdr, hrv⟩ := hl.at hv
             rw [List.getElem?_map] at hdr
             obtain ⟨row, hrow, rfl⟩ := Option.map_eq_some_iff.mp hdr
             obtain ⟨b, vs2, rfl, hb, hl2⟩ := hrv
             have e3 := RpL.eq_ints hl2
             subst e3
             replace hb := s5 _ _ (s4 _ _ hb)
             have hq2' := s5 _ _ (s4 _ _ hq2)
             have bw := wgts_bd h2 (List.mem_of_getElem? hwt)
             have hz : (tb.zip (wgts p tb.length x))[i]? = some (row, wt) := List.getElem?_zip_eq_some.mpr ⟨hrow, hwt⟩
             walk_at "rdN3"
             refine n_forZ (fun j σ H' => ∃ u4 u5 : Option V, σ = [some (.ref a), some (.int p), some (.int x), some (.int y), some (.int vs.length), some (.ref q1), some (.ref q2), some (.int (Bf.outer p (wgts p tb.length y) ((tb.zip (wgts p tb.length x)).take i))), some (.ref b), some (.int wt), some (.int (((row.zip (wgts p tb.length y)).take j).foldl (fun (part : Int) (q : Int × Int) => part + q.1 * q.2) 0)), u4, u5] ∧ Same H4 H') hb hq2' (by rw [List.length_map, List.length_map, wgts_len, hsq _ (List.mem_of_getElem? hrow)])
               ⟨_, _, rfl, Same.refl _⟩ ?_ ?_ ?_
             · rintro j σ H' ⟨u4, u5, rfl, s6⟩
               exact ⟨s6 _ _ hb, s6 _ _ hq2'⟩
             · rintro j v v2 T2 σ H5 H6 hv hv2 ⟨u4, u5, rfl, s6⟩ nT2 s7 hT2
               obtain ⟨en, hen, rfl⟩ := map_at hv
               obtain ⟨wt2, hwt2, rfl⟩ := map_at hv2
               have bw2 := wgts_bd h2 (List.mem_of_getElem? hwt2)
               have hz2 : (row.zip (wgts p tb.length y))[j]? = some (en, wt2) := List.getElem?_zip_eq_some.mpr ⟨hen, hwt2⟩
               walk_at "rdN3"
               exact ⟨_, _, by rw [foldl_take _ _ hz2]; rfl, s6.trans s7⟩
             · rintro σ H' ⟨u4, u5, rfl, s6⟩
               rw [List.length_map, show row.length = (row.zip (wgts p tb.length y)).length by rw [List.length_zip, wgts_len, hsq _ (List.mem_of_getElem? hrow), Nat.min_self], List.take_length]
               walk_at "rdN3"
               have e8 : Bf.outer p (wgts p tb.length y) ((tb.zip (wgts p tb.length x)).take (i + 1)) = _ := foldl_take _ _ hz
               exact ⟨_, _, _, _, _, by rw [e8]; rfl, s4.trans (s5.trans s6)⟩
           · rintro σ H' ⟨u1, u2, u3, u4, u5, rfl, s4⟩
             rw [show vs.length = (tb.zip (wgts p tb.length x)).length by rw [List.length_zip, wgts_len, hlen, Nat.min_self], List.take_length, ← rest]
             walk_at "rdN3"
             exact k _ (s3.trans s4))
      · walk_at "rdN3"
        refine ⟨tb.length, p, x, by rw [hlen]; rfl, hn, h2, h9, hu, fun q1 H1 n1 s1 hq1 => ?_⟩
        walk_at "rdN3"
        refine ⟨tb.length, p, y, by rw [hlen]; rfl, hn, h2, h9, hu, fun q2 H2 n2 s2 hq2 => ?_⟩
        walk_at "rdN3"
        replace hq1 := s2 _ _ hq1
        replace ha := s2 _ _ (s1 _ _ ha)
        replace hl := hl.same (s1.trans s2)
        have s3 := s1.trans s2
        refine n_forZ (fun i σ H' => ∃ u1 u2 u3 u4 u5 : Option V, σ = [some (.ref a), some (.int p), some (.int x), some (.int y), some (.int vs.length), some (.ref q1), some (.ref q2), some (.int (Bf.outer p (wgts p tb.length y) ((tb.zip (wgts p tb.length x)).take i))), u1, u2, u3, u4, u5] ∧ Same H2 H') ha hq1 (by rw [hlen, List.length_map, wgts_len])
          ⟨_, _, _, _, _, rfl, Same.refl _⟩ ?_ ?_ ?_
        · rintro i σ H' ⟨u1, u2, u3, u4, u5, rfl, s4⟩
          exact ⟨s4 _ _ ha, s4 _ _ hq1⟩
        · rintro i v v2 T σ H3 H4 hv hv2 ⟨u1, u2, u3, u4, u5, rfl, s4⟩ nT s5 hT
          obtain ⟨wt, hwt, rfl⟩ := map_at hv2
          obtain ⟨dr, hdr, hrv⟩ := hl.at hv
          rw [List.getElem?_map] at hdr
          obtain ⟨row, hrow, rfl⟩ := Option.map_eq_some_iff.mp hdr
          obtain ⟨b, vs2, rfl, hb, hl2⟩ := hrv
          have e3 := RpL.eq_ints hl2
          subst e3
          replace hb := s5 _ _ (s4 _ _ hb)
          have hq2' := s5 _ _ (s4 _ _ hq2)
          have bw := wgts_bd h2 (List.mem_of_getElem? hwt)
          have hz : (tb.zip (wgts p tb.length x))[i]? = some (row, wt) := List.getElem?_zip_eq_some.mpr ⟨hrow, hwt⟩
          walk_at "rdN3"
          refine n_forZ (fun j σ H' => ∃ u4 u5 : Option V, σ = [some (.ref a), some (.int p), some (.int x), some (.int y), some (.int vs.length), some (.ref q1), some (.ref q2), some (.int (Bf.outer p (wgts p tb.length y) ((tb.zip (wgts p tb.length x)).take i))), some (.ref b), some (.int wt), some (.int (((row.zip (wgts p tb.length y)).take j).foldl (fun (part : Int) (q : Int × Int) => part + q.1 * q.2) 0)), u4, u5] ∧ Same H4 H') hb hq2' (by rw [List.length_map, List.length_map, wgts_len, hsq _ (List.mem_of_getElem? hrow)])
            ⟨_, _, rfl, Same.refl _⟩ ?_ ?_ ?_
          · rintro j σ H' ⟨u4, u5, rfl, s6⟩
            exact ⟨s6 _ _ hb, s6 _ _ hq2'⟩
          · rintro j v v2 T2 σ H5 H6 hv hv2 ⟨u4, u5, rfl, s6⟩ nT2 s7 hT2
            obtain ⟨en, hen, rfl⟩ := map_at hv
            obtain ⟨wt2, hwt2, rfl⟩ := map_at hv2
            have bw2 := wgts_bd h2 (List.mem_of_getElem? hwt2)
            have hz2 : (row.zip (wgts p tb.length y))[j]? = some (en, wt2) := List.getElem?_zip_eq_some.mpr ⟨hen, hwt2⟩
            walk_at "rdN3"
            exact ⟨_, _, by rw [foldl_take _ _ hz2]; rfl, s6.trans s7⟩
          · rintro σ H' ⟨u4, u5, rfl, s6⟩
            rw [List.length_map, show row.length = (row.zip (wgts p tb.length y)).length by rw [List.length_zip, wgts_len, hsq _ (List.mem_of_getElem? hrow), Nat.min_self], List.take_length]
            walk_at "rdN3"
            have e8 : Bf.outer p (wgts p tb.length y) ((tb.zip (wgts p tb.length x)).take (i + 1)) = _ := foldl_take _ _ hz
            exact ⟨_, _, _, _, _, by rw [e8]; rfl, s4.trans (s5.trans s6)⟩
        · rintro σ H' ⟨u1, u2, u3, u4, u5, rfl, s4⟩
          rw [show vs.length = (tb.zip (wgts p tb.length x)).length by rw [List.length_zip, wgts_len, hlen, Nat.min_self], List.take_length, ← rest]
          walk_at "rdN3"
          exact k _ (s3.trans s4)
end
end Bf
local macro_rules | `(tactic| walk_at "pfN4") => `(tactic| first | decide +kernel | omega | assumption | rfl | (simp only [List.length_cons, List.length_nil]; omega))
local macro_rules | `(tactic| walk_at "rd1N4") => `(tactic| first
  | with_reducible refine Bf.r_seq ?_
  | with_reducible refine Bf.r_asg ?_
  | with_reducible refine Bf.r_var (by with_unfolding_all rfl) ?_
  | with_reducible refine Bf.r_c ?_
  | with_reducible refine Bf.r_name ?_
  | with_reducible refine Bf.r_ret ?_
  | with_reducible refine Bf.r_op ?_
  | with_reducible refine Bf.r_I0 ?_
  | ((with_reducible refine Bf.r_I ?c ?_); (case c => first | decide | (show (0 : Int) < _; omega) | (refine Or.inl ⟨?_, ?_⟩ <;> omega) | (refine Or.inr ⟨?_, ?_⟩ <;> omega) | (refine And.intro ?_ ?_ <;> omega)))
  | with_reducible refine Bf.r_ifS ?_
  | with_reducible refine Bf.r_test ?_
  | with_reducible refine Bf.r_isbl ?_
  | with_reducible refine Bf.r_eqI ?_
  | with_reducible refine Bf.r_neI ?_
  | with_reducible refine Bf.r_eqS ?_
  | with_reducible refine Bf.r_neS ?_
  | with_reducible refine Bf.r_cons ?_
  | with_reducible refine Bf.r_nil ?_
  | with_reducible refine Bf.r_CB ?_
  | with_reducible refine Bf.r_call ?_
  | with_reducible refine Bf.i_t ?_
  | with_reducible refine Bf.i_f ?_
  | with_reducible refine Bf.i_nt ?_
  | with_reducible refine Bf.i_nf ?_
  | with_reducible refine Bf.r_ixT (by assumption) (by with_unfolding_all rfl) ?_
  | with_reducible refine Bf.r_ixL (by assumption) (by with_unfolding_all rfl) ?_
  | with_reducible refine Bf.r_fld ?_
  | ((with_reducible refine Bf.r_fat (by assumption) ?c ?n (by with_unfolding_all rfl) ?_); (case c => assumption); (case n => assumption))
  | with_reducible refine Bf.r_par ?_
  | with_reducible refine Bf.r_two ?_
  | with_reducible refine Bf.r_aug (by with_unfolding_all rfl) ?_
  | with_reducible refine Bf.r_ip ?_
  | with_reducible refine Bf.r_app (by with_unfolding_all rfl) (by assumption) ?_
  | with_reducible refine Bf.r_next ?_
  | with_reducible refine Bf.r_cont ?_
  | with_reducible refine Bf.r_drop ?_
  | with_reducible refine Bf.r_and ?_
  | with_reducible refine Bf.r_or ?_
  | with_reducible refine Bf.r_not ?_
  | with_reducible refine Bf.r_andV ?_
  | with_reducible refine Bf.r_orV ?_
  | with_reducible refine Bf.r_notV ?_
  | with_reducible refine Bf.r_chain ?_
  | with_reducible refine Bf.r_B ?_
  | with_reducible refine Bf.r_ifE ?_
  | with_reducible refine Bf.r_un ?_
  | with_reducible refine Bf.r_U ?_
  | with_reducible refine Bf.r_tup ?_
  | with_reducible refine Bf.r_lst ?_
  | with_reducible refine Bf.r_lenT (by assumption) ?_
  | with_reducible refine Bf.r_lenL (by assumption) ?_
  | with_reducible refine Bf.r_int ?_
  | with_reducible refine Bf.r_max2 ?_
  | with_reducible refine Bf.r_min2 ?_
  | with_reducible refine Bf.isi_ Bf.ty_i Bf.kb_ii ?_
  | with_reducible refine Bf.isi_ Bf.ty_i Bf.kb_ib ?_
  | with_reducible refine Bf.isi_ Bf.ty_i Bf.kb_is ?_
  | with_reducible refine Bf.isi_ Bf.ty_i Bf.kb_it ?_
  | with_reducible refine Bf.isi_ Bf.ty_i Bf.kb_il ?_
  | with_reducible refine Bf.isi_ Bf.ty_s Bf.kb_si ?_
  | with_reducible refine Bf.isi_ Bf.ty_s Bf.kb_sb ?_
  | with_reducible refine Bf.isi_ Bf.ty_s Bf.kb_ss ?_
  | with_reducible refine Bf.isi_ Bf.ty_s Bf.kb_st ?_
  | with_reducible refine Bf.isi_ Bf.ty_s Bf.kb_sl ?_
  | with_reducible refine Bf.isi_ (Bf.ty_t (by assumption)) Bf.kb_tt ?_
  | with_reducible refine Bf.isi_ (Bf.ty_l (by assumption)) Bf.kb_ll ?_
  | with_reducible refine Bf.isi_ (Bf.ty_t (by assumption)) Bf.kb_tl ?_
  | with_reducible refine Bf.isi_ (Bf.ty_l (by assumption)) Bf.kb_lt ?_
  | with_reducible refine Bf.isi_ Bf.ty_b Bf.kb_bi ?_
  | with_reducible refine Bf.isi_ Bf.ty_b Bf.kb_bb ?_
  | with_reducible refine Bf.isi_ Bf.ty_b Bf.kb_bs ?_
  | with_reducible refine Bf.isi_ Bf.ty_b Bf.kb_bt ?_
  | with_reducible refine Bf.isi_ Bf.ty_b Bf.kb_bL ?_
  | with_reducible refine Bf.isi_ Bf.ty_n Bf.kb_ni ?_
  | with_reducible refine Bf.isi_ Bf.ty_n Bf.kb_nb ?_
  | with_reducible refine Bf.isi_ Bf.ty_n Bf.kb_ns ?_
  | with_reducible refine Bf.isi_ Bf.ty_n Bf.kb_nt ?_
  | with_reducible refine Bf.isi_ Bf.ty_n Bf.kb_nl ?_
  | with_reducible refine Bf.isi_ (Bf.ty_t (by assumption)) Bf.kb_ti ?_
  | with_reducible refine Bf.isi_ (Bf.ty_l (by assumption)) Bf.kb_li ?_
  | with_reducible refine Bf.isi_ (Bf.ty_t (by assumption)) Bf.kb_tb ?_
  | with_reducible refine Bf.isi_ (Bf.ty_l (by assumption)) Bf.kb_lb ?_
  | with_reducible refine Bf.isi_ (Bf.ty_t (by assumption)) Bf.kb_ts ?_
  | with_reducible refine Bf.isi_ (Bf.ty_l (by assumption)) Bf.kb_ls ?_
  | with_reducible refine Bf.r_gtup (by assumption) (by with_unfolding_all rfl) ?_
  | with_reducible refine Bf.r_gcons ?_
  | with_reducible refine Bf.r_gnil ?_
  | with_reducible refine Bf.r_gsub ?_
  | ((with_reducible refine Bf.n_num ?h ?_); (case h => first | assumption | (refine And.intro ?_ ?_ <;> omega)))
  | with_reducible refine Bf.n_isint ?_
  | with_reducible refine Bf.n_mixed ?_
  | with_reducible refine Bf.r_dget ?_
  | with_reducible refine Bf.n_dgetS (by assumption) (by with_unfolding_all rfl) ?_
  | with_reducible refine Bf.r_pcons ?_
  | with_reducible refine Bf.r_pnil ?_
  | with_reducible refine Bf.r_sl ?_
  | with_reducible refine Bf.r_nopart ?_
  | with_reducible refine Bf.r_part ?_
  | with_reducible refine Bf.r_isint ?_
  | with_reducible refine Bf.r_revL ?_
  | with_reducible refine Bf.r_sfld ?_
  | with_reducible refine Bf.r_meth ?_
  | with_reducible refine Bf.n_meth (by assumption) (by with_unfolding_all rfl) ?_
  | with_reducible refine Bf.r_make ?_
  | with_reducible refine Bf.r_turn ?_
  | with_reducible refine Bf.r_wipe (by with_unfolding_all rfl) ?_
  | with_reducible refine Bf.r_yes ?_
  | with_reducible refine Bf.r_lcL ?_
  | with_reducible refine Bf.r_lcT ?_
  | with_reducible refine Bf.r_lcR ?_
  | with_reducible refine Bf.r_forL ?_
  | with_reducible refine Bf.r_forZ ?_
  | with_reducible refine Bf.r_forT ?_
  | with_reducible refine Bf.r_forR ?_
  | with_reducible refine Bf.r_forR2 ?_
  | ((with_reducible refine Bf.i_d1 ?h ?_); (case h => walk_at "pfN4"))
  | ((with_reducible refine Bf.i_d0 ?h ?_); (case h => walk_at "pfN4"))
  | ((with_reducible refine Bf.i_n1 ?h ?_); (case h => walk_at "pfN4"))
  | ((with_reducible refine Bf.i_n0 ?h ?_); (case h => walk_at "pfN4")))
local macro_rules | `(tactic| walk_at "rdN4") => `(tactic| repeat walk_at "rd1N4")
namespace Bf
open PySem L2
abbrev s_is_factor : Stmt := topS 13
theorem bi_is_factor : ∀ (kV doc pm : Value) (an : Option Addr) (cdv ct : Value) (us : List Value), us.length = 4 → bindArgs (PySem.W.fnOf "is_factor" "is_factor" (defArgs s_is_factor) (defBody s_is_factor) (defScope s_is_factor) .none kV doc pm an cdv ct) ⟨us, []⟩ = pure ((["factor", "target", "cells", "inputs"] : List Str).zip us) := fun _ _ _ _ _ _ us hl => match us, hl with | [_, _, _, _], _ => rfl
theorem sc_is_factor : FnScope ["factor", "target", "cells", "inputs"] ["factor", "target", "cells", "inputs"] (defScope s_is_factor) := C8.fnScope_by (by decide +kernel)
abbrev s_is_table : Stmt := topS 14
theorem bi_is_table : ∀ (kV doc pm : Value) (an : Option Addr) (cdv ct : Value) (us : List Value), us.length = 2 → bindArgs (PySem.W.fnOf "is_table" "is_table" (defArgs s_is_table) (defBody s_is_table) (defScope s_is_table) .none kV doc pm an cdv ct) ⟨us, []⟩ = pure ((["table", "modulus"] : List Str).zip us) := fun _ _ _ _ _ _ us hl => match us, hl with | [_, _], _ => rfl
theorem sc_is_table : FnScope ["table", "modulus", "row", "entry"] ["table", "modulus"] (defScope s_is_table) := C8.fnScope_by (by decide +kernel)
abbrev s_is_add : Stmt := topS 15
theorem bi_is_add : ∀ (kV doc pm : Value) (an : Option Addr) (cdv ct : Value) (us : List Value), us.length = 4 → bindArgs (PySem.W.fnOf "is_add" "is_add" (defArgs s_is_add) (defBody s_is_add) (defScope s_is_add) .none kV doc pm an cdv ct) ⟨us, []⟩ = pure ((["step", "modulus", "cells", "inputs"] : List Str).zip us) := fun _ _ _ _ _ _ us hl => match us, hl with | [_, _, _, _], _ => rfl
theorem sc_is_add : FnScope ["step", "modulus", "cells", "inputs", "_", "target", "coefficient", "factors", "factor"] ["step", "modulus", "cells", "inputs"] (defScope s_is_add) := C8.fnScope_by (by decide +kernel)
abbrev s_is_look : Stmt := topS 16
theorem bi_is_look : ∀ (kV doc pm : Value) (an : Option Addr) (cdv ct : Value) (us : List Value), us.length = 3 → bindArgs (PySem.W.fnOf "is_look" "is_look" (defArgs s_is_look) (defBody s_is_look) (defScope s_is_look) .none kV doc pm an cdv ct) ⟨us, []⟩ = pure ((["step", "modulus", "cells"] : List Str).zip us) := fun _ _ _ _ _ _ us hl => match us, hl with | [_, _, _], _ => rfl
theorem sc_is_look : FnScope ["step", "modulus", "cells", "_", "target", "sign", "table", "a", "b", "cell"] ["step", "modulus", "cells"] (defScope s_is_look) := C8.fnScope_by (by decide +kernel)
abbrev s_is_step : Stmt := topS 17
theorem bi_is_step : ∀ (kV doc pm : Value) (an : Option Addr) (cdv ct : Value) (us : List Value), us.length = 4 → bindArgs (PySem.W.fnOf "is_step" "is_step" (defArgs s_is_step) (defBody s_is_step) (defScope s_is_step) .none kV doc pm an cdv ct) ⟨us, []⟩ = pure ((["step", "modulus", "cells", "inputs"] : List Str).zip us) := fun _ _ _ _ _ _ us hl => match us, hl with | [_, _, _, _], _ => rfl
theorem sc_is_step : FnScope ["step", "modulus", "cells", "inputs"] ["step", "modulus", "cells", "inputs"] (defScope s_is_step) := C8.fnScope_by (by decide +kernel)
def spFactor : Sp := fun vs H Q _ => ∃ (f : Fac) (t c n : Int) (v : V), vs = [v, .int t, .int c, .int n] ∧ Rp H f.d v ∧ f.ok t c n ∧ Q (.bl true) H
def spTable : Sp := fun vs H Q _ => ∃ (tb : List (List Int)) (m : Int) (v : V), vs = [v, .int m] ∧ Rp H (tabD tb) v ∧ IsTab m tb ∧ (tb.length : Int) ≤ m ∧ Q (.bl true) H
section
variable {P : Program} {w : World} {K : PySem.W.Frag} {mg : Str → Option Value} {base : Heap}
theorem cal_is_factor (T : Gs mg) (c_is_number : C8.Cal P w K mg base 2 "is_number" spIsNum []) (F : DefAt K mg "is_factor" s_is_factor) : C8.Cal P w K mg base 3 "is_factor" spFactor [] := by
  refine cal_of F sc_is_factor bi_is_factor (fun vs H Q E h => ?_) (fun f cdv A outer s H vs Q E hr h => ?_)
  · obtain ⟨n, t, p, x, y, rfl, _⟩ := h
    rfl
  · refine ⟨_, (pss_cons (ps_if (PW.pt (pw_or (pt_not (pt_val (pe_callB call_isi (by rfl) T.n_isinstance (by decide +kernel) (pa_cons (pv 0) (pa_cons (pe_bltn (v := .ty "tuple") rfl T.n_tuple (by decide +kernel) rfl) pa_nil))))) (pw_or1 (pt_cmpR op_ne (pe_callB b_len (by rfl) T.n_len PySem.boot_len (pa_cons (pv 0) pa_nil)) pe_int (nomark _))))) (pss_one (ps_ret pe_bl)) pss_nil)
      (pss_cons (ps_if (pt_cmpR op_eq (pe_ix ix_seq (pv 0) pe_int (fun _ _ => rfl)) pe_str (nomark _)) (pss_one (ps_ret (pe_and (C8.pe_c c_is_number hr (by first | decide | omega) rfl (pa_cons (pe_ix ix_seq (pv 0) pe_int (fun _ _ => rfl)) (pa_cons (pv 2) pa_nil))) (pe_one (pe_cmpR op_ne (pe_ix ix_seq (pv 0) pe_int (fun _ _ => rfl)) (pv 1) (nomark _)))))) pss_nil)
      (pss_one (ps_ret (pe_and (pe_cmpR op_eq (pe_ix ix_seq (pv 0) pe_int (fun _ _ => rfl)) pe_str (nomark _)) (pe_one (C8.pe_c c_is_number hr (by first | decide | omega) rfl (pa_cons (pe_ix ix_seq (pv 0) pe_int (fun _ _ => rfl)) (pa_cons (pv 3) pa_nil))))))))), ?_⟩
    obtain ⟨f, t, c, n, v, rfl, hR, ok, k⟩ := h
    cases f with
    | cell i =>
      obtain ⟨a, _, rfl, ha, w1, _, rfl, rfl, w2, _, rfl, rfl, rfl⟩ := hR
      obtain ⟨⟨i0, i1⟩, i2⟩ := ok
      walk_at "rdN4"
      rw [decide_eq_false i2]
      exact k
    | inp i =>
      obtain ⟨a, _, rfl, ha, w1, _, rfl, rfl, w2, _, rfl, rfl, rfl⟩ := hR
      obtain ⟨i0, i1⟩ := ok
      walk_at "rdN4"
      exact k
theorem cal_is_table (T : Gs mg) (c_is_number : C8.Cal P w K mg base 2 "is_number" spIsNum []) (F : DefAt K mg "is_table" s_is_table) : C8.Cal P w K mg base 3 "is_table" spTable [] := by
  refine cal_of F sc_is_table bi_is_table (fun vs H Q E h => ?_) (fun f cdv A outer s H vs Q E hr h => ?_)
  · obtain ⟨n, t, p, rfl, _⟩ := h
    rfl
  · refine ⟨_, (pss_cons (ps_if (PW.pt (pw_or (pt_not (pt_val (pe_callB call_isi (by rfl) T.n_isinstance (by decide +kernel) (pa_cons (pv 0) (pa_cons (pe_bltn (v := .ty "tuple") rfl T.n_tuple (by decide +kernel) rfl) pa_nil))))) (pw_or1 (pt_not (pt_chain op_le op_le pe_int (pe_callB b_len (by rfl) T.n_len PySem.boot_len (pa_cons (pv 0) pa_nil)) (pv 1)))))) (pss_one (ps_ret pe_bl)) pss_nil)
      (pss_cons (ps_for PassesOwn.never rfl (pi_tup (pv 0)) (pg_name (i := 2) sc_is_table.nd rfl (by first | exact Or.inl rfl | exact Or.inr rfl)) (pss_cons (ps_if (PW.pt (pw_or (pt_not (pt_val (pe_callB call_isi (by rfl) T.n_isinstance (by decide +kernel) (pa_cons (pv 2) (pa_cons (pe_bltn (v := .ty "tuple") rfl T.n_tuple (by decide +kernel) rfl) pa_nil))))) (pw_or1 (pt_cmpR op_ne (pe_callB b_len (by rfl) T.n_len PySem.boot_len (pa_cons (pv 2) pa_nil)) (pe_callB b_len (by rfl) T.n_len PySem.boot_len (pa_cons (pv 0) pa_nil)) (nomark _))))) (pss_one (ps_ret pe_bl)) pss_nil)
      (pss_one (ps_for PassesOwn.never rfl (pi_tup (pv 2)) (pg_name (i := 3) sc_is_table.nd rfl (by first | exact Or.inl rfl | exact Or.inr rfl)) (pss_one (ps_if (pt_not (pt_val (C8.pe_c c_is_number hr (by first | decide | omega) rfl (pa_cons (pv 3) (pa_cons (pv 1) pa_nil))))) (pss_one (ps_ret pe_bl)) pss_nil))))))
      (pss_one (ps_ret pe_bl)))), ?_⟩
    obtain ⟨tb, m, v, rfl, hR, tab, le, k⟩ := h
    obtain ⟨a, vs, rfl, ha, hl⟩ := hR
    have hlen := hl.len
    rw [List.length_map] at hlen
    have hpos := tab.pos
    walk_at "rdN4"
    refine n_forT (fun i σ H' => ∃ u1 u2 : Option V, σ = [some (.ref a), some (.int m), u1, u2] ∧ H' = H) ha ⟨_, _, rfl, rfl⟩ (fun i σ H' _ h => by obtain ⟨_, _, _, rfl⟩ := h; exact ha) ?_ ?_
    · rintro i x σ H' hx ⟨u1, u2, rfl, rfl⟩
      obtain ⟨dr, hdr, hrv⟩ := hl.at hx
      obtain ⟨row, hrow, rfl⟩ := Option.map_eq_some_iff.mp (by rwa [List.getElem?_map] at hdr)
      obtain ⟨b, vs2, rfl, hb, hl2⟩ := hrv
      have e3 := RpL.eq_ints hl2
      subst e3
      have hmem := List.mem_of_getElem? hrow
      have hsq := tab.sq _ hmem
      have hrl : (((row.map V.int).length : Nat) : Int) = (vs.length : Nat) := by rw [List.length_map, hsq, hlen]
      walk_at "rdN4"
      refine n_forT (fun i σ H1 => ∃ u2 : Option V, σ = [some (.ref a), some (.int m), some (.ref b), u2] ∧ H1 = H') hb ⟨_, rfl, rfl⟩ (fun i σ H1 _ h => by obtain ⟨_, _, rfl⟩ := h; exact hb) ?_ ?_
      · rintro j x σ H1 hx ⟨u2, rfl, rfl⟩
        obtain ⟨en, hen, rfl⟩ := map_at hx
        have hbd := tab.bd _ hmem _ (List.mem_of_getElem? hen)
        walk_at "rdN4"
        exact ⟨_, rfl, rfl⟩
      · rintro σ H1 ⟨u2, rfl, rfl⟩
        walk_at "rdN4"
        exact ⟨_, _, rfl, rfl⟩
    · rintro σ H' ⟨u1, u2, rfl, rfl⟩
      walk_at "rdN4"
      exact k
def spAdd : Sp := fun vs H Q _ => ∃ (t k : Int) (fs : List Fac) (m c n : Int) (v : V), vs = [v, .int m, .int c, .int n] ∧ Rp H (Step.add t k fs).d v ∧ (Step.add t k fs).ok m c n ∧ Q (.bl true) H
def spLook : Sp := fun vs H Q _ => ∃ (t s : Int) (tb : List (List Int)) (a b m c : Int) (v : V), vs = [v, .int m, .int c] ∧ Rp H (Step.table t s tb a b).d v ∧ Look m c t s tb a b ∧ ∀ H', Same H H' → Q (.bl true) H'
def spStep : Sp := fun vs H Q _ => ∃ (s : Step) (m c n : Int) (v : V), vs = [v, .int m, .int c, .int n] ∧ Rp H s.d v ∧ s.ok m c n ∧ 2 ≤ m ∧ m ≤ 1000000000 ∧ ∀ H', Same H H' → Q (.bl true) H'
theorem cal_is_add (T : Gs mg) (c_is_number : C8.Cal P w K mg base 2 "is_number" spIsNum []) (c_is_factor : C8.Cal P w K mg base 3 "is_factor" spFactor []) (F : DefAt K mg "is_add" s_is_add) : C8.Cal P w K mg base 4 "is_add" spAdd [] := by
  refine cal_of F sc_is_add bi_is_add (fun vs H Q E h => ?_) (fun f cdv A outer s H vs Q E hr h => ?_)
  · obtain ⟨t, k, fs, m, c, n, v, rfl, _⟩ := h
    rfl
  · refine ⟨_, (pss_cons (ps_asg (pv 0) (pg_tup rfl (pgs_cons (pg_name (i := 4) sc_is_add.nd rfl (by first | exact Or.inl rfl | exact Or.inr rfl)) (pgs_cons (pg_name (i := 5) sc_is_add.nd rfl (by first | exact Or.inl rfl | exact Or.inr rfl)) (pgs_cons (pg_name (i := 6) sc_is_add.nd rfl (by first | exact Or.inl rfl | exact Or.inr rfl)) (pgs_cons (pg_name (i := 7) sc_is_add.nd rfl (by first | exact Or.inl rfl | exact Or.inr rfl)) pgs_nil))))))
      (pss_cons (ps_if (PW.pt (pw_or (pt_not (pt_val (C8.pe_c c_is_number hr (by first | decide | omega) rfl (pa_cons (pv 5) (pa_cons (pv 2) pa_nil))))) (pw_or1 (pt_not (pt_val (C8.pe_c c_is_number hr (by first | decide | omega) rfl (pa_cons (pv 6) (pa_cons (pv 1) pa_nil)))))))) (pss_one (ps_ret pe_bl)) pss_nil)
      (pss_cons (ps_if (PW.pt (pw_or (pt_not (pt_val (pe_callB call_isi (by rfl) T.n_isinstance (by decide +kernel) (pa_cons (pv 7) (pa_cons (pe_bltn (v := .ty "tuple") rfl T.n_tuple (by decide +kernel) rfl) pa_nil))))) (pw_or1 (pt_cmpR op_gt (pe_callB b_len (by rfl) T.n_len PySem.boot_len (pa_cons (pv 7) pa_nil)) (C8.pe_gc rfl T.c_FACTORS) (nomark _))))) (pss_one (ps_ret pe_bl)) pss_nil)
      (pss_cons (ps_for PassesOwn.never rfl (pi_tup (pv 7)) (pg_name (i := 8) sc_is_add.nd rfl (by first | exact Or.inl rfl | exact Or.inr rfl)) (pss_one (ps_if (pt_not (pt_val (C8.pe_c c_is_factor hr (by first | decide | omega) rfl (pa_cons (pv 8) (pa_cons (pv 5) (pa_cons (pv 2) (pa_cons (pv 3) pa_nil))))))) (pss_one (ps_ret pe_bl)) pss_nil)))
      (pss_one (ps_ret pe_bl)))))), ?_⟩
    obtain ⟨t, co, fs, m, c, n, v, rfl, hR, ok, k⟩ := h
    obtain ⟨a, _, rfl, ha, w1, _, rfl, rfl, w2, _, rfl, rfl, w3, _, rfl, rfl, w4, _, rfl, ⟨b, vs, rfl, hb, hl⟩, rfl⟩ := hR
    obtain ⟨⟨t0, t1⟩, ⟨k0, k1⟩, hf3, hf⟩ := ok
    have hlen := hl.len
    rw [List.length_map] at hlen
    walk_at "rdN4"
    refine n_forT (fun i σ H' => ∃ u1 : Option V, σ = [some (.ref a), some (.int m), some (.int c), some (.int n), some (.str "add"), some (.int t), some (.int co), some (.ref b), u1] ∧ H' = H) hb ⟨_, rfl, rfl⟩ (fun i σ H' _ h => by obtain ⟨_, _, rfl⟩ := h; exact hb) ?_ ?_
    · rintro i x σ H' hx ⟨u1, rfl, rfl⟩
      obtain ⟨df, hdf, hfv⟩ := hl.at hx
      obtain ⟨fc, hfc, rfl⟩ := Option.map_eq_some_iff.mp (by rwa [List.getElem?_map] at hdf)
      walk_at "rdN4"
      refine ⟨fc, t, c, n, x, rfl, hfv, hf _ (List.mem_of_getElem? hfc), ?_⟩
      walk_at "rdN4"
      exact ⟨_, rfl, rfl⟩
    · rintro σ H' ⟨u1, rfl, rfl⟩
      walk_at "rdN4"
      exact k
theorem cal_is_look (T : Gs mg) (c_is_number : C8.Cal P w K mg base 2 "is_number" spIsNum []) (c_is_integer : C8.Cal P w K mg base 1 "is_integer" spIsInt []) (c_is_table : C8.Cal P w K mg base 3 "is_table" spTable []) (F : DefAt K mg "is_look" s_is_look) : C8.Cal P w K mg base 4 "is_look" spLook [] := by
  refine cal_of F sc_is_look bi_is_look (fun vs H Q E h => ?_) (fun f cdv A outer s H vs Q E hr h => ?_)
  · obtain ⟨t, s, tb, a, b, m, c, v, rfl, _⟩ := h
    rfl
  · refine ⟨_, (pss_cons (ps_asg (pv 0) (pg_tup rfl (pgs_cons (pg_name (i := 3) sc_is_look.nd rfl (by first | exact Or.inl rfl | exact Or.inr rfl)) (pgs_cons (pg_name (i := 4) sc_is_look.nd rfl (by first | exact Or.inl rfl | exact Or.inr rfl)) (pgs_cons (pg_name (i := 5) sc_is_look.nd rfl (by first | exact Or.inl rfl | exact Or.inr rfl)) (pgs_cons (pg_name (i := 6) sc_is_look.nd rfl (by first | exact Or.inl rfl | exact Or.inr rfl)) (pgs_cons (pg_name (i := 7) sc_is_look.nd rfl (by first | exact Or.inl rfl | exact Or.inr rfl)) (pgs_cons (pg_name (i := 8) sc_is_look.nd rfl (by first | exact Or.inl rfl | exact Or.inr rfl)) pgs_nil))))))))
      (pss_cons (ps_for PassesOwn.never rfl (pi_tup (pe_tup (pa_cons (pv 4) (pa_cons (pv 7) (pa_cons (pv 8) pa_nil))))) (pg_name (i := 9) sc_is_look.nd rfl (by first | exact Or.inl rfl | exact Or.inr rfl)) (pss_one (ps_if (pt_not (pt_val (C8.pe_c c_is_number hr (by first | decide | omega) rfl (pa_cons (pv 9) (pa_cons (pv 2) pa_nil))))) (pss_one (ps_ret pe_bl)) pss_nil)))
      (pss_cons (ps_if (PW.pt (pw_or (pt_cmpR op_eq (pv 4) (pv 7) (nomark _)) (pw_or (pt_cmpR op_eq (pv 4) (pv 8) (nomark _)) (pw_or (pt_cmpR op_eq (pv 7) (pv 8) (nomark _)) (pw_or1 (pt_not (pt_val (C8.pe_c c_is_integer hr (by first | decide | omega) rfl (pa_cons (pv 5) pa_nil))))))))) (pss_one (ps_ret pe_bl)) pss_nil)
      (pss_cons (ps_if (PW.pt (pw_and (pt_cmpR op_ne (pv 5) pe_int (nomark _)) (pw_and1 (pt_cmpR op_ne (pv 5) (pe_op op_sub (pv 1) pe_int) (nomark _))))) (pss_one (ps_ret pe_bl)) pss_nil)
      (pss_one (ps_ret (C8.pe_c c_is_table hr (by first | decide | omega) rfl (pa_cons (pv 6) (pa_cons (pv 1) pa_nil))))))))), ?_⟩
    obtain ⟨t, sg, tb, a, b, m, c, v, rfl, hR, lk, k⟩ := h
    obtain ⟨p, _, rfl, hp, w1, _, rfl, rfl, w2, _, rfl, rfl, w3, _, rfl, rfl, w4, _, rfl, hT, w5, _, rfl, rfl, w6, _, rfl, rfl, rfl⟩ := hR
    obtain ⟨t0, t1⟩ := lk.ht
    obtain ⟨a0, a1⟩ := lk.ha
    obtain ⟨b0, b1⟩ := lk.hb
    have hta := lk.hta
    have htb := lk.htb
    have hab := lk.hab
    walk_at "rdN4"
    refine n_tup (Nat.le_of_ble_eq_true rfl) fun q H1 nq s1 hq => ?_
    walk_at "rdN4"
    refine n_forT (fun i σ H' => ∃ u1 : Option V, σ = [some (.ref p), some (.int m), some (.int c), some (.str "table"), some (.int t), some (.int sg), some w4, some (.int a), some (.int b), u1] ∧ H' = H1) hq ⟨_, rfl, rfl⟩ (fun i σ H' _ h => by obtain ⟨_, _, rfl⟩ := h; exact hq) ?_ ?_
    · rintro i x σ H' hx ⟨u1, rfl, rfl⟩
      have hc : ∃ z : Int, x = .int z ∧ 0 ≤ z ∧ z < c := by
        rcases i with _ | _ | _ | i
        · exact ⟨t, by simpa using hx.symm, t0, t1⟩
        · exact ⟨a, by simpa using hx.symm, a0, a1⟩
        · exact ⟨b, by simpa using hx.symm, b0, b1⟩
        · simp at hx
      obtain ⟨z, rfl, z0, z1⟩ := hc
      walk_at "rdN4"
      exact ⟨_, rfl, rfl⟩
    · rintro σ H' ⟨u1, rfl, rfl⟩
      have kk := k H' s1
      have hT' := hT.same s1
      rcases lk.hs with e | e
      · subst e
        walk_at "rdN4"
        exact ⟨tb, m, w4, rfl, hT', lk.tab, lk.le, kk⟩
      · by_cases e2 : sg = 1
        · subst e2
          walk_at "rdN4"
          exact ⟨tb, m, w4, rfl, hT', lk.tab, lk.le, kk⟩
        · walk_at "rdN4"
          exact ⟨tb, m, w4, rfl, hT', lk.tab, lk.le, kk⟩
theorem cal_is_step (T : Gs mg) (c_is_number : C8.Cal P w K mg base 2 "is_number" spIsNum []) (c_inverse_of : C8.Cal P w K mg base 1 "inverse_of" spInv []) (c_is_add : C8.Cal P w K mg base 4 "is_add" spAdd []) (c_is_look : C8.Cal P w K mg base 4 "is_look" spLook []) (F : DefAt K mg "is_step" s_is_step) : C8.Cal P w K mg base 5 "is_step" spStep [] := by
  refine cal_of F sc_is_step bi_is_step (fun vs H Q E h => ?_) (fun f cdv A outer s H vs Q E hr h => ?_)
  · obtain ⟨s, m, c, n, v, rfl, _⟩ := h
    rfl
  · refine ⟨_, (pss_cons (ps_if (PW.pt (pw_or (pt_not (pt_val (pe_callB call_isi (by rfl) T.n_isinstance (by decide +kernel) (pa_cons (pv 0) (pa_cons (pe_bltn (v := .ty "tuple") rfl T.n_tuple (by decide +kernel) rfl) pa_nil))))) (pw_or1 (pt_cmpR op_lt (pe_callB b_len (by rfl) T.n_len PySem.boot_len (pa_cons (pv 0) pa_nil)) pe_int (nomark _))))) (pss_one (ps_ret pe_bl)) pss_nil)
      (pss_cons (ps_if (PW.pt (pw_and (pt_cmpR op_eq (pe_ix ix_seq (pv 0) pe_int (fun _ _ => rfl)) pe_str (nomark _)) (pw_and1 (pt_cmpR op_eq (pe_callB b_len (by rfl) T.n_len PySem.boot_len (pa_cons (pv 0) pa_nil)) pe_int (nomark _))))) (pss_one (ps_ret (C8.pe_c c_is_add hr (by first | decide | omega) rfl (pa_cons (pv 0) (pa_cons (pv 1) (pa_cons (pv 2) (pa_cons (pv 3) pa_nil))))))) pss_nil)
      (pss_cons (ps_if (PW.pt (pw_and (pt_cmpR op_eq (pe_ix ix_seq (pv 0) pe_int (fun _ _ => rfl)) pe_str (nomark _)) (pw_and1 (pt_cmpR op_eq (pe_callB b_len (by rfl) T.n_len PySem.boot_len (pa_cons (pv 0) pa_nil)) pe_int (nomark _))))) (pss_cons (ps_if (PW.pt (pw_or (pt_not (pt_val (C8.pe_c c_is_number hr (by first | decide | omega) rfl (pa_cons (pe_ix ix_seq (pv 0) pe_int (fun _ _ => rfl)) (pa_cons (pv 2) pa_nil))))) (pw_or1 (pt_not (pt_val (C8.pe_c c_is_number hr (by first | decide | omega) rfl (pa_cons (pe_ix ix_seq (pv 0) pe_int (fun _ _ => rfl)) (pa_cons (pv 1) pa_nil)))))))) (pss_one (ps_ret pe_bl)) pss_nil)
      (pss_one (ps_ret (pe_cmpR op_notN (C8.pe_c c_inverse_of hr (by first | decide | omega) rfl (pa_cons (pe_ix ix_seq (pv 0) pe_int (fun _ _ => rfl)) (pa_cons (pv 1) pa_nil))) pe_non (nomark _))))) pss_nil)
      (pss_cons (ps_if (PW.pt (pw_and (pt_cmpR op_eq (pe_ix ix_seq (pv 0) pe_int (fun _ _ => rfl)) pe_str (nomark _)) (pw_and1 (pt_cmpR op_eq (pe_callB b_len (by rfl) T.n_len PySem.boot_len (pa_cons (pv 0) pa_nil)) pe_int (nomark _))))) (pss_cons (ps_if (PW.pt (pw_or (pt_not (pt_val (C8.pe_c c_is_number hr (by first | decide | omega) rfl (pa_cons (pe_ix ix_seq (pv 0) pe_int (fun _ _ => rfl)) (pa_cons (pv 2) pa_nil))))) (pw_or1 (pt_not (pt_val (C8.pe_c c_is_number hr (by first | decide | omega) rfl (pa_cons (pe_ix ix_seq (pv 0) pe_int (fun _ _ => rfl)) (pa_cons (pv 2) pa_nil)))))))) (pss_one (ps_ret pe_bl)) pss_nil)
      (pss_one (ps_ret (pe_cmpR op_ne (pe_ix ix_seq (pv 0) pe_int (fun _ _ => rfl)) (pe_ix ix_seq (pv 0) pe_int (fun _ _ => rfl)) (nomark _))))) pss_nil)
      (pss_one (ps_ret (pe_and (pe_cmpR op_eq (pe_ix ix_seq (pv 0) pe_int (fun _ _ => rfl)) pe_str (nomark _)) (pe_and (pe_cmpR op_eq (pe_callB b_len (by rfl) T.n_len PySem.boot_len (pa_cons (pv 0) pa_nil)) pe_int (nomark _)) (pe_one (C8.pe_c c_is_look hr (by first | decide | omega) rfl (pa_cons (pv 0) (pa_cons (pv 1) (pa_cons (pv 2) pa_nil))))))))))))), ?_⟩
    obtain ⟨s, m, c, n, v, rfl, hR, ok, m2, m9, k⟩ := h
    have hR0 := hR
    cases s with
    | add t co fs =>
      obtain ⟨a, _, rfl, ha, w1, _, rfl, rfl, w2, _, rfl, rfl, w3, _, rfl, rfl, w4, _, rfl, hF, rfl⟩ := hR
      walk_at "rdN4"
      exact ⟨t, co, fs, m, c, n, _, rfl, hR0, ok, k H (Same.refl H)⟩
    | scale t co =>
      obtain ⟨a, _, rfl, ha, w1, _, rfl, rfl, w2, _, rfl, rfl, w3, _, rfl, rfl, rfl⟩ := hR
      obtain ⟨⟨t0, t1⟩, ⟨k0, k1⟩, hg⟩ := ok
      walk_at "rdN4"
      refine ⟨co, m, rfl, m2, m9, fun _ H' s' => ?_, fun z => absurd hg z⟩
      walk_at "rdN4"
      exact ⟨rfl, k H' s'⟩
    | swap a b =>
      obtain ⟨p, _, rfl, ha, w1, _, rfl, rfl, w2, _, rfl, rfl, w3, _, rfl, rfl, rfl⟩ := hR
      obtain ⟨⟨t0, t1⟩, ⟨k0, k1⟩, hg⟩ := ok
      walk_at "rdN4"
      rw [decide_eq_false hg]
      exact k H (Same.refl H)
    | table t sg tb a b =>
      obtain ⟨p, _, rfl, hp, w1, _, rfl, rfl, w2, _, rfl, rfl, w3, _, rfl, rfl, w4, _, rfl, hT, w5, _, rfl, rfl, w6, _, rfl, rfl, rfl⟩ := hR
      walk_at "rdN4"
      exact ⟨t, sg, tb, a, b, m, c, _, rfl, hR0, ok, k⟩
end
end Bf
local macro_rules | `(tactic| walk_at "pfN5") => `(tactic| first | decide +kernel | omega | assumption | rfl | (simp only [List.length_cons, List.length_nil]; omega))
local macro_rules | `(tactic| walk_at "rd1N5") => `(tactic| first
  | with_reducible refine Bf.r_seq ?_
  | with_reducible refine Bf.r_asg ?_
  | with_reducible refine Bf.r_var (by with_unfolding_all rfl) ?_
  | with_reducible refine Bf.r_c ?_
  | with_reducible refine Bf.r_name ?_
  | with_reducible refine Bf.r_ret ?_
  | with_reducible refine Bf.r_op ?_
  | with_reducible refine Bf.r_I0 ?_
  | ((with_reducible refine Bf.r_I ?c ?_); (case c => first | decide | (show (0 : Int) < _; omega) | (refine Or.inl ⟨?_, ?_⟩ <;> omega) | (refine Or.inr ⟨?_, ?_⟩ <;> omega) | (refine And.intro ?_ ?_ <;> omega)))
  | with_reducible refine Bf.r_ifS ?_
  | with_reducible refine Bf.r_test ?_
  | with_reducible refine Bf.r_isbl ?_
  | with_reducible refine Bf.r_eqI ?_
  | with_reducible refine Bf.r_neI ?_
  | with_reducible refine Bf.r_eqS ?_
  | with_reducible refine Bf.r_neS ?_
  | with_reducible refine Bf.r_cons ?_
  | with_reducible refine Bf.r_nil ?_
  | with_reducible refine Bf.r_CB ?_
  | with_reducible refine Bf.r_call ?_
  | with_reducible refine Bf.i_t ?_
  | with_reducible refine Bf.i_f ?_
  | with_reducible refine Bf.i_nt ?_
  | with_reducible refine Bf.i_nf ?_
  | with_reducible refine Bf.r_ixT (by assumption) (by with_unfolding_all rfl) ?_
  | with_reducible refine Bf.r_ixL (by assumption) (by with_unfolding_all rfl) ?_
  | with_reducible refine Bf.r_fld ?_
  | ((with_reducible refine Bf.r_fat (by assumption) ?c ?n (by with_unfolding_all rfl) ?_); (case c => assumption); (case n => assumption))
  | with_reducible refine Bf.r_par ?_
  | with_reducible refine Bf.r_two ?_
  | with_reducible refine Bf.r_aug (by with_unfolding_all rfl) ?_
  | with_reducible refine Bf.r_ip ?_
  | with_reducible refine Bf.r_app (by with_unfolding_all rfl) (by assumption) ?_
  | with_reducible refine Bf.r_next ?_
  | with_reducible refine Bf.r_cont ?_
  | with_reducible refine Bf.r_drop ?_
  | with_reducible refine Bf.r_and ?_
  | with_reducible refine Bf.r_or ?_
  | with_reducible refine Bf.r_not ?_
  | with_reducible refine Bf.r_andV ?_
  | with_reducible refine Bf.r_orV ?_
  | with_reducible refine Bf.r_notV ?_
  | with_reducible refine Bf.r_chain ?_
  | with_reducible refine Bf.r_B ?_
  | with_reducible refine Bf.r_ifE ?_
  | with_reducible refine Bf.r_un ?_
  | with_reducible refine Bf.r_U ?_
  | with_reducible refine Bf.r_tup ?_
  | with_reducible refine Bf.r_lst ?_
  | with_reducible refine Bf.r_lenT (by assumption) ?_
  | with_reducible refine Bf.r_lenL (by assumption) ?_
  | with_reducible refine Bf.r_int ?_
  | with_reducible refine Bf.r_max2 ?_
  | with_reducible refine Bf.r_min2 ?_
  | with_reducible refine Bf.isi_ Bf.ty_i Bf.kb_ii ?_
  | with_reducible refine Bf.isi_ Bf.ty_i Bf.kb_ib ?_
  | with_reducible refine Bf.isi_ Bf.ty_i Bf.kb_is ?_
  | with_reducible refine Bf.isi_ Bf.ty_i Bf.kb_it ?_
  | with_reducible refine Bf.isi_ Bf.ty_i Bf.kb_il ?_
  | with_reducible refine Bf.isi_ Bf.ty_s Bf.kb_si ?_
  | with_reducible refine Bf.isi_ Bf.ty_s Bf.kb_sb ?_
  | with_reducible refine Bf.isi_ Bf.ty_s Bf.kb_ss ?_
  | with_reducible refine Bf.isi_ Bf.ty_s Bf.kb_st ?_
  | with_reducible refine Bf.isi_ Bf.ty_s Bf.kb_sl ?_
  | with_reducible refine Bf.isi_ (Bf.ty_t (by assumption)) Bf.kb_tt ?_
  | with_reducible refine Bf.isi_ (Bf.ty_l (by assumption)) Bf.kb_ll ?_
  | with_reducible refine Bf.isi_ (Bf.ty_t (by assumption)) Bf.kb_tl ?_
  | with_reducible refine Bf.isi_ (Bf.ty_l (by assumption)) Bf.kb_lt ?_
  | with_reducible refine Bf.isi_ Bf.ty_b Bf.kb_bi ?_
  | with_reducible refine Bf.isi_ Bf.ty_b Bf.kb_bb ?_
  | with_reducible refine Bf.isi_ Bf.ty_b Bf.kb_bs ?_
  | with_reducible refine Bf.isi_ Bf.ty_b Bf.kb_bt ?_
  | with_reducible refine Bf.isi_ Bf.ty_b Bf.kb_bL ?_
  | with_reducible refine Bf.isi_ Bf.ty_n Bf.kb_ni ?_
  | with_reducible refine Bf.isi_ Bf.ty_n Bf.kb_nb ?_
  | with_reducible refine Bf.isi_ Bf.ty_n Bf.kb_ns ?_
  | with_reducible refine Bf.isi_ Bf.ty_n Bf.kb_nt ?_
  | with_reducible refine Bf.isi_ Bf.ty_n Bf.kb_nl ?_
  | with_reducible refine Bf.isi_ (Bf.ty_t (by assumption)) Bf.kb_ti ?_
  | with_reducible refine Bf.isi_ (Bf.ty_l (by assumption)) Bf.kb_li ?_
  | with_reducible refine Bf.isi_ (Bf.ty_t (by assumption)) Bf.kb_tb ?_
  | with_reducible refine Bf.isi_ (Bf.ty_l (by assumption)) Bf.kb_lb ?_
  | with_reducible refine Bf.isi_ (Bf.ty_t (by assumption)) Bf.kb_ts ?_
  | with_reducible refine Bf.isi_ (Bf.ty_l (by assumption)) Bf.kb_ls ?_
  | with_reducible refine Bf.r_gtup (by assumption) (by with_unfolding_all rfl) ?_
  | with_reducible refine Bf.r_gcons ?_
  | with_reducible refine Bf.r_gnil ?_
  | with_reducible refine Bf.r_gsub ?_
  | ((with_reducible refine Bf.n_num ?h ?_); (case h => first | assumption | (refine And.intro ?_ ?_ <;> omega)))
  | with_reducible refine Bf.n_isint ?_
  | with_reducible refine Bf.n_mixed ?_
  | with_reducible refine Bf.r_dget ?_
  | with_reducible refine Bf.n_dgetS (by assumption) (by with_unfolding_all rfl) ?_
  | with_reducible refine Bf.r_pcons ?_
  | with_reducible refine Bf.r_pnil ?_
  | with_reducible refine Bf.r_sl ?_
  | with_reducible refine Bf.r_nopart ?_
  | with_reducible refine Bf.r_part ?_
  | with_reducible refine Bf.r_isint ?_
  | with_reducible refine Bf.r_revL ?_
  | with_reducible refine Bf.r_sfld ?_
  | with_reducible refine Bf.r_meth ?_
  | with_reducible refine Bf.n_meth (by assumption) (by with_unfolding_all rfl) ?_
  | with_reducible refine Bf.r_make ?_
  | with_reducible refine Bf.r_turn ?_
  | with_reducible refine Bf.r_wipe (by with_unfolding_all rfl) ?_
  | with_reducible refine Bf.r_yes ?_
  | with_reducible refine Bf.r_lcL ?_
  | with_reducible refine Bf.r_lcT ?_
  | with_reducible refine Bf.r_lcR ?_
  | with_reducible refine Bf.r_forL ?_
  | with_reducible refine Bf.r_forZ ?_
  | with_reducible refine Bf.r_forT ?_
  | with_reducible refine Bf.r_forR ?_
  | with_reducible refine Bf.r_forR2 ?_
  | ((with_reducible refine Bf.i_d1 ?h ?_); (case h => walk_at "pfN5"))
  | ((with_reducible refine Bf.i_d0 ?h ?_); (case h => walk_at "pfN5"))
  | ((with_reducible refine Bf.i_n1 ?h ?_); (case h => walk_at "pfN5"))
  | ((with_reducible refine Bf.i_n0 ?h ?_); (case h => walk_at "pfN5")))
local macro_rules | `(tactic| walk_at "rdN5") => `(tactic| repeat walk_at "rd1N5")
namespace Bf
open PySem L2
abbrev s_inverse_step : Stmt := topS 18
theorem bi_inverse_step : ∀ (kV doc pm : Value) (an : Option Addr) (cdv ct : Value) (us : List Value), us.length = 2 → bindArgs (PySem.W.fnOf "inverse_step" "inverse_step" (defArgs s_inverse_step) (defBody s_inverse_step) (defScope s_inverse_step) .none kV doc pm an cdv ct) ⟨us, []⟩ = pure ((["step", "modulus"] : List Str).zip us) := fun _ _ _ _ _ _ us hl => match us, hl with | [_, _], _ => rfl
theorem sc_inverse_step : FnScope ["step", "modulus"] ["step", "modulus"] (defScope s_inverse_step) := C8.fnScope_by (by decide +kernel)
abbrev s_perform : Stmt := topS 19
theorem bi_perform : ∀ (kV doc pm : Value) (an : Option Addr) (cdv ct : Value) (us : List Value), us.length = 4 → bindArgs (PySem.W.fnOf "perform" "perform" (defArgs s_perform) (defBody s_perform) (defScope s_perform) .none kV doc pm an cdv ct) ⟨us, []⟩ = pure ((["step", "memory", "given", "modulus"] : List Str).zip us) := fun _ _ _ _ _ _ us hl => match us, hl with | [_, _, _, _], _ => rfl
theorem sc_perform : FnScope ["step", "memory", "given", "modulus", "total", "kind", "index", "kept", "value"] ["step", "memory", "given", "modulus"] (defScope s_perform) := C8.fnScope_by (by decide +kernel)
abbrev s_check_steps : Stmt := topS 20
theorem bi_check_steps : ∀ (kV doc pm : Value) (an : Option Addr) (cdv ct : Value) (us : List Value), us.length = 5 → bindArgs (PySem.W.fnOf "check_steps" "check_steps" (defArgs s_check_steps) (defBody s_check_steps) (defScope s_check_steps) .none kV doc pm an cdv ct) ⟨us, []⟩ = pure ((["steps", "modulus", "cells", "inputs", "most"] : List Str).zip us) := fun _ _ _ _ _ _ us hl => match us, hl with | [_, _, _, _, _], _ => rfl
theorem sc_check_steps : FnScope ["steps", "modulus", "cells", "inputs", "most", "looks", "step"] ["steps", "modulus", "cells", "inputs", "most"] (defScope s_check_steps) := C8.fnScope_by (by decide +kernel)
abbrev s_check_numbers : Stmt := topS 26
theorem bi_check_numbers : ∀ (kV doc pm : Value) (an : Option Addr) (cdv ct : Value) (us : List Value), us.length = 3 → bindArgs (PySem.W.fnOf "check_numbers" "check_numbers" (defArgs s_check_numbers) (defBody s_check_numbers) (defScope s_check_numbers) .none kV doc pm an cdv ct) ⟨us, []⟩ = pure ((["values", "many", "modulus"] : List Str).zip us) := fun _ _ _ _ _ _ us hl => match us, hl with | [_, _, _], _ => rfl
theorem sc_check_numbers : FnScope ["values", "many", "modulus", "value"] ["values", "many", "modulus"] (defScope s_check_numbers) := C8.fnScope_by (by decide +kernel)
def spInvStep : Sp := fun vs H Q _ => ∃ (s : Step) (m c n : Int) (v : V), vs = [v, .int m] ∧ Rp H s.d v ∧ s.ok m c n ∧ 2 ≤ m ∧ m ≤ 1000000000 ∧ ∀ v' H', Same H H' → Rp H' (s.inv m).d v' → Q v' H'
def spPerf : Sp := fun vs H Q _ => ∃ (s : Step) (m c n : Int) (v : V) (l g : Addr) (mem given : List Int), vs = [v, .ref l, .ref g, .int m] ∧ Rp H s.d v ∧ s.ok m c n ∧ 2 ≤ m ∧ m ≤ 1000000000 ∧ H l = some (.lst (mem.map V.int)) ∧ H g = some (.lst (given.map V.int)) ∧ Mem m c mem ∧ Mem m n given ∧
  ∀ H', Kp l H H' → H' l = some (.lst ((perf m given mem s).map V.int)) → Q .non H'
def spCheck : Sp := fun vs H Q _ => ∃ (ss : List Step) (m c n most : Int) (p : Addr) (ws : List V), vs = [.ref p, .int m, .int c, .int n, .int most] ∧ H p = some (.lst ws) ∧ RpL H (ss.map Step.d) ws ∧ (∀ s ∈ ss, s.ok m c n) ∧ 2 ≤ m ∧ m ≤ 1000000000 ∧ (ss.length : Int) ≤ most ∧ ((∃ s ∈ ss, s.isTable = true) → Pr m) ∧ ∀ H', Same H H' → Q .non H'
def spNums : Sp := fun vs H Q _ => ∃ (xs : List Int) (m c : Int) (p : Addr), vs = [.ref p, .int c, .int m] ∧ H p = some (.lst (xs.map V.int)) ∧ Mem m c xs ∧ Q .non H
theorem gt_V {l : List Int} {i : Int} (h0 : 0 ≤ i) (h1 : i < l.length) : atI (l.map V.int) i = some (.int (gt l i)) := at_nat h0 (by rw [List.getElem?_map, gt_at h0 h1]; rfl)
theorem set_V {l : List Int} {i : Nat} {x : Int} : (l.map V.int).set i (.int x) = (l.set i x).map V.int := by rw [List.map_set]
theorem tot_bd {m co : Int} {mem given : List Int} (hm : 0 < m) (h0 : 0 ≤ co) (h1 : co < m) : ∀ {fs : List Fac}, 0 ≤ tot m mem given co fs ∧ tot m mem given co fs < m := by
  intro fs
  unfold tot
  induction fs generalizing co with
  | nil => exact ⟨h0, h1⟩
  | cons f r ih => exact ih (Int.emod_nonneg _ (by omega)) (Int.emod_lt_of_pos _ hm)
theorem kind_at {m c n : Int} {s : Step} {H : Hp} {v : V} (h : Rp H s.d v) : ∃ (a : Addr) (xs : List V) (z : Str), v = .ref a ∧ H a = some (.tup xs) ∧ xs[0]? = some (.str z) ∧ decide (z = ("table" : Str)) = s.isTable := by
  cases s with
  | add t k fs =>
    obtain ⟨a, _, rfl, ha, w1, _, rfl, rfl, _⟩ := h
    exact ⟨a, _, _, rfl, ha, rfl, show decide (("add" : Str) = ("table" : Str)) = false by decide +kernel⟩
  | scale t k =>
    obtain ⟨a, _, rfl, ha, w1, _, rfl, rfl, _⟩ := h
    exact ⟨a, _, _, rfl, ha, rfl, show decide (("scale" : Str) = ("table" : Str)) = false by decide +kernel⟩
  | swap t k =>
    obtain ⟨a, _, rfl, ha, w1, _, rfl, rfl, _⟩ := h
    exact ⟨a, _, _, rfl, ha, rfl, show decide (("swap" : Str) = ("table" : Str)) = false by decide +kernel⟩
  | table t k tb b c =>
    obtain ⟨a, _, rfl, ha, w1, _, rfl, rfl, _⟩ := h
    exact ⟨a, _, _, rfl, ha, rfl, show decide (("table" : Str) = ("table" : Str)) = true by decide +kernel⟩
section
variable {P : Program} {w : World} {K : PySem.W.Frag} {mg : Str → Option Value} {base : Heap}
theorem cal_inverse_step (T : Gs mg) (c_inverse_of : C8.Cal P w K mg base 1 "inverse_of" spInv []) (F : DefAt K mg "inverse_step" s_inverse_step) : C8.Cal P w K mg base 2 "inverse_step" spInvStep [] := by
  refine cal_of F sc_inverse_step bi_inverse_step (fun vs H Q E h => ?_) (fun f cdv A outer s H vs Q E hr h => ?_)
  · obtain ⟨s, m, c, n, v, rfl, _⟩ := h
    rfl
  · refine ⟨_, (pss_cons (ps_if (pt_cmpR op_eq (pe_ix ix_seq (pv 0) pe_int (fun _ _ => rfl)) pe_str (nomark _)) (pss_one (ps_ret (pe_tup (pa_cons pe_str (pa_cons (pe_ix ix_seq (pv 0) pe_int (fun _ _ => rfl)) (pa_cons (pe_op op_mod (pe_un un_neg (pe_ix ix_seq (pv 0) pe_int (fun _ _ => rfl))) (pv 1)) (pa_cons (pe_ix ix_seq (pv 0) pe_int (fun _ _ => rfl)) pa_nil))))))) pss_nil)
      (pss_cons (ps_if (pt_cmpR op_eq (pe_ix ix_seq (pv 0) pe_int (fun _ _ => rfl)) pe_str (nomark _)) (pss_one (ps_ret (pe_tup (pa_cons pe_str (pa_cons (pe_ix ix_seq (pv 0) pe_int (fun _ _ => rfl)) (pa_cons (C8.pe_c c_inverse_of hr (by first | decide | omega) rfl (pa_cons (pe_ix ix_seq (pv 0) pe_int (fun _ _ => rfl)) (pa_cons (pv 1) pa_nil))) pa_nil)))))) pss_nil)
      (pss_cons (ps_if (pt_cmpR op_eq (pe_ix ix_seq (pv 0) pe_int (fun _ _ => rfl)) pe_str (nomark _)) (pss_one (ps_ret (pe_op op_catT (pe_tup (pa_cons pe_str (pa_cons (pe_ix ix_seq (pv 0) pe_int (fun _ _ => rfl)) (pa_cons (pe_op op_sub (pv 1) (pe_ix ix_seq (pv 0) pe_int (fun _ _ => rfl))) pa_nil)))) (pe_slice sl_tup (pv 0) (po_some pe_int) po_none)))) pss_nil)
      (pss_one (ps_ret (pv 0)))))), ?_⟩
    obtain ⟨s, m, c, n, v, rfl, hR, ok, m2, m9, k⟩ := h
    have hR0 := hR
    cases s with
    | add t co fs =>
      obtain ⟨a, _, rfl, ha, w1, _, rfl, rfl, w2, _, rfl, rfl, w3, _, rfl, rfl, w4, _, rfl, hF, rfl⟩ := hR
      walk_at "rdN5"
      refine n_tup (Nat.le_of_ble_eq_true rfl) fun q H1 nq s1 hq => ?_
      exact k _ _ s1 ⟨q, _, rfl, hq, _, _, rfl, rfl, _, _, rfl, rfl, _, _, rfl, rfl, _, _, rfl, hF.same s1, rfl⟩
    | scale t co =>
      obtain ⟨a, _, rfl, ha, w1, _, rfl, rfl, w2, _, rfl, rfl, w3, _, rfl, rfl, rfl⟩ := hR
      obtain ⟨⟨t0, t1⟩, ⟨k0, k1⟩, hg⟩ := ok
      walk_at "rdN5"
      refine ⟨co, m, rfl, m2, m9, fun _ H' s' => ?_, fun z => absurd hg z⟩
      walk_at "rdN5"
      refine n_tup (Nat.le_of_ble_eq_true rfl) fun q H1 nq s1 hq => ?_
      exact k _ _ (s'.trans s1) ⟨q, _, rfl, hq, _, _, rfl, rfl, _, _, rfl, rfl, _, _, rfl, rfl, rfl⟩
    | swap a b =>
      obtain ⟨p, _, rfl, ha, w1, _, rfl, rfl, w2, _, rfl, rfl, w3, _, rfl, rfl, rfl⟩ := hR
      walk_at "rdN5"
      exact k _ _ (Same.refl H) hR0
    | table t sg tb a b =>
      obtain ⟨p, _, rfl, hp, w1, _, rfl, rfl, w2, _, rfl, rfl, w3, _, rfl, rfl, w4, _, rfl, hT, w5, _, rfl, rfl, w6, _, rfl, rfl, rfl⟩ := hR
      walk_at "rdN5"
      refine n_tup (Nat.le_of_ble_eq_true rfl) fun q H1 nq s1 hq => ?_
      have hp1 := s1 _ _ hp
      walk_at "rdN5"
      refine n_slT hp1 (fun z => absurd (show (3 : Nat) = 0 from z.1) (by decide)) (cut_from (by decide)) fun q2 H2 nq2 s2 hq2 => ?_
      refine n_catT (s2 _ _ hq) hq2 (by simp) (by simp) (Nat.le_of_ble_eq_true rfl) fun q3 H3 nq3 s3 hq3 => ?_
      exact k _ _ (s1.trans (s2.trans s3)) ⟨q3, _, rfl, hq3, _, _, rfl, rfl, _, _, rfl, rfl, _, _, rfl, rfl, _, _, rfl, hT.same (s1.trans (s2.trans s3)), _, _, rfl, rfl, _, _, rfl, rfl, rfl⟩
theorem cal_check_numbers (T : Gs mg) (c_is_number : C8.Cal P w K mg base 2 "is_number" spIsNum []) (F : DefAt K mg "check_numbers" s_check_numbers) : C8.Cal P w K mg base 3 "check_numbers" spNums [] := by
  refine cal_of F sc_check_numbers bi_check_numbers (fun vs H Q E h => ?_) (fun f cdv A outer s H vs Q E hr h => ?_)
  · obtain ⟨s, m, c, n, rfl, _⟩ := h
    rfl
  · refine ⟨_, (pss_cons (ps_if (PW.pt (pw_or (pt_not (pt_val (pe_callB call_isi (by rfl) T.n_isinstance (by decide +kernel) (pa_cons (pv 0) (pa_cons (pe_bltn (v := .ty "list") rfl T.n_list (by decide +kernel) rfl) pa_nil))))) (pw_or1 (pt_cmpR op_ne (pe_callB b_len (by rfl) T.n_len PySem.boot_len (pa_cons (pv 0) pa_nil)) (pv 1) (nomark _))))) (pss_one (ps_never)) pss_nil)
      (pss_one (ps_for PassesOwn.never rfl (pi_list (pv 0)) (pg_name (i := 3) sc_check_numbers.nd rfl (by first | exact Or.inl rfl | exact Or.inr rfl)) (pss_one (ps_if (pt_not (pt_val (C8.pe_c c_is_number hr (by first | decide | omega) rfl (pa_cons (pv 3) (pa_cons (pv 2) pa_nil))))) (pss_one (ps_never)) pss_nil))))), ?_⟩
    obtain ⟨xs, m, c, p, rfl, hp, hm, k⟩ := h
    have hl : (((xs.map V.int).length : Nat) : Int) = c := by rw [List.length_map]; exact hm.1
    walk_at "rdN5"
    refine n_forL (fun i σ H' => ∃ u1 : Option V, σ = [some (.ref p), some (.int c), some (.int m), u1] ∧ H' = H) hp ⟨_, rfl, rfl⟩ (fun i σ H' _ h => by obtain ⟨_, _, rfl⟩ := h; exact SqL.of hp) ?_ ?_
    · rintro i x σ H' hx ⟨u1, rfl, rfl⟩
      obtain ⟨en, hen, rfl⟩ := map_at hx
      have hb := hm.2 _ (List.mem_of_getElem? hen)
      walk_at "rdN5"
      exact ⟨_, rfl, rfl⟩
    · rintro σ H' ⟨u1, rfl, rfl⟩
      walk_at "rdN5"
      exact k
theorem cal_check_steps (T : Gs mg) (c_is_prime : C8.Cal P w K mg base 1 "is_prime" spPrime []) (c_is_step : C8.Cal P w K mg base 5 "is_step" spStep []) (F : DefAt K mg "check_steps" s_check_steps) : C8.Cal P w K mg base 6 "check_steps" spCheck [] := by
  refine cal_of F sc_check_steps bi_check_steps (fun vs H Q E h => ?_) (fun f cdv A outer s H vs Q E hr h => ?_)
  · obtain ⟨ss, m, c, n, most, p, ws, rfl, _⟩ := h
    rfl
  · refine ⟨_, (pss_cons (ps_if (PW.pt (pw_or (pt_not (pt_val (pe_callB call_isi (by rfl) T.n_isinstance (by decide +kernel) (pa_cons (pv 0) (pa_cons (pe_bltn (v := .ty "list") rfl T.n_list (by decide +kernel) rfl) pa_nil))))) (pw_or1 (pt_cmpR op_gt (pe_callB b_len (by rfl) T.n_len PySem.boot_len (pa_cons (pv 0) pa_nil)) (pv 4) (nomark _))))) (pss_one (ps_never)) pss_nil)
      (pss_cons (ps_set (i := 5) sc_check_steps.nd rfl (by first | exact Or.inl rfl | exact Or.inr rfl) pe_bl)
      (pss_cons (ps_for PassesOwn.never rfl (pi_list (pv 0)) (pg_name (i := 6) sc_check_steps.nd rfl (by first | exact Or.inl rfl | exact Or.inr rfl)) (pss_cons (ps_if (pt_not (pt_val (C8.pe_c c_is_step hr (by first | decide | omega) rfl (pa_cons (pv 6) (pa_cons (pv 1) (pa_cons (pv 2) (pa_cons (pv 3) pa_nil))))))) (pss_one (ps_never)) pss_nil)
      (pss_one (ps_set (i := 5) sc_check_steps.nd rfl (by first | exact Or.inl rfl | exact Or.inr rfl) (pe_or (pv 5) (pe_one (pe_cmpR op_eq (pe_ix ix_seq (pv 6) pe_int (fun _ _ => rfl)) pe_str (nomark _))))))))
      (pss_one (ps_if (PW.pt (pw_and (pt_val (pv 5)) (pw_and1 (pt_not (pt_val (C8.pe_c c_is_prime hr (by first | decide | omega) rfl (pa_cons (pv 1) pa_nil))))))) (pss_one (ps_never)) pss_nil))))), ?_⟩
    obtain ⟨ss, m, c, n, most, p, ws, rfl, hp, hl, ok, m2, m9, hmost, hpr, k⟩ := h
    have hlen := hl.len
    rw [List.length_map] at hlen
    walk_at "rdN5"
    refine n_forL (fun i σ H' => ∃ (u1 : Option V), σ = [some (.ref p), some (.int m), some (.int c), some (.int n), some (.int most), some (.bl ((ss.take i).any Step.isTable)), u1] ∧ Same H H') hp ⟨_, rfl, Same.refl H⟩ (fun i σ H' _ h => by obtain ⟨_, _, s1⟩ := h; exact SqL.of (s1 _ _ hp)) ?_ ?_
    · rintro i x σ H' hx ⟨u1, rfl, s1⟩
      obtain ⟨df, hdf, hfv⟩ := hl.at hx
      obtain ⟨st, hst, rfl⟩ := Option.map_eq_some_iff.mp (by rwa [List.getElem?_map] at hdf)
      walk_at "rdN5"
      refine ⟨st, m, c, n, x, rfl, hfv.same s1, ok _ (List.mem_of_getElem? hst), m2, m9, fun H2 s2 => ?_⟩
      walk_at "rdN5"
      obtain ⟨a, xs, z, rfl, ha, h0, hz⟩ := kind_at (m := m) (c := c) (n := n) (hfv.same (s1.trans s2))
      have e : (ss.take (i + 1)).any Step.isTable = ((ss.take i).any Step.isTable || st.isTable) := by
        rw [take_snoc hst, List.any_append]
        simp
      by_cases hb : (ss.take i).any Step.isTable = true
      · rw [hb]
        walk_at "rdN5"
        exact ⟨_, by rw [e, hb]; rfl, s1.trans s2⟩
      · rw [Bool.not_eq_true] at hb
        rw [hb]
        walk_at "rdN5"
        refine r_ixT ha (at_nat (by decide) h0) ?_
        walk_at "rdN5"
        refine ⟨_, by rw [e, hb, hz]; rfl, s1.trans s2⟩
    · rintro σ H' ⟨u1, rfl, s1⟩
      rw [show ws.length = ss.length from hlen, List.take_length]
      by_cases hb : ss.any Step.isTable = true
      · rw [hb]
        walk_at "rdN5"
        refine ⟨m, rfl, m2, by omega, fun _ => ?_, fun z => absurd (hpr (by
          obtain ⟨s, h1, h2⟩ := List.any_eq_true.mp hb
          exact ⟨s, h1, h2⟩)) z⟩
        walk_at "rdN5"
        exact k _ s1
      · rw [Bool.not_eq_true] at hb
        rw [hb]
        walk_at "rdN5"
        exact k _ s1
theorem cal_perform (T : Gs mg) (c_interpolate : C8.Cal P w K mg base 3 "interpolate" spItp []) (F : DefAt K mg "perform" s_perform) : C8.Cal P w K mg base 4 "perform" spPerf [] := by
  refine cal_of F sc_perform bi_perform (fun vs H Q E h => ?_) (fun f cdv A outer s H vs Q E hr h => ?_)
  · obtain ⟨s, m, c, n, v, l, g, mem, given, rfl, _⟩ := h
    rfl
  · refine ⟨_, (pss_one (ps_if (pt_cmpR op_eq (pe_ix ix_seq (pv 0) pe_int (fun _ _ => rfl)) pe_str (nomark _)) (pss_cons (ps_set (i := 4) sc_perform.nd rfl (by first | exact Or.inl rfl | exact Or.inr rfl) (pe_ix ix_seq (pv 0) pe_int (fun _ _ => rfl)))
      (pss_cons (ps_for PassesOwn.never rfl (pi_tup (pe_ix ix_seq (pv 0) pe_int (fun _ _ => rfl))) (pg_tup rfl (pgs_cons (pg_name (i := 5) sc_perform.nd rfl (by first | exact Or.inl rfl | exact Or.inr rfl)) (pgs_cons (pg_name (i := 6) sc_perform.nd rfl (by first | exact Or.inl rfl | exact Or.inr rfl)) pgs_nil))) (pss_one (ps_set (i := 4) sc_perform.nd rfl (by first | exact Or.inl rfl | exact Or.inr rfl) (pe_op op_mod (pe_op op_mul (pv 4) (pe_ifExp (pt_cmpR op_eq (pv 5) pe_str (nomark _)) (pe_ix ix_seq (pv 1) (pv 6) (fun _ _ => rfl)) (pe_ix ix_seq (pv 2) (pv 6) (fun _ _ => rfl)))) (pv 3)))))
      (pss_one (ps_asg (pe_op op_mod (pe_op op_add (pe_ix ix_seq (pv 1) (pe_ix ix_seq (pv 0) pe_int (fun _ _ => rfl)) (fun _ _ => rfl)) (pv 4)) (pv 3)) (pg_sub (pv 1) (pe_ix ix_seq (pv 0) pe_int (fun _ _ => rfl)) set_list))))) (pss_one (ps_if (pt_cmpR op_eq (pe_ix ix_seq (pv 0) pe_int (fun _ _ => rfl)) pe_str (nomark _)) (pss_one (ps_asg (pe_op op_mod (pe_op op_mul (pe_ix ix_seq (pv 1) (pe_ix ix_seq (pv 0) pe_int (fun _ _ => rfl)) (fun _ _ => rfl)) (pe_ix ix_seq (pv 0) pe_int (fun _ _ => rfl))) (pv 3)) (pg_sub (pv 1) (pe_ix ix_seq (pv 0) pe_int (fun _ _ => rfl)) set_list))) (pss_one (ps_if (pt_cmpR op_eq (pe_ix ix_seq (pv 0) pe_int (fun _ _ => rfl)) pe_str (nomark _)) (pss_cons (ps_set (i := 7) sc_perform.nd rfl (by first | exact Or.inl rfl | exact Or.inr rfl) (pe_ix ix_seq (pv 1) (pe_ix ix_seq (pv 0) pe_int (fun _ _ => rfl)) (fun _ _ => rfl)))
      (pss_cons (ps_asg (pe_ix ix_seq (pv 1) (pe_ix ix_seq (pv 0) pe_int (fun _ _ => rfl)) (fun _ _ => rfl)) (pg_sub (pv 1) (pe_ix ix_seq (pv 0) pe_int (fun _ _ => rfl)) set_list))
      (pss_one (ps_asg (pv 7) (pg_sub (pv 1) (pe_ix ix_seq (pv 0) pe_int (fun _ _ => rfl)) set_list))))) (pss_cons (ps_set (i := 8) sc_perform.nd rfl (by first | exact Or.inl rfl | exact Or.inr rfl) (C8.pe_c c_interpolate hr (by first | decide | omega) rfl (pa_cons (pe_ix ix_seq (pv 0) pe_int (fun _ _ => rfl)) (pa_cons (pv 3) (pa_cons (pe_ix ix_seq (pv 1) (pe_ix ix_seq (pv 0) pe_int (fun _ _ => rfl)) (fun _ _ => rfl)) (pa_cons (pe_ix ix_seq (pv 1) (pe_ix ix_seq (pv 0) pe_int (fun _ _ => rfl)) (fun _ _ => rfl)) pa_nil))))))
      (pss_one (ps_asg (pe_op op_mod (pe_op op_add (pe_ix ix_seq (pv 1) (pe_ix ix_seq (pv 0) pe_int (fun _ _ => rfl)) (fun _ _ => rfl)) (pe_op op_mul (pe_ix ix_seq (pv 0) pe_int (fun _ _ => rfl)) (pv 8))) (pv 3)) (pg_sub (pv 1) (pe_ix ix_seq (pv 0) pe_int (fun _ _ => rfl)) set_list)))))))))), ?_⟩
    obtain ⟨s, m, c, n, v, l, g, mem, given, rfl, hR, ok, m2, m9, hl, hg, hM, hG, k⟩ := h
    have hR0 := hR
    have hM1 := hM.1
    have hG1 := hG.1
    have hML : ∀ {i : Int}, i < c → i < mem.length := fun h => by omega
    have hGL : ∀ {i : Int}, i < n → i < given.length := fun h => by omega
    cases s with
    | add t co fs =>
      obtain ⟨a, _, rfl, ha, w1, _, rfl, rfl, w2, _, rfl, rfl, w3, _, rfl, rfl, w4, _, rfl, ⟨b, vs, rfl, hb, hF⟩, rfl⟩ := hR
      obtain ⟨⟨t0, t1⟩, ⟨k0, k1⟩, hf3, hf⟩ := ok
      have hlen := hF.len
      rw [List.length_map] at hlen
      walk_at "rdN5"
      refine n_forT (fun i σ H' => ∃ u1 u2 u3 u4 : Option V, σ = [some (.ref a), some (.ref l), some (.ref g), some (.int m), some (.int (tot m mem given co (fs.take i))), u1, u2, u3, u4] ∧ H' = H) hb ⟨_, _, _, _, rfl, rfl⟩ (fun i σ H' _ h => by obtain ⟨_, _, _, _, _, rfl⟩ := h; exact hb) ?_ ?_
      · rintro i x σ H' hx ⟨u1, u2, u3, u4, rfl, rfl⟩
        obtain ⟨df, hdf, hfv⟩ := hF.at hx
        obtain ⟨fc, hfc, rfl⟩ := Option.map_eq_some_iff.mp (by rwa [List.getElem?_map] at hdf)
        have hok := hf _ (List.mem_of_getElem? hfc)
        have e : tot m mem given co (fs.take (i + 1)) = tot m mem given co (fs.take i) * facV mem given fc % m := foldl_take _ _ hfc
        obtain ⟨tb0, tb1⟩ := tot_bd (m := m) (co := co) (mem := mem) (given := given) (by omega) k0 k1 (fs := fs.take i)
        cases fc with
        | cell j =>
          obtain ⟨d, _, rfl, hd, w1, _, rfl, rfl, w2, _, rfl, rfl, rfl⟩ := hfv
          obtain ⟨⟨j0, j1⟩, j2⟩ := hok
          walk_at "rdN5"
          refine r_ixL hl (gt_V j0 (hML j1)) ?_
          walk_at "rdN5"
          exact ⟨_, _, _, _, by rw [e]; rfl, rfl⟩
        | inp j =>
          obtain ⟨d, _, rfl, hd, w1, _, rfl, rfl, w2, _, rfl, rfl, rfl⟩ := hfv
          obtain ⟨j0, j1⟩ := hok
          walk_at "rdN5"
          refine r_ixL hg (gt_V j0 (hGL j1)) ?_
          walk_at "rdN5"
          exact ⟨_, _, _, _, by rw [e]; rfl, rfl⟩
      · rintro σ H' ⟨u1, u2, u3, u4, rfl, rfl⟩
        rw [show vs.length = fs.length from hlen, List.take_length]
        walk_at "rdN5"
        refine r_ixL hl (gt_V t0 (hML t1)) ?_
        walk_at "rdN5"
        refine n_setL hl t0 (by rw [List.length_map]; exact hML t1) fun H2 k2 h2 => ?_
        walk_at "rdN5"
        exact k _ k2 (by rw [h2, set_V, perf_add])
    | scale t co =>
      obtain ⟨a, _, rfl, ha, w1, _, rfl, rfl, w2, _, rfl, rfl, w3, _, rfl, rfl, rfl⟩ := hR
      obtain ⟨⟨t0, t1⟩, ⟨k0, k1⟩, hgc⟩ := ok
      obtain ⟨gb0, gb1⟩ := gt_bd hM t0 t1
      walk_at "rdN5"
      refine r_ixL hl (gt_V t0 (hML t1)) ?_
      walk_at "rdN5"
      refine n_setL hl t0 (by rw [List.length_map]; exact hML t1) fun H2 k2 h2 => ?_
      walk_at "rdN5"
      exact k _ k2 (by rw [h2, set_V, perf_scale])
    | swap a b =>
      obtain ⟨p, _, rfl, ha, w1, _, rfl, rfl, w2, _, rfl, rfl, w3, _, rfl, rfl, rfl⟩ := hR
      obtain ⟨⟨a0, a1⟩, ⟨b0, b1⟩, hab⟩ := ok
      have hpl : p ≠ l := ne_of ha hl (by intro z; cases z)
      walk_at "rdN5"
      refine r_ixL hl (gt_V a0 (hML a1)) ?_
      walk_at "rdN5"
      refine r_ixL hl (gt_V b0 (hML b1)) ?_
      walk_at "rdN5"
      refine n_setL hl a0 (by rw [List.length_map]; exact hML a1) fun H2 k2 h2 => ?_
      have ha2 := k2 _ _ hpl ha
      walk_at "rdN5"
      refine n_setL h2 b0 (by rw [List.length_set, List.length_map]; exact hML b1) fun H3 k3 h3 => ?_
      walk_at "rdN5"
      exact k _ (k2.trans k3) (by rw [h3, set_V, set_V, perf_swap])
    | table t sg tb a b =>
      obtain ⟨p, _, rfl, hp, w1, _, rfl, rfl, w2, _, rfl, rfl, w3, _, rfl, rfl, w4, _, rfl, hT, w5, _, rfl, rfl, w6, _, rfl, rfl, rfl⟩ := hR
      obtain ⟨t0, t1⟩ := ok.ht
      obtain ⟨a0, a1⟩ := ok.ha
      obtain ⟨b0, b1⟩ := ok.hb
      walk_at "rdN5"
      refine r_ixL hl (gt_V a0 (hML a1)) ?_
      walk_at "rdN5"
      refine r_ixL hl (gt_V b0 (hML b1)) ?_
      walk_at "rdN5"
      refine ⟨tb, w4, m, _, _, rfl, hT, ok.sz, m2, m9, ok.un, ok.tab.sq, fun H1 s1 => ?_⟩
      replace hl := s1 _ _ hl
      replace hp := s1 _ _ hp
      have hsg : 0 ≤ sg ∧ sg < m := by rcases ok.hs with e | e <;> omega
      walk_at "rdN5"
      refine r_ixL hl (gt_V t0 (hML t1)) ?_
      walk_at "rdN5"
      refine n_setL hl t0 (by rw [List.length_map]; exact hML t1) fun H2 k2 h2 => ?_
      walk_at "rdN5"
      exact k _ ((Kp.of s1).trans k2) (by rw [h2, set_V, perf_table])
end
end Bf
/-! the draws: a list [numbers, place] -/
namespace Bf
open PySem L2
/-- where they lie; the numbers -/
structure DD where
  d : Addr
  l : Addr
  ns : List Int
def Drw (D : DD) (H : Hp) : Prop := (∃ k : Int, H D.d = some (.lst [.ref D.l, .int k]) ∧ 0 ≤ k) ∧ H D.l = some (.lst (D.ns.map V.int)) ∧ ∀ x ∈ D.ns, 0 ≤ x ∧ x < 1000000
theorem Drw.same {H H' : Hp} {D : DD} (h : Drw D H) (s : Same H H') : Drw D H' := by
  obtain ⟨⟨k, h1, h2⟩, h3, h4⟩ := h
  exact ⟨⟨k, s _ _ h1, h2⟩, s _ _ h3, h4⟩
theorem Drw.ne {D : DD} {q : Addr} {H : Hp} (h : Drw D H) (n : H q = none) : q ≠ D.d := fun e => by
  obtain ⟨⟨k, h1, _⟩, _⟩ := h
  rw [e, h1] at n
  cases n
theorem Drw.nel {D : DD} {q : Addr} {H : Hp} (h : Drw D H) (n : H q = none) : q ≠ D.l := fun e => by
  obtain ⟨_, h1, _⟩ := h
  rw [e, h1] at n
  cases n
theorem Drw.ld {D : DD} {H : Hp} (h : Drw D H) : D.l ≠ D.d := fun e => by
  obtain ⟨⟨k, h1, _⟩, h3, _⟩ := h
  rw [e, h1] at h3
  cases hn : D.ns with
  | nil => rw [hn] at h3; cases h3
  | cons x r => rw [hn] at h3; cases h3
/-- all but the draws is kept, and they are draws again -/
structure Ds (D : DD) (H H' : Hp) : Prop where
  kp : Kp D.d H H'
  dr : Drw D H'
theorem Ds.trans {D : DD} {H H1 H2 : Hp} (a : Ds D H H1) (b : Ds D H1 H2) : Ds D H H2 := ⟨a.kp.trans b.kp, b.dr⟩
theorem Ds.same {D : DD} {H H1 H2 : Hp} (a : Ds D H H1) (s : Same H1 H2) : Ds D H H2 := ⟨a.kp.trans (Kp.of s), a.dr.same s⟩
theorem Ds.of {D : DD} {H H1 : Hp} (a : Drw D H) (s : Same H H1) : Ds D H H1 := ⟨Kp.of s, a.same s⟩
theorem Ds.refl {D : DD} {H : Hp} (a : Drw D H) : Ds D H H := ⟨Kp.refl D.d H, a⟩
theorem Ds.tk {D : DD} {H H' : Hp} (h : Drw D H) (a : Ds D H H') : TK H H' := by
  obtain ⟨⟨k, h1, _⟩, _⟩ := h
  exact TK.kp h1 a.kp
/-- an object that is new since the draws were there -/
theorem Ds.new {D : DD} {q : Addr} {H H1 H2 : Hp} {o : HO} (h : Drw D H) (n : H q = none) (e : H1 q = some o) (a : Ds D H1 H2) : H2 q = some o := a.kp _ _ (h.ne n) e
/-- the draws, when an object at a new address has changed -/
theorem Ds.kpn {D : DD} {q : Addr} {H H1 H2 : Hp} (h : Drw D H) (n : H q = none) (a : Ds D H H1) (k : Kp q H1 H2) : Ds D H H2 := by
  refine ⟨fun b o hb e => k _ _ (ne_of_none e n) (a.kp _ _ hb e), ?_⟩
  obtain ⟨⟨j, h1, h2⟩, h3, h4⟩ := a.dr
  exact ⟨⟨j, k _ _ (h.ne n).symm h1, h2⟩, k _ _ (h.nel n).symm h3, h4⟩
/-- a dict, an instance, a list that is no part of the draws -/
theorem Ds.kept {D : DD} {q : Addr} {H H' : Hp} {o : HO} (a : Ds D H H') (e : H q = some o) (ne : q ≠ D.d) : H' q = some o := a.kp _ _ ne e
def mixed (n k : Int) : Int := ((n * 48271 + k * 69621 + 12345) % 2147483647 * ((n * 48271 + k * 69621 + 12345) % 2147483647 / 65536 + 3) + k) % 2147483647
theorem mixed_bd (n k : Int) : 0 ≤ mixed n k ∧ mixed n k < 2147483647 := ⟨Int.emod_nonneg _ (by decide), Int.emod_lt_of_pos _ (by decide)⟩
def spMixed : Sp := fun vs H Q _ => ∃ n k : Int, vs = [.int n, .int k] ∧ Q (.int (mixed n k)) H
theorem n_mixed {n k : Int} {H : Hp} {Q : VK} {E : XK} (h : Q (.int (mixed n k)) H) : spMixed ([.int n, .int k] ++ []) H Q E := ⟨n, k, rfl, h⟩
def spDraw : Sp := fun vs H Q _ => ∃ D : DD, vs = [.ref D.d] ∧ Drw D H ∧ ∀ (v : Int) H', 0 ≤ v → v < 1000000 → Ds D H H' → Q (.int v) H'
def spLarge : Sp := fun vs H Q _ => ∃ (D : DD) (b : Int), vs = [.ref D.d, .int b] ∧ Drw D H ∧ 0 < b ∧ ∀ (v : Int) H', 0 ≤ v → v < b → Ds D H H' → Q (.int v) H'
end Bf
/-! drawn numbers, factors, steps: plain mathematics and promises -/
namespace Bf
open PySem L2
theorem n_pick {K : PySem.W.Frag} {H : Hp} {Q : VK} {p : Addr} {ns : List Int} {i : Int} (h : H p = some (.lst (ns.map V.int))) (h0 : 0 ≤ i) (h1 : i < ns.length) (k : ∀ x, x ∈ ns → Q (.int x) H) : rIx K (.ref p) (.int i) H Q := by
  have e : i.toNat < ns.length := by omega
  exact r_ixL h (at_nat h0 (by rw [List.getElem?_map, List.getElem?_eq_getElem e]; rfl)) (k _ (List.getElem_mem e))
/-! ### primes -/
theorem pr_small {n : Int} (h : (List.range n.toNat).all (fun d => decide (d < 2) || decide (n.toNat < d * d) || decide (n.toNat % d ≠ 0)) = true) (h0 : 0 ≤ n) : Pr n := by
  intro d h2 hdd hz
  have hd : d ≤ n := by
    have : d * 1 ≤ d * d := Int.mul_le_mul_of_nonneg_left (by omega) (by omega)
    omega
  have hlt : d.toNat < n.toNat := by
    have : d * 2 ≤ d * d := Int.mul_le_mul_of_nonneg_left (by omega) (by omega)
    omega
  have := List.all_eq_true.mp h d.toNat (List.mem_range.mpr hlt)
  simp only [Bool.or_eq_true, decide_eq_true_eq] at this
  rcases this with (q | q) | q
  · omega
  · have e : ((d.toNat * d.toNat : Nat) : Int) = d * d := by rw [Int.natCast_mul, Int.toNat_of_nonneg (by omega)]
    omega
  · apply q
    have e : ((n.toNat % d.toNat : Nat) : Int) = n % d := by rw [Int.natCast_emod, Int.toNat_of_nonneg h0, Int.toNat_of_nonneg (by omega)]
    omega
def trial (n : Nat) : Nat → Bool
  | 0 => true
  | k + 1 => n % (k + 2) != 0 && trial n k
theorem trial_ok {n : Nat} : ∀ {k : Nat}, trial n k = true → ∀ d, 2 ≤ d → d < k + 2 → n % d ≠ 0
  | 0, _, d, h2, hd => by omega
  | k + 1, h, d, h2, hd => by
    unfold trial at h
    rw [Bool.and_eq_true, bne_iff_ne] at h
    by_cases e : d = k + 2
    · rw [e]; exact h.1
    · exact trial_ok h.2 d h2 (by omega)
theorem pr_trial {n k : Nat} (h : trial n k = true) (hk : n < (k + 2) * (k + 2)) : Pr (n : Int) := by
  intro d h2 hdd hz
  have hd : d < (k : Int) + 2 := by
    apply Int.lt_of_not_ge
    intro hge
    have : ((k : Int) + 2) * ((k : Int) + 2) ≤ d * d := Int.mul_le_mul hge hge (by omega) (by omega)
    have e : (((k + 2) * (k + 2) : Nat) : Int) = ((k : Int) + 2) * ((k : Int) + 2) := by rw [Int.natCast_mul]; rfl
    omega
  apply trial_ok h d.toNat (by omega) (by omega)
  have e : ((n % d.toNat : Nat) : Int) = n % d := by rw [Int.natCast_emod, Int.toNat_of_nonneg (by omega)]
  omega
set_option maxRecDepth 1000000 in
theorem pr_big : Pr 999999937 := pr_trial (n := 999999937) (k := 31621) (by decide +kernel) (by decide)
theorem pr_list {x : Int} (h : x ∈ [2, 3, 5, 7, 11, 13, 101, 999999937]) : Pr x ∧ 2 ≤ x ∧ x ≤ 1000000000 := by
  simp only [List.mem_cons, List.not_mem_nil, or_false] at h
  rcases h with e | e | e | e | e | e | e | e <;> subst e
  · exact ⟨pr_trial (n := 2) (k := 0) (by decide) (by decide), by decide, by decide⟩
  · exact ⟨pr_trial (n := 3) (k := 0) (by decide) (by decide), by decide, by decide⟩
  · exact ⟨pr_trial (n := 5) (k := 1) (by decide) (by decide), by decide, by decide⟩
  · exact ⟨pr_trial (n := 7) (k := 1) (by decide) (by decide), by decide, by decide⟩
  · exact ⟨pr_trial (n := 11) (k := 2) (by decide) (by decide), by decide, by decide⟩
  · exact ⟨pr_trial (n := 13) (k := 2) (by decide) (by decide), by decide, by decide⟩
  · exact ⟨pr_trial (n := 101) (k := 9) (by decide) (by decide), by decide, by decide⟩
  · exact ⟨pr_big, by decide, by decide⟩
theorem pr_units {m : Int} (hm : 2 ≤ m) (hp : Pr m) {K : Nat} (hK : (K : Int) ≤ m) : Units m K := by
  intro d h1 hd
  have g1 : ((Int.gcd d m : Nat) : Int) ∣ (d : Int) := Int.gcd_dvd_left ..
  have g2 : ((Int.gcd d m : Nat) : Int) ∣ m := Int.gcd_dvd_right ..
  have le : ((Int.gcd d m : Nat) : Int) ≤ d := Int.le_of_dvd (by omega) g1
  have pos : 0 < Int.gcd d m := Int.gcd_pos_of_ne_zero_right _ (by omega)
  apply Nat.le_antisymm _ pos
  apply Nat.le_of_not_lt
  intro hgt
  obtain ⟨q, hq⟩ := g2
  have hq2 : 2 ≤ q := by
    apply Int.le_of_not_gt
    intro hlt
    have : q ≤ 0 ∨ q = 1 := by omega
    rcases this with z | z
    · have : ((Int.gcd d m : Nat) : Int) * q ≤ 0 := Int.mul_nonpos_of_nonneg_of_nonpos (by omega) z
      omega
    · subst z
      omega
  rcases Int.le_total ((Int.gcd d m : Nat) : Int) q with h | h
  · exact hp _ (by omega) (by
      have := Int.mul_le_mul_of_nonneg_left h (show (0 : Int) ≤ ((Int.gcd d m : Nat) : Int) by omega)
      omega) (dvd_mod.mpr ⟨q, hq⟩)
  · exact hp q hq2 (by
      have := Int.mul_le_mul_of_nonneg_right h (show (0 : Int) ≤ q by omega)
      omega) (dvd_mod.mpr ⟨_, by rw [Int.mul_comm]; exact hq⟩)
theorem unit_last {m : Int} (hm : 2 ≤ m) : Int.gcd (m - 1) m = 1 := by
  have i : IsInv m (m - 1) (m - 1) := ⟨by omega, by omega, by
    have e : (m - 1) * (m - 1) = 1 + m * (m - 2) := by
      simp only [Int.sub_mul, Int.mul_sub]
      omega
    rw [e, Int.add_mul_emod_self_left]
    exact Int.emod_eq_of_lt (by omega) (by omega)⟩
  exact inv_gcd i
/-- another place of c -/
theorem other_place {t r c : Int} (t0 : 0 ≤ t) (t1 : t < c) (r0 : 0 ≤ r) (r1 : r < c - 1) : 0 ≤ (t + 1 + r) % c ∧ (t + 1 + r) % c < c ∧ (t + 1 + r) % c ≠ t := by
  refine ⟨Int.emod_nonneg _ (by omega), Int.emod_lt_of_pos _ (by omega), ?_⟩
  by_cases h : t + 1 + r < c
  · rw [Int.emod_eq_of_lt (by omega) h]
    omega
  · have e : t + 1 + r = (t + 1 + r - c) + c * 1 := by omega
    rw [e, Int.add_mul_emod_self_left, Int.emod_eq_of_lt (by omega) (by omega)]
    omega
theorem shift_ne {t u v c : Int} (t0 : 0 ≤ t) (t1 : t < c) (u0 : 0 ≤ u) (uv : u < v) (vc : v < c) : (t + u) % c ≠ (t + v) % c := by
  have f : ∀ w, 0 ≤ w → w < c → (t + w) % c = if t + w < c then t + w else t + w - c := fun w w0 w1 => by
    by_cases h : t + w < c
    · rw [if_pos h, Int.emod_eq_of_lt (by omega) h]
    · rw [if_neg h]
      have e : t + w = (t + w - c) + c * 1 := by omega
      rw [e, Int.add_mul_emod_self_left, Int.emod_eq_of_lt (by omega) (by omega)]
      omega
  rw [f u u0 (by omega), f v (by omega) vc]
  split <;> split <;> omega
theorem mod_bd (a : Int) {b : Int} (h : 0 < b) : 0 ≤ a % b ∧ a % b < b := ⟨Int.emod_nonneg _ (by omega), Int.emod_lt_of_pos _ h⟩
/-! ### promises -/
def spModulus : Sp := fun vs H Q _ => ∃ D : DD, vs = [.ref D.d] ∧ Drw D H ∧ ∀ (v : Int) H', 2 ≤ v → v ≤ 1000000000 → Ds D H H' → Q (.int v) H'
def spNumber : Sp := fun vs H Q _ => ∃ (D : DD) (m : Int), vs = [.ref D.d, .int m] ∧ Drw D H ∧ 2 ≤ m ∧ ∀ (v : Int) H', 0 ≤ v → v < m → Ds D H H' → Q (.int v) H'
def spGcd : Sp := fun vs H Q _ => ∃ a b : Int, vs = [.int a, .int b] ∧ 0 ≤ a ∧ 0 ≤ b ∧ ∀ r : Int, (r = 1 → Int.gcd a b = 1) → Q (.int r) H
def spUnit : Sp := fun vs H Q _ => ∃ (D : DD) (m : Int), vs = [.ref D.d, .int m] ∧ Drw D H ∧ 2 ≤ m ∧ ∀ (v : Int) H', 0 ≤ v → v < m → Int.gcd v m = 1 → Ds D H H' → Q (.int v) H'
def spPrimeD : Sp := fun vs H Q _ => ∃ D : DD, vs = [.ref D.d] ∧ Drw D H ∧ ∀ (v : Int) H', Pr v → 2 ≤ v → v ≤ 1000000000 → Ds D H H' → Q (.int v) H'
def spTableD : Sp := fun vs H Q _ => ∃ (D : DD) (m : Int), vs = [.ref D.d, .int m] ∧ Drw D H ∧ 2 ≤ m ∧ ∀ (tb : List (List Int)) (v : V) H', IsTab m tb → tb.length ≤ 4 → (tb.length : Int) ≤ m → Rp H' (tabD tb) v → Ds D H H' → Q v H'
def spFactorD : Sp := fun vs H Q _ => ∃ (D : DD) (t c n : Int), vs = [.ref D.d, .int t, .int c, .int n] ∧ Drw D H ∧ (0 ≤ t ∧ t < c) ∧ 0 ≤ n ∧ (1 < c ∨ 0 < n) ∧ ∀ (f : Fac) (v : V) H', f.ok t c n → Rp H' f.d v → Ds D H H' → Q v H'
def spStepD : Sp := fun vs H Q _ => ∃ (D : DD) (m c n : Int) (pr : Bool), vs = [.ref D.d, .int m, .int c, .int n, .bl pr] ∧ Drw D H ∧ 2 ≤ m ∧ m ≤ 1000000000 ∧ 1 ≤ c ∧ 0 ≤ n ∧ (pr = true → Pr m) ∧ ∀ (s : Step) (v : V) H', s.ok m c n → (s.isTable = true → pr = true) → Rp H' s.d v → Ds D H H' → Q v H'
end Bf
/-! the drawn program as a dict -/
namespace Bf
open PySem L2
def Mdl (H : Hp) (p : Addr) (m c n : Int) (ss : List Step) : Prop := ∃ (q : Addr) (ws : List V), H p = some (.dK [(.inr "modulus", .int m), (.inr "cells", .int c), (.inr "inputs", .int n), (.inr "steps", .ref q)]) ∧ H q = some (.lst ws) ∧ RpL H (ss.map Step.d) ws
theorem Mdl.same {H H' : Hp} {p : Addr} {m c n : Int} {ss : List Step} (h : Mdl H p m c n ss) (s : Same H H') : Mdl H' p m c n ss := by
  obtain ⟨q, ws, h1, h2, h3⟩ := h
  exact ⟨q, ws, s _ _ h1, s _ _ h2, h3.same s⟩
theorem step_ref {H : Hp} {s : Step} {v : V} (h : Rp H s.d v) : ∃ a, v = .ref a := by
  cases s <;> (obtain ⟨a, _, e, _⟩ := h; exact ⟨a, e⟩)
/-- a list of steps is not where the draws are -/
theorem steps_ne {D : DD} {H : Hp} {q : Addr} {ss : List Step} {ws : List V} (dr : Drw D H) (h : H q = some (.lst ws)) (hl : RpL H (ss.map Step.d) ws) : q ≠ D.d := fun e => by
  obtain ⟨⟨k, h1, _⟩, _⟩ := dr
  rw [e, h1] at h
  cases h
  obtain ⟨d, h1, h2⟩ := hl.at (i := 1) (v := .int k) rfl
  rw [List.getElem?_map] at h1
  obtain ⟨s, _, rfl⟩ := Option.map_eq_some_iff.mp h1
  obtain ⟨a, e⟩ := step_ref h2
  cases e
theorem ints_ne {D : DD} {H : Hp} {q : Addr} {xs : List Int} (dr : Drw D H) (h : H q = some (.lst (xs.map V.int))) : q ≠ D.d := fun e => by
  obtain ⟨⟨k, h1, _⟩, _⟩ := dr
  rw [e, h1] at h
  cases xs with
  | nil => cases h
  | cons x r => cases h
theorem Mdl.ds {D : DD} {H H' : Hp} {p : Addr} {m c n : Int} {ss : List Step} (h : Mdl H p m c n ss) (dr : Drw D H) (s : Ds D H H') : Mdl H' p m c n ss := by
  obtain ⟨q, ws, h1, h2, h3⟩ := h
  refine ⟨q, ws, s.kp _ _ (fun e => ?_) h1, s.kp _ _ (steps_ne dr h2 h3) h2, h3.tk (Ds.tk dr s) (steps_flat ss)⟩
  obtain ⟨⟨k, h4, _⟩, _⟩ := dr
  rw [e, h4] at h1
  cases h1
theorem ints_ds {D : DD} {H H' : Hp} {q : Addr} {xs : List Int} (dr : Drw D H) (s : Ds D H H') (h : H q = some (.lst (xs.map V.int))) : H' q = some (.lst (xs.map V.int)) := s.kp _ _ (ints_ne dr h) h
structure Vp (m c n : Int) (ss : List Step) : Prop where
  m2 : 2 ≤ m
  m9 : m ≤ 1000000000
  c1 : 1 ≤ c
  c9 : c ≤ 60
  n1 : 0 ≤ n
  n9 : n ≤ 60
  le : ss.length ≤ 20000
  ok : ∀ s ∈ ss, s.ok m c n
  pr : (∃ s ∈ ss, s.isTable = true) → Pr m
theorem Vp.inverse {m c n : Int} {ss : List Step} (h : Vp m c n ss) : Vp m c n (Bf.inverse m ss) :=
  { h with
    le := by rw [inverse_len]; exact h.le
    ok := inverse_ok h.m2 h.ok
    pr := fun ⟨s, h1, h2⟩ => h.pr (by
      unfold Bf.inverse at h1
      rw [List.mem_reverse] at h1
      obtain ⟨x, hx, rfl⟩ := List.mem_map.mp h1
      exact ⟨x, hx, by rwa [Step.inv_table] at h2⟩) }
theorem Vp.take {m c n : Int} {ss : List Step} (h : Vp m c n ss) (k : Nat) : Vp m c n (ss.take k) :=
  { h with
    le := by
      have := h.le
      rw [List.length_take]
      omega
    ok := fun s hs => h.ok s (List.mem_of_mem_take hs)
    pr := fun ⟨s, h1, h2⟩ => h.pr ⟨s, List.mem_of_mem_take h1, h2⟩ }
def spProgramD : Sp := fun vs H Q _ => ∃ (D : DD) (most : Int), vs = [.ref D.d, .int most] ∧ Drw D H ∧ 0 ≤ most ∧ most ≤ 100 ∧ ∀ (p : Addr) (m c n : Int) (ss : List Step) H', Vp m c n ss → (ss.length : Int) ≤ most → Mdl H' p m c n ss → Ds D H H' → Q (.ref p) H'
def spMemory : Sp := fun vs H Q _ => ∃ (D : DD) (p : Addr) (m c n : Int) (ss : List Step), vs = [.ref D.d, .ref p] ∧ Drw D H ∧ Mdl H p m c n ss ∧ Vp m c n ss ∧ ∀ (q : Addr) (xs : List Int) H', H q = none → Ds D H H' → H' q = some (.lst (xs.map V.int)) → Mem m c xs → Q (.ref q) H'
def spGiven : Sp := fun vs H Q _ => ∃ (D : DD) (p : Addr) (m c n : Int) (ss : List Step), vs = [.ref D.d, .ref p] ∧ Drw D H ∧ Mdl H p m c n ss ∧ Vp m c n ss ∧ ∀ (q : Addr) (xs : List Int) H', H q = none → Ds D H H' → H' q = some (.lst (xs.map V.int)) → Mem m n xs → Q (.ref q) H'
/-! ### equality -/
mutual
def Dt.wid : Dt → Nat
  | .t ls => max ls.length (Dt.wids ls)
  | .l ls => max ls.length (Dt.wids ls)
  | _ => 0
def Dt.wids : List Dt → Nat
  | [] => 0
  | d :: r => max d.wid (Dt.wids r)
end
theorem wids_mem {k : Nat} : ∀ {ds : List Dt} {d : Dt} {i : Nat}, Dt.wids ds ≤ k → ds[i]? = some d → d.wid ≤ k
  | [], _, _, _, h => by simp at h
  | x :: r, d, 0, hk, h => by
    simp at h
    subst h
    rw [Dt.wids] at hk
    omega
  | x :: r, d, i + 1, hk, h => by
    rw [Dt.wids] at hk
    exact wids_mem (ds := r) (i := i) (by omega) (by simpa using h)
theorem wids_map {α : Type} {f : α → Dt} {k : Nat} : ∀ {l : List α}, (∀ x ∈ l, (f x).wid ≤ k) → Dt.wids (l.map f) ≤ k
  | [], _ => Nat.zero_le _
  | x :: r, h => by
    rw [List.map_cons, Dt.wids]
    have h1 := h x List.mem_cons_self
    have h2 := wids_map (f := f) (l := r) fun y hy => h y (List.mem_cons_of_mem _ hy)
    omega
theorem deps_map {α : Type} {f : α → Dt} {k : Nat} : ∀ {l : List α}, (∀ x ∈ l, (f x).dep ≤ k) → Dt.deps (l.map f) ≤ k
  | [], _ => Nat.zero_le _
  | x :: r, h => by
    rw [List.map_cons, Dt.deps]
    have h1 := h x List.mem_cons_self
    have h2 := deps_map (f := f) (l := r) fun y hy => h y (List.mem_cons_of_mem _ hy)
    omega
theorem step_dep : ∀ s : Step, s.d.dep ≤ 3
  | .add t k fs => by
    have h := deps_map (f := Fac.d) (k := 1) (l := fs) fun f _ => by cases f <;> exact Nat.le_refl _
    show (max _ (max _ (max _ (max (Dt.deps (fs.map Fac.d) + 1) _)))) + 1 ≤ 3
    simp only [Dt.dep, Dt.deps]
    omega
  | .scale t k => Nat.le_of_ble_eq_true rfl
  | .swap a b => Nat.le_of_ble_eq_true rfl
  | .table t s tb a b => by
    have h : Dt.deps (tb.map fun r => Dt.t (r.map .i)) ≤ 1 := deps_map fun r _ => by
      have := deps_map (f := Dt.i) (k := 0) (l := r) fun x _ => Nat.le_refl _
      show Dt.deps (r.map .i) + 1 ≤ 1
      omega
    show (max _ (max _ (max _ (max (Dt.deps (tb.map fun r => Dt.t (r.map .i)) + 1) _)))) + 1 ≤ 3
    simp only [Dt.dep, Dt.deps]
    omega
theorem ints_wid (l : List Int) : Dt.wids (l.map Dt.i) ≤ 0 := wids_map fun _ _ => Nat.le_refl _
theorem step_wid {m c n : Int} : ∀ {s : Step}, s.ok m c n → s.d.wid ≤ 1000000
  | .add t k fs, h => by
    have h1 := wids_map (f := Fac.d) (k := 2) (l := fs) fun f _ => by cases f <;> exact Nat.le_refl _
    have h2 := h.2.2.1
    show max 4 (max _ (max _ (max _ (max (max (fs.map Fac.d).length (Dt.wids (fs.map Fac.d))) _)))) ≤ _
    simp only [Dt.wid, Dt.wids, List.length_map]
    omega
  | .scale t k, _ => by show max 3 _ ≤ _; simp only [Dt.wid, Dt.wids]; omega
  | .swap a b, _ => by show max 3 _ ≤ _; simp only [Dt.wid, Dt.wids]; omega
  | .table t s tb a b, h => by
    have hsz := h.sz
    have h1 : Dt.wids (tb.map fun r => Dt.t (r.map .i)) ≤ 1000000 := wids_map fun r hr => by
      have := ints_wid r
      have := h.tab.sq r hr
      show max (r.map Dt.i).length (Dt.wids (r.map .i)) ≤ _
      rw [List.length_map]
      omega
    show max 6 (max _ (max _ (max _ (max (max (tb.map _).length (Dt.wids (tb.map fun r => Dt.t (r.map .i)))) _)))) ≤ _
    simp only [Dt.wid, Dt.wids, List.length_map]
    omega
def spEq (k : Nat) : Sp := fun vs H Q _ => ∃ (d : Dt) (a b : V), vs = [a, b] ∧ Rp H d a ∧ Rp H d b ∧ d.dep ≤ k ∧ d.wid ≤ 1000000 ∧ Q (.bl true) H
def spAllEq (k : Nat) : Sp := fun vs H Q _ => ∃ (ds : List Dt) (p q : Addr) (as bs : List V), vs = [.ref p, .ref q] ∧ (H p = some (.lst as) ∨ H p = some (.tup as)) ∧ (H q = some (.lst bs) ∨ H q = some (.tup bs)) ∧ RpL H ds as ∧ RpL H ds bs ∧ Dt.deps ds < k ∧ ds.length ≤ 1000000 ∧ Dt.wids ds ≤ 1000000 ∧ Q (.bl true) H
theorem deps_mem {k : Nat} : ∀ {ds : List Dt} {d : Dt} {i : Nat}, Dt.deps ds ≤ k → ds[i]? = some d → d.dep ≤ k
  | [], _, _, _, h => by simp at h
  | x :: r, d, 0, hk, h => by
    simp at h
    subst h
    rw [Dt.deps] at hk
    omega
  | x :: r, d, i + 1, hk, h => by
    rw [Dt.deps] at hk
    exact deps_mem (ds := r) (i := i) (by omega) (by simpa using h)
theorem n_eq {k : Nat} {d : Dt} {a b : V} {H : Hp} {Q : VK} {E : XK} (ra : Rp H d a) (rb : Rp H d b) (hd : d.dep ≤ k) (hw : d.wid ≤ 1000000) (q : Q (.bl true) H) : spEq k ([a, b] ++ []) H Q E := ⟨d, a, b, rfl, ra, rb, hd, hw, q⟩
end Bf
local macro_rules | `(tactic| walk_at "pfN6") => `(tactic| first | decide +kernel | omega | assumption | rfl | (simp only [List.length_cons, List.length_nil]; omega))
local macro_rules | `(tactic| walk_at "rd1N6") => `(tactic| first
  | with_reducible refine Bf.r_seq ?_
  | with_reducible refine Bf.r_asg ?_
  | with_reducible refine Bf.r_var (by with_unfolding_all rfl) ?_
  | with_reducible refine Bf.r_c ?_
  | with_reducible refine Bf.r_name ?_
  | with_reducible refine Bf.r_ret ?_
  | with_reducible refine Bf.r_op ?_
  | with_reducible refine Bf.r_I0 ?_
  | ((with_reducible refine Bf.r_I ?c ?_); (case c => first | decide | (show (0 : Int) < _; omega) | (refine Or.inl ⟨?_, ?_⟩ <;> omega) | (refine Or.inr ⟨?_, ?_⟩ <;> omega) | (refine And.intro ?_ ?_ <;> omega)))
  | with_reducible refine Bf.r_ifS ?_
  | with_reducible refine Bf.r_test ?_
  | with_reducible refine Bf.r_isbl ?_
  | with_reducible refine Bf.r_eqI ?_
  | with_reducible refine Bf.r_neI ?_
  | with_reducible refine Bf.r_eqS ?_
  | with_reducible refine Bf.r_neS ?_
  | with_reducible refine Bf.r_cons ?_
  | with_reducible refine Bf.r_nil ?_
  | with_reducible refine Bf.r_CB ?_
  | with_reducible refine Bf.r_call ?_
  | with_reducible refine Bf.i_t ?_
  | with_reducible refine Bf.i_f ?_
  | with_reducible refine Bf.i_nt ?_
  | with_reducible refine Bf.i_nf ?_
  | with_reducible refine Bf.r_ixT (by assumption) (by with_unfolding_all rfl) ?_
  | with_reducible refine Bf.r_ixL (by assumption) (by with_unfolding_all rfl) ?_
  | with_reducible refine Bf.r_fld ?_
  | ((with_reducible refine Bf.r_fat (by assumption) ?c ?n (by with_unfolding_all rfl) ?_); (case c => assumption); (case n => assumption))
  | with_reducible refine Bf.r_par ?_
  | with_reducible refine Bf.r_two ?_
  | with_reducible refine Bf.r_aug (by with_unfolding_all rfl) ?_
  | with_reducible refine Bf.r_ip ?_
  | with_reducible refine Bf.r_app (by with_unfolding_all rfl) (by assumption) ?_
  | with_reducible refine Bf.r_next ?_
  | with_reducible refine Bf.r_cont ?_
  | with_reducible refine Bf.r_drop ?_
  | with_reducible refine Bf.r_and ?_
  | with_reducible refine Bf.r_or ?_
  | with_reducible refine Bf.r_not ?_
  | with_reducible refine Bf.r_andV ?_
  | with_reducible refine Bf.r_orV ?_
  | with_reducible refine Bf.r_notV ?_
  | with_reducible refine Bf.r_chain ?_
  | with_reducible refine Bf.r_B ?_
  | with_reducible refine Bf.r_ifE ?_
  | with_reducible refine Bf.r_un ?_
  | with_reducible refine Bf.r_U ?_
  | with_reducible refine Bf.r_tup ?_
  | with_reducible refine Bf.r_lst ?_
  | with_reducible refine Bf.r_lenT (by assumption) ?_
  | with_reducible refine Bf.r_lenL (by assumption) ?_
  | with_reducible refine Bf.r_int ?_
  | with_reducible refine Bf.r_max2 ?_
  | with_reducible refine Bf.r_min2 ?_
  | with_reducible refine Bf.isi_ Bf.ty_i Bf.kb_ii ?_
  | with_reducible refine Bf.isi_ Bf.ty_i Bf.kb_ib ?_
  | with_reducible refine Bf.isi_ Bf.ty_i Bf.kb_is ?_
  | with_reducible refine Bf.isi_ Bf.ty_i Bf.kb_it ?_
  | with_reducible refine Bf.isi_ Bf.ty_i Bf.kb_il ?_
  | with_reducible refine Bf.isi_ Bf.ty_s Bf.kb_si ?_
  | with_reducible refine Bf.isi_ Bf.ty_s Bf.kb_sb ?_
  | with_reducible refine Bf.isi_ Bf.ty_s Bf.kb_ss ?_
  | with_reducible refine Bf.isi_ Bf.ty_s Bf.kb_st ?_
  | with_reducible refine Bf.isi_ Bf.ty_s Bf.kb_sl ?_
  | with_reducible refine Bf.isi_ (Bf.ty_t (by assumption)) Bf.kb_tt ?_
  | with_reducible refine Bf.isi_ (Bf.ty_l (by assumption)) Bf.kb_ll ?_
  | with_reducible refine Bf.isi_ (Bf.ty_t (by assumption)) Bf.kb_tl ?_
  | with_reducible refine Bf.isi_ (Bf.ty_l (by assumption)) Bf.kb_lt ?_
  | with_reducible refine Bf.isi_ Bf.ty_b Bf.kb_bi ?_
  | with_reducible refine Bf.isi_ Bf.ty_b Bf.kb_bb ?_
  | with_reducible refine Bf.isi_ Bf.ty_b Bf.kb_bs ?_
  | with_reducible refine Bf.isi_ Bf.ty_b Bf.kb_bt ?_
  | with_reducible refine Bf.isi_ Bf.ty_b Bf.kb_bL ?_
  | with_reducible refine Bf.isi_ Bf.ty_n Bf.kb_ni ?_
  | with_reducible refine Bf.isi_ Bf.ty_n Bf.kb_nb ?_
  | with_reducible refine Bf.isi_ Bf.ty_n Bf.kb_ns ?_
  | with_reducible refine Bf.isi_ Bf.ty_n Bf.kb_nt ?_
  | with_reducible refine Bf.isi_ Bf.ty_n Bf.kb_nl ?_
  | with_reducible refine Bf.isi_ (Bf.ty_t (by assumption)) Bf.kb_ti ?_
  | with_reducible refine Bf.isi_ (Bf.ty_l (by assumption)) Bf.kb_li ?_
  | with_reducible refine Bf.isi_ (Bf.ty_t (by assumption)) Bf.kb_tb ?_
  | with_reducible refine Bf.isi_ (Bf.ty_l (by assumption)) Bf.kb_lb ?_
  | with_reducible refine Bf.isi_ (Bf.ty_t (by assumption)) Bf.kb_ts ?_
  | with_reducible refine Bf.isi_ (Bf.ty_l (by assumption)) Bf.kb_ls ?_
  | with_reducible refine Bf.r_gtup (by assumption) (by with_unfolding_all rfl) ?_
  | with_reducible refine Bf.r_gcons ?_
  | with_reducible refine Bf.r_gnil ?_
  | with_reducible refine Bf.r_gsub ?_
  | ((with_reducible refine Bf.n_num ?h ?_); (case h => first | assumption | (refine And.intro ?_ ?_ <;> omega)))
  | with_reducible refine Bf.n_isint ?_
  | with_reducible refine Bf.n_mixed ?_
  | with_reducible refine Bf.r_dget ?_
  | with_reducible refine Bf.n_dgetS (by assumption) (by with_unfolding_all rfl) ?_
  | with_reducible refine Bf.r_pcons ?_
  | with_reducible refine Bf.r_pnil ?_
  | with_reducible refine Bf.r_sl ?_
  | with_reducible refine Bf.r_nopart ?_
  | with_reducible refine Bf.r_part ?_
  | with_reducible refine Bf.r_isint ?_
  | with_reducible refine Bf.r_revL ?_
  | with_reducible refine Bf.r_sfld ?_
  | with_reducible refine Bf.r_meth ?_
  | with_reducible refine Bf.n_meth (by assumption) (by with_unfolding_all rfl) ?_
  | with_reducible refine Bf.r_make ?_
  | with_reducible refine Bf.r_turn ?_
  | with_reducible refine Bf.r_wipe (by with_unfolding_all rfl) ?_
  | with_reducible refine Bf.r_yes ?_
  | with_reducible refine Bf.r_lcL ?_
  | with_reducible refine Bf.r_lcT ?_
  | with_reducible refine Bf.r_lcR ?_
  | with_reducible refine Bf.r_forL ?_
  | with_reducible refine Bf.r_forZ ?_
  | with_reducible refine Bf.r_forT ?_
  | with_reducible refine Bf.r_forR ?_
  | with_reducible refine Bf.r_forR2 ?_
  | ((with_reducible refine Bf.i_d1 ?h ?_); (case h => walk_at "pfN6"))
  | ((with_reducible refine Bf.i_d0 ?h ?_); (case h => walk_at "pfN6"))
  | ((with_reducible refine Bf.i_n1 ?h ?_); (case h => walk_at "pfN6"))
  | ((with_reducible refine Bf.i_n0 ?h ?_); (case h => walk_at "pfN6")))
local macro_rules | `(tactic| walk_at "rdN6") => `(tactic| repeat walk_at "rd1N6")
namespace Bf
open PySem L2
abbrev s_Program___init__ : Stmt := inClass (topS 27) 0
theorem bi_Program___init__ : ∀ (kV doc pm : Value) (an : Option Addr) (cdv ct : Value) (us : List Value), us.length = 5 → bindArgs (PySem.W.fnOf "__init__" "Program.__init__" (defArgs s_Program___init__) (defBody s_Program___init__) (defScope s_Program___init__) .none kV doc pm an cdv ct) ⟨us, []⟩ = pure ((["self", "modulus", "cells", "inputs", "steps"] : List Str).zip us) := fun _ _ _ _ _ _ us hl => match us, hl with | [_, _, _, _, _], _ => rfl
theorem sc_Program___init__ : FnScope ["self", "modulus", "cells", "inputs", "steps"] ["self", "modulus", "cells", "inputs", "steps"] (defScope s_Program___init__) := C8.fnScope_by (by decide +kernel)
abbrev s_Program___len__ : Stmt := inClass (topS 27) 1
theorem bi_Program___len__ : ∀ (kV doc pm : Value) (an : Option Addr) (cdv ct : Value) (us : List Value), us.length = 1 → bindArgs (PySem.W.fnOf "__len__" "Program.__len__" (defArgs s_Program___len__) (defBody s_Program___len__) (defScope s_Program___len__) .none kV doc pm an cdv ct) ⟨us, []⟩ = pure ((["self"] : List Str).zip us) := fun _ _ _ _ _ _ us hl => match us, hl with | [_], _ => rfl
theorem sc_Program___len__ : FnScope ["self"] ["self"] (defScope s_Program___len__) := C8.fnScope_by (by decide +kernel)
abbrev s_Program___neg__ : Stmt := inClass (topS 27) 3
theorem bi_Program___neg__ : ∀ (kV doc pm : Value) (an : Option Addr) (cdv ct : Value) (us : List Value), us.length = 1 → bindArgs (PySem.W.fnOf "__neg__" "Program.__neg__" (defArgs s_Program___neg__) (defBody s_Program___neg__) (defScope s_Program___neg__) .none kV doc pm an cdv ct) ⟨us, []⟩ = pure ((["self"] : List Str).zip us) := fun _ _ _ _ _ _ us hl => match us, hl with | [_], _ => rfl
theorem sc_Program___neg__ : FnScope ["self", "steps", "step"] ["self"] (defScope s_Program___neg__) := C8.fnScope_by (by decide +kernel)
abbrev s_Program_run : Stmt := inClass (topS 27) 4
theorem bi_Program_run : ∀ (kV doc pm : Value) (an : Option Addr) (cdv ct : Value) (us : List Value), us.length = 3 → bindArgs (PySem.W.fnOf "run" "Program.run" (defArgs s_Program_run) (defBody s_Program_run) (defScope s_Program_run) .none kV doc pm an cdv ct) ⟨us, []⟩ = pure ((["self", "memory", "given"] : List Str).zip us) := fun _ _ _ _ _ _ us hl => match us, hl with | [_, _, _], _ => rfl
theorem sc_Program_run : FnScope ["self", "memory", "given", "cells", "step"] ["self", "memory", "given"] (defScope s_Program_run) := C8.fnScope_by (by decide +kernel)
abbrev s_Program_part : Stmt := inClass (topS 27) 5
theorem bi_Program_part : ∀ (kV doc pm : Value) (an : Option Addr) (cdv ct : Value) (us : List Value), us.length = 2 → bindArgs (PySem.W.fnOf "part" "Program.part" (defArgs s_Program_part) (defBody s_Program_part) (defScope s_Program_part) .none kV doc pm an cdv ct) ⟨us, []⟩ = pure ((["self", "n"] : List Str).zip us) := fun _ _ _ _ _ _ us hl => match us, hl with | [_, _], _ => rfl
theorem sc_Program_part : FnScope ["self", "n"] ["self", "n"] (defScope s_Program_part) := C8.fnScope_by (by decide +kernel)
abbrev s_Program_called_back : Stmt := inClass (topS 27) 6
theorem bi_Program_called_back : ∀ (kV doc pm : Value) (an : Option Addr) (cdv ct : Value) (us : List Value), us.length = 2 → bindArgs (PySem.W.fnOf "called_back" "Program.called_back" (defArgs s_Program_called_back) (defBody s_Program_called_back) (defScope s_Program_called_back) .none kV doc pm an cdv ct) ⟨us, []⟩ = pure ((["self", "n"] : List Str).zip us) := fun _ _ _ _ _ _ us hl => match us, hl with | [_, _], _ => rfl
theorem sc_Program_called_back : FnScope ["self", "n"] ["self", "n"] (defScope s_Program_called_back) := C8.fnScope_by (by decide +kernel)
/-- the program at a: its fields, its steps in a list of its own -/
def Prg (C : Addr) (H : Hp) (a : Addr) (m c n : Int) (ss : List Step) : Prop := ∃ dx q vs, H a = some (.ins C dx [("modulus", .int m), ("cells", .int c), ("inputs", .int n), ("steps", .ref q)]) ∧ H q = some (.lst vs) ∧ RpL H (ss.map Step.d) vs
theorem Prg.same {C : Addr} {H H' : Hp} {a : Addr} {m c n : Int} {ss : List Step} (h : Prg C H a m c n ss) (s : Same H H') : Prg C H' a m c n ss := by
  obtain ⟨dx, q, vs, h1, h2, h3⟩ := h
  exact ⟨dx, q, vs, s _ _ h1, s _ _ h2, h3.same s⟩
theorem Prg.kp {C : Addr} {H H' : Hp} {a d : Addr} {xs : List V} {m c n : Int} {ss : List Step} (h : Prg C H a m c n ss) (hd : H d = some (.lst xs)) (k : Kp d H H') (hq : ∀ q dx, H a = some (.ins C dx [("modulus", .int m), ("cells", .int c), ("inputs", .int n), ("steps", .ref q)]) → q ≠ d) : Prg C H' a m c n ss := by
  obtain ⟨dx, q, vs, h1, h2, h3⟩ := h
  exact ⟨dx, q, vs, k _ _ (ne_of h1 hd (by intro z; cases z)) h1, k _ _ (hq q dx h1) h2, h3.tk (TK.kp hd k) (steps_flat ss)⟩
structure PgC (K : PySem.W.Frag) (C : Addr) : Prop where
  cls : Cls K C
  mo : NoAttr K C "modulus"
  ce : NoAttr K C "cells"
  inp : NoAttr K C "inputs"
  st : NoAttr K C "steps"
/-- a method of the class at C, of no default -/
structure MetAt (K : PySem.W.Frag) (C : Addr) (m qual : Str) (st : Stmt) : Prop where
  ex : ∃ (f : Addr) (fd : FuncData), FunD K m qual (defArgs st) (defBody st) (defScope st) [] [] f fd ∧ Meth K C m f
structure MakAt (K : PySem.W.Frag) (mg : Str → Option Value) (x : Str) (C : Addr) (qual : Str) (st : Stmt) : Prop where
  ex : ∃ (f : Addr) (fd : FuncData), FunD K "__init__" qual (defArgs st) (defBody st) (defScope st) [] [] f fd ∧ Mk K C f ∧ mg x = some (.ref C)
def spInit (C : Addr) : Sp := fun vs H Q _ => ∃ (x p : Addr) (dx : Addr) (m c n : Int) (ss : List Step) (ws : List V), vs = [.ref x, .int m, .int c, .int n, .ref p] ∧ H x = some (.ins C dx []) ∧ H p = some (.lst ws) ∧ RpL H (ss.map Step.d) ws ∧ Vp m c n ss ∧
  ∀ H', Kp x H H' → Prg C H' x m c n ss → Q .non H'
def spLen (C : Addr) : Sp := fun vs H Q _ => ∃ (x : Addr) (m c n : Int) (ss : List Step), vs = [.ref x] ∧ Prg C H x m c n ss ∧ Q (.int ss.length) H
def spNeg (C : Addr) : Sp := fun vs H Q _ => ∃ (x : Addr) (m c n : Int) (ss : List Step), vs = [.ref x] ∧ Prg C H x m c n ss ∧ Vp m c n ss ∧ ∀ y H', Same H H' → Prg C H' y m c n (Bf.inverse m ss) → Q (.ref y) H'
def spPart (C : Addr) : Sp := fun vs H Q _ => ∃ (x : Addr) (m c n k : Int) (ss : List Step), vs = [.ref x, .int k] ∧ Prg C H x m c n ss ∧ Vp m c n ss ∧ (0 ≤ k ∧ k ≤ ss.length) ∧ ∀ y H', Same H H' → Prg C H' y m c n (ss.take k.toNat) → Q (.ref y) H'
def spBack (C : Addr) : Sp := fun vs H Q _ => ∃ (x : Addr) (m c n k : Int) (ss : List Step), vs = [.ref x, .int k] ∧ Prg C H x m c n ss ∧ Vp m c n ss ∧ (0 ≤ k ∧ k ≤ ss.length) ∧ ∀ y H', Same H H' → Prg C H' y m c n (Bf.inverse m (ss.take k.toNat)) → Q (.ref y) H'
def spRun (C : Addr) : Sp := fun vs H Q _ => ∃ (x l g : Addr) (m c n : Int) (ss : List Step) (mem given : List Int), vs = [.ref x, .ref l, .ref g] ∧ Prg C H x m c n ss ∧ Vp m c n ss ∧ H l = some (.lst (mem.map V.int)) ∧ H g = some (.lst (given.map V.int)) ∧ Mem m c mem ∧ Mem m n given ∧
  ∀ q H', H q = none → Same H H' → H' q = some (.lst ((runs m given mem ss).map V.int)) → Q (.ref q) H'
section
variable {P : Program} {w : World} {K : PySem.W.Frag} {mg : Str → Option Value} {base : Heap}
theorem met_of {m qual : Str} {C : Addr} {st : Stmt} {N ps : List Str} {k : Nat} {sp : Sp} (G : PgC K C) (F : MetAt K C m qual st) (S : FnScope N ps (defScope st))
    (b : ∀ (kV doc pm : Value) (an : Option Addr) (cdv ct : Value) (us : List Value), us.length = ps.length → bindArgs (PySem.W.fnOf m qual (defArgs st) (defBody st) (defScope st) .none kV doc pm an cdv ct) ⟨us, []⟩ = pure (ps.zip us))
    (len : ∀ vs H Q E, sp vs H Q E → vs.length = ps.length)
    (hbody : ∀ (f : Addr) (cdv : Value) (A : Around) (outer : List Env) (s : Shared) (H : Hp) (vs : List V) (Q : VK) (E : XK), Room k (A.deeper (PyProof.Rows.envOfC qual (defScope st) s.heap.objs.size f cdv)) → sp vs H Q E →
      ∃ t, PSs (cxOf CX0 P w K mg base N qual (defScope st) f cdv A outer s H E).nox (defBody st) t ∧ t ⟨fun _ H' => Q .non H', Q, fun _ _ => False, fun _ _ => False⟩ (start N vs) H) : C8.Met P w K mg base (k + 1) C m sp [] := by
  obtain ⟨f, fd, D, me⟩ := F.ex
  refine ⟨f, fd, ps, [], G.cls, me, FunD.ok D S len fun cdv A outer s H vs Q E hr h => ?_, FunD.bindsN D b, .nil⟩
  obtain ⟨t, h1, h2⟩ := hbody f cdv A outer s H vs Q E hr h
  exact ⟨t, h1.nox, h2⟩
theorem mak_of {x qual : Str} {C : Addr} {st : Stmt} {N ps : List Str} {k : Nat} {sp : Sp} (F : MakAt K mg x C qual st) (S : FnScope N ps (defScope st))
    (b : ∀ (kV doc pm : Value) (an : Option Addr) (cdv ct : Value) (us : List Value), us.length = ps.length → bindArgs (PySem.W.fnOf "__init__" qual (defArgs st) (defBody st) (defScope st) .none kV doc pm an cdv ct) ⟨us, []⟩ = pure (ps.zip us))
    (len : ∀ vs H Q E, sp vs H Q E → vs.length = ps.length)
    (hbody : ∀ (f : Addr) (cdv : Value) (A : Around) (outer : List Env) (s : Shared) (H : Hp) (vs : List V) (Q : VK) (E : XK), Room k (A.deeper (PyProof.Rows.envOfC qual (defScope st) s.heap.objs.size f cdv)) → sp vs H Q E →
      ∃ t, PSs (cxOf CX0 P w K mg base N qual (defScope st) f cdv A outer s H E).nox (defBody st) t ∧ t ⟨fun _ H' => Q .non H', Q, fun _ _ => False, fun _ _ => False⟩ (start N vs) H) : C8.Mak P w K mg base (k + 1) x C sp [] := by
  obtain ⟨f, fd, D, me, hm⟩ := F.ex
  refine ⟨f, fd, ps, [], me, FunD.ok D S len fun cdv A outer s H vs Q E hr h => ?_, hm, FunD.bindsN D b, .nil⟩
  obtain ⟨t, h1, h2⟩ := hbody f cdv A outer s H vs Q E hr h
  exact ⟨t, h1.nox, h2⟩
variable {C : Addr}
theorem mak_Program (T : Gs mg) (G : PgC K C) (c_is_integer : C8.Cal P w K mg base 1 "is_integer" spIsInt []) (c_check_steps : C8.Cal P w K mg base 6 "check_steps" spCheck []) (F : MakAt K mg "Program" C "Program.__init__" s_Program___init__) : C8.Mak P w K mg base 7 "Program" C (spInit C) [] := by
  refine mak_of F sc_Program___init__ bi_Program___init__ (fun vs H Q E h => ?_) (fun f cdv A outer s H vs Q E hr h => ?_)
  · obtain ⟨x, p, dx, m, c, n, ss, ws, rfl, _⟩ := h
    rfl
  · refine ⟨_, (pss_cons (ps_if (PW.pt (pw_or (pt_not (pt_val (C8.pe_c c_is_integer hr (by first | decide | omega) rfl (pa_cons (pv 1) pa_nil)))) (pw_or1 (pt_not (pt_chain op_le op_le pe_int (pv 1) (C8.pe_gc rfl T.c_MODULUS)))))) (pss_one (ps_never)) pss_nil)
      (pss_cons (ps_if (PW.pt (pw_or (pt_not (pt_val (C8.pe_c c_is_integer hr (by first | decide | omega) rfl (pa_cons (pv 2) pa_nil)))) (pw_or1 (pt_not (pt_chain op_le op_le pe_int (pv 2) (C8.pe_gc rfl T.c_CELLS)))))) (pss_one (ps_never)) pss_nil)
      (pss_cons (ps_if (PW.pt (pw_or (pt_not (pt_val (C8.pe_c c_is_integer hr (by first | decide | omega) rfl (pa_cons (pv 3) pa_nil)))) (pw_or1 (pt_not (pt_chain op_le op_le pe_int (pv 3) (C8.pe_gc rfl T.c_INPUTS)))))) (pss_one (ps_never)) pss_nil)
      (pss_cons (ps_expr (C8.pe_c c_check_steps hr (by first | decide | omega) rfl (pa_cons (pv 4) (pa_cons (pv 1) (pa_cons (pv 2) (pa_cons (pv 3) (pa_cons (C8.pe_gc rfl T.c_STEPS) pa_nil)))))))
      (pss_cons (ps_fld (pv 0) (pv 1) rfl)
      (pss_cons (ps_fld (pv 0) (pv 2) rfl)
      (pss_cons (ps_fld (pv 0) (pv 3) rfl)
      (pss_one (ps_fld (pv 0) (pe_callTy b_list (by rfl) T.n_list (by decide +kernel) (pa_cons (pv 4) pa_nil)) rfl))))))))), ?_⟩
    obtain ⟨x, p, dx, m, c, n, ss, ws, rfl, hx, hp, hl, vp, k⟩ := h
    have m2 := vp.m2
    have m9 := vp.m9
    have c1 := vp.c1
    have c9 := vp.c9
    have n1 := vp.n1
    have n9 := vp.n9
    walk_at "rdN6"
    refine ⟨ss, m, c, n, _, p, ws, rfl, hp, hl, vp.ok, m2, m9, by have := vp.le; omega, vp.pr, fun H1 s1 => ?_⟩
    walk_at "rdN6"
    refine n_sfld (s1 _ _ hx) G.cls G.mo (by decide) fun H2 k2 h2 => ?_
    walk_at "rdN6"
    refine n_sfld h2 G.cls G.ce (Nat.le_of_ble_eq_true rfl) fun H3 k3 h3 => ?_
    replace h3 : H3 x = some (.ins C dx [("modulus", .int m), ("cells", .int c)]) := by with_unfolding_all exact h3
    walk_at "rdN6"
    refine n_sfld h3 G.cls G.inp (Nat.le_of_ble_eq_true rfl) fun H4 k4 h4 => ?_
    replace h4 : H4 x = some (.ins C dx [("modulus", .int m), ("cells", .int c), ("inputs", .int n)]) := by with_unfolding_all exact h4
    walk_at "rdN6"
    have kk : Kp x H H4 := ((Kp.of s1).trans (k2.trans k3)).trans k4
    have hpx : p ≠ x := ne_of hp hx (by intro z; cases z)
    have hp4 := kk _ _ hpx hp
    have hl4 := hl.tk (TK.kpi hx kk) (steps_flat ss)
    refine n_listL hp4 fun q H5 nq s5 hq => ?_
    walk_at "rdN6"
    refine n_sfld (s5 _ _ h4) G.cls G.st (Nat.le_of_ble_eq_true rfl) fun H6 k6 h6 => ?_
    replace h6 : H6 x = some (.ins C dx [("modulus", .int m), ("cells", .int c), ("inputs", .int n), ("steps", .ref q)]) := by with_unfolding_all exact h6
    walk_at "rdN6"
    have hxq : q ≠ x := fun e => by rw [e, h4] at nq; cases nq
    exact k _ (kk.trans ((Kp.of s5).trans k6)) ⟨dx, q, ws, h6, k6 _ _ hxq hq, (hl4.same s5).tk (TK.kpi (s5 _ _ h4) k6) (steps_flat ss)⟩
theorem n_mk {vs : List V} {H : Hp} {Q : VK} {p : Addr} {m c n : Int} {ss : List Step} {ws : List V} (e : vs = [.int m, .int c, .int n, .ref p]) (hp : H p = some (.lst ws)) (hl : RpL H (ss.map Step.d) ws) (vp : Vp m c n ss)
    (k : ∀ x H', H x = none → Same H H' → Prg C H' x m c n ss → Q (.ref x) H') : rMake C (spInit C) [] C8.E0 vs H Q :=
  n_make fun x dx H1 nx s1 hx => ⟨x, p, dx, m, c, n, ss, ws, by subst e; rfl, hx, s1 _ _ hp, hl.same s1, vp, fun H2 k2 pr => ⟨rfl, k x H2 nx (same_kp nx s1 k2) pr⟩⟩
theorem met_len (T : Gs mg) (G : PgC K C) (F : MetAt K C "__len__" "Program.__len__" s_Program___len__) : C8.Met P w K mg base 1 C "__len__" (spLen C) [] := by
  refine met_of G F sc_Program___len__ bi_Program___len__ (fun vs H Q E h => ?_) (fun f cdv A outer s H vs Q E hr h => ?_)
  · obtain ⟨x, m, c, n, ss, rfl, _⟩ := h
    rfl
  · refine ⟨_, (pss_one (ps_ret (pe_callB b_len (by rfl) T.n_len PySem.boot_len (pa_cons (pe_fld (pv 0) rfl) pa_nil)))), ?_⟩
    obtain ⟨x, m, c, n, ss, rfl, ⟨dx, q, ws, hx, hq, hl⟩, k⟩ := h
    have hlen := hl.len
    rw [List.length_map] at hlen
    have g1 := G.cls
    have g2 := G.st
    walk_at "rdN6"
    rw [hlen]
    exact k
theorem met_part (T : Gs mg) (G : PgC K C) (c_is_integer : C8.Cal P w K mg base 1 "is_integer" spIsInt []) (c_Program : C8.Mak P w K mg base 7 "Program" C (spInit C) []) (F : MetAt K C "part" "Program.part" s_Program_part) : C8.Met P w K mg base 9 C "part" (spPart C) [] := by
  refine met_of G F sc_Program_part bi_Program_part (fun vs H Q E h => ?_) (fun f cdv A outer s H vs Q E hr h => ?_)
  · obtain ⟨x, m, c, n, k, ss, rfl, _⟩ := h
    rfl
  · refine ⟨_, (pss_cons (ps_if (PW.pt (pw_or (pt_not (pt_val (C8.pe_c c_is_integer hr (by first | decide | omega) rfl (pa_cons (pv 1) pa_nil)))) (pw_or1 (pt_not (pt_chain op_le op_le pe_int (pv 1) (pe_callB b_len (by rfl) T.n_len PySem.boot_len (pa_cons (pe_fld (pv 0) rfl) pa_nil))))))) (pss_one (ps_never)) pss_nil)
      (pss_one (ps_ret (C8.pe_mk c_Program hr (by first | decide | omega) rfl (pa_cons (pe_fld (pv 0) rfl) (pa_cons (pe_fld (pv 0) rfl) (pa_cons (pe_fld (pv 0) rfl) (pa_cons (pe_slice sl_list (pe_fld (pv 0) rfl) po_none (po_some (pv 1))) pa_nil)))))))), ?_⟩
    obtain ⟨x, m, c, n, kk, ss, rfl, ⟨dx, q, ws, hx, hq, hl⟩, vp, ⟨k0, k1⟩, k⟩ := h
    have hlen := hl.len
    rw [List.length_map] at hlen
    have g1 := G.cls
    have g2 := G.st
    have g3 := G.mo
    have g4 := G.ce
    have g5 := G.inp
    rw [← hlen] at k1
    walk_at "rdN6"
    refine n_slL hq (cut_to k0) fun r H1 nr s1 hr1 => ?_
    replace hx := s1 _ _ hx
    walk_at "rdN6"
    refine n_mk rfl hr1 ?_ (vp.take _) fun y H2 ny s2 pr => k y H2 (s1.trans s2) pr
    rw [List.map_take]
    exact (hl.take _).same s1
theorem met_neg (T : Gs mg) (G : PgC K C) (c_inverse_step : C8.Cal P w K mg base 2 "inverse_step" spInvStep []) (c_Program : C8.Mak P w K mg base 7 "Program" C (spInit C) []) (F : MetAt K C "__neg__" "Program.__neg__" s_Program___neg__) : C8.Met P w K mg base 9 C "__neg__" (spNeg C) [] := by
  refine met_of G F sc_Program___neg__ bi_Program___neg__ (fun vs H Q E h => ?_) (fun f cdv A outer s H vs Q E hr h => ?_)
  · obtain ⟨x, m, c, n, ss, rfl, _⟩ := h
    rfl
  · refine ⟨_, (pss_cons (ps_setLc (i := 1) (own := [("step", 2)]) (g := gName 2) (tt := tYes) rfl sc_Program___neg__.nd rfl rfl (sw_true rfl rfl rfl (by decide +kernel)) (pi_list (pe_fld (pv 0) rfl)) (blkOk_by (by first | decide +kernel | kernel_rfl)) (fun _ _ _ _ _ => pg_name (i := 2) sc_Program___neg__.nd rfl (by first | exact Or.inl rfl | exact Or.inr rfl)) (fun _ _ _ _ _ => pts_nil) (fun _ _ _ _ _ => (C8.pe_c c_inverse_step hr (by first | decide | omega) rfl (pa_cons (pv 2) (pa_cons (pe_fldK (K := K) rfl (pv 0) rfl) pa_nil)))))
      (pss_one (ps_ret (C8.pe_mk c_Program hr (by first | decide | omega) rfl (pa_cons (pe_fld (pv 0) rfl) (pa_cons (pe_fld (pv 0) rfl) (pa_cons (pe_fld (pv 0) rfl) (pa_cons (pe_revL (pv 1)) pa_nil)))))))), ?_⟩
    obtain ⟨x, m, c, n, ss, rfl, ⟨dx, q, ws, hx, hq, hl⟩, vp, k⟩ := h
    have hlen := hl.len
    rw [List.length_map] at hlen
    have g1 := G.cls
    have g2 := G.st
    have g3 := G.mo
    have g4 := G.ce
    have g5 := G.inp
    walk_at "rdN6"
    refine n_lcL hq fun D H0 nD s0 hD => ⟨fun i H' => ∃ acc, Same H H' ∧ H' D = some (.lst acc) ∧ RpL H' ((ss.take i).map fun s => (s.inv m).d) acc, ⟨[], s0, hD, rfl⟩, fun i H' h => ?_, fun i y H' hy h => ?_, fun H' h => ?_⟩
    · obtain ⟨acc, s1, _⟩ := h
      exact s1 _ _ hq
    · obtain ⟨acc, s1, hacc, hra⟩ := h
      obtain ⟨df, hdf, hfv⟩ := hl.at hy
      obtain ⟨st, hst, rfl⟩ := Option.map_eq_some_iff.mp (by rwa [List.getElem?_map] at hdf)
      have hx1 := s1 _ _ hx
      walk_at "rdN6"
      refine ⟨st, m, c, n, y, rfl, hfv.same s1, vp.ok _ (List.mem_of_getElem? hst), vp.m2, vp.m9, fun v' H2 s2 hv' => ?_⟩
      have hal := hra.len
      refine n_acc (s2 _ _ hacc) (by
        rw [hal, List.length_map, List.length_take]
        have := vp.le
        have : sizeLine = 2 ^ 24 := rfl
        omega) fun H3 k3 h3 => ⟨_, same_kp nD (s1.trans s2) k3, h3, ?_⟩
      rw [take_snoc hst, List.map_append]
      have fl := flats_map (f := fun s : Step => (s.inv m).d) (fun s => step_flat _) (ss.take i ++ [st])
      rw [List.map_append] at fl
      exact ((hra.same s2).snoc hv').tk (TK.kp (s2 _ _ hacc) k3) fl
    · obtain ⟨acc, s1, hacc, hra⟩ := h
      rw [show ws.length = ss.length from hlen, List.take_length] at hra
      replace hx := s1 _ _ hx
      walk_at "rdN6"
      refine n_revL hacc fun r H1 nr s2 hr1 => ?_
      refine n_mk rfl hr1 ?_ vp.inverse fun y H2 ny s3 pr => k y H2 (s1.trans (s2.trans s3)) pr
      unfold Bf.inverse
      rw [List.map_reverse, List.map_map]
      exact (hra.rev).same s2
theorem met_back (T : Gs mg) (G : PgC K C) (m_part : C8.Met P w K mg base 9 C "part" (spPart C) []) (m___neg__ : C8.Met P w K mg base 9 C "__neg__" (spNeg C) []) (F : MetAt K C "called_back" "Program.called_back" s_Program_called_back) : C8.Met P w K mg base 10 C "called_back" (spBack C) [] := by
  refine met_of G F sc_Program_called_back bi_Program_called_back (fun vs H Q E h => ?_) (fun f cdv A outer s H vs Q E hr h => ?_)
  · obtain ⟨x, m, c, n, k, ss, rfl, _⟩ := h
    rfl
  · refine ⟨_, (pss_one (ps_ret (pe_un (un_own m___neg__ hr (by decide)) (C8.pe_mt m_part hr (by first | decide | omega) (pv 0) (pa_cons (pv 1) pa_nil))))), ?_⟩
    obtain ⟨x, m, c, n, kk, ss, rfl, pr, vp, ⟨k0, k1⟩, k⟩ := h
    have pr0 := pr
    obtain ⟨dx, q, ws, hx, hq, hl⟩ := pr
    walk_at "rdN6"
    refine ⟨x, m, c, n, kk, ss, rfl, pr0, vp, ⟨k0, k1⟩, fun y H1 s1 pr1 => ?_⟩
    have pr2 := pr1
    obtain ⟨dx1, q1, ws1, hx1, _⟩ := pr1
    exact ⟨y, dx1, _, rfl, hx1, y, m, c, n, _, rfl, pr2, vp.take _, fun z H2 s2 pr3 => k z H2 (s1.trans s2) pr3⟩
theorem met_run (T : Gs mg) (G : PgC K C) (c_check_numbers : C8.Cal P w K mg base 3 "check_numbers" spNums []) (c_perform : C8.Cal P w K mg base 4 "perform" spPerf []) (F : MetAt K C "run" "Program.run" s_Program_run) : C8.Met P w K mg base 5 C "run" (spRun C) [] := by
  refine met_of G F sc_Program_run bi_Program_run (fun vs H Q E h => ?_) (fun f cdv A outer s H vs Q E hr h => ?_)
  · obtain ⟨x, l, g, m, c, n, ss, mem, given, rfl, _⟩ := h
    rfl
  · refine ⟨_, (pss_cons (ps_expr (C8.pe_c c_check_numbers hr (by first | decide | omega) rfl (pa_cons (pv 1) (pa_cons (pe_fld (pv 0) rfl) (pa_cons (pe_fld (pv 0) rfl) pa_nil)))))
      (pss_cons (ps_expr (C8.pe_c c_check_numbers hr (by first | decide | omega) rfl (pa_cons (pv 2) (pa_cons (pe_fld (pv 0) rfl) (pa_cons (pe_fld (pv 0) rfl) pa_nil)))))
      (pss_cons (ps_set (i := 3) sc_Program_run.nd rfl (by first | exact Or.inl rfl | exact Or.inr rfl) (pe_callTy b_list (by rfl) T.n_list (by decide +kernel) (pa_cons (pv 1) pa_nil)))
      (pss_cons (ps_for PassesOwn.never rfl (pi_list (pe_fld (pv 0) rfl)) (pg_name (i := 4) sc_Program_run.nd rfl (by first | exact Or.inl rfl | exact Or.inr rfl)) (pss_one (ps_expr (C8.pe_c c_perform hr (by first | decide | omega) rfl (pa_cons (pv 4) (pa_cons (pv 3) (pa_cons (pv 2) (pa_cons (pe_fld (pv 0) rfl) pa_nil))))))))
      (pss_one (ps_ret (pv 3))))))), ?_⟩
    obtain ⟨x, l, g, m, c, n, ss, mem, given, rfl, ⟨dx, q, ws, hx, hq, hl⟩, vp, hm, hg, hM, hG, k⟩ := h
    have hlen := hl.len
    rw [List.length_map] at hlen
    have g1 := G.cls
    have g2 := G.st
    have g3 := G.mo
    have g4 := G.ce
    have g5 := G.inp
    walk_at "rdN6"
    refine ⟨mem, m, c, l, rfl, hm, hM, ?_⟩
    walk_at "rdN6"
    refine ⟨given, m, n, g, rfl, hg, hG, ?_⟩
    walk_at "rdN6"
    refine n_listL hm fun r H1 nr s1 hr1 => ?_
    have hx0 := hx
    replace hx := s1 _ _ hx
    walk_at "rdN6"
    refine n_forL (fun i σ H' => ∃ u1 : Option V, σ = [some (.ref x), some (.ref l), some (.ref g), some (.ref r), u1] ∧ Same H H' ∧ H' r = some (.lst ((runs m given mem (ss.take i)).map V.int))) (s1 _ _ hq) ⟨_, rfl, s1, hr1⟩ (fun i σ H' _ h => by obtain ⟨_, _, s2, _⟩ := h; exact SqL.of (s2 _ _ hq)) ?_ ?_
    · rintro i y σ H' hy ⟨u1, rfl, s2, hr2⟩
      have hx2 : H' x = some (.ins C dx [("modulus", .int m), ("cells", .int c), ("inputs", .int n), ("steps", .ref q)]) := s2 _ _ hx0
      obtain ⟨df, hdf, hfv⟩ := hl.at hy
      obtain ⟨st, hst, rfl⟩ := Option.map_eq_some_iff.mp (by rwa [List.getElem?_map] at hdf)
      have hok := vp.ok _ (List.mem_of_getElem? hst)
      walk_at "rdN6"
      refine ⟨st, m, c, n, y, r, g, runs m given mem (ss.take i), given, rfl, hfv.same s2, hok, vp.m2, vp.m9, hr2, s2 _ _ hg, runs_mem vp.m2 hM (fun s hs => vp.ok s (List.mem_of_mem_take hs)), hG, fun H3 k3 h3 => ?_⟩
      walk_at "rdN6"
      refine ⟨_, rfl, same_kp nr s2 k3, ?_⟩
      have e : runs m given mem (ss.take (i + 1)) = perf m given (runs m given mem (ss.take i)) st := foldl_take _ _ hst
      rw [h3, e]
    · rintro σ H' ⟨u1, rfl, s2, hr2⟩
      rw [show ws.length = ss.length from hlen, List.take_length] at hr2
      walk_at "rdN6"
      exact k r H' nr s2 hr2
end
end Bf
/-! the program's methods, as the law calls them -/
namespace Bf
open PySem L2
theorem Prg.ds {C : Addr} {D : DD} {H H' : Hp} {x : Addr} {m c n : Int} {ss : List Step} (h : Prg C H x m c n ss) (dr : Drw D H) (s : Ds D H H') : Prg C H' x m c n ss := by
  obtain ⟨dx, q, ws, h1, h2, h3⟩ := h
  refine ⟨dx, q, ws, s.kp _ _ (fun e => ?_) h1, s.kp _ _ (steps_ne dr h2 h3) h2, h3.tk (Ds.tk dr s) (steps_flat ss)⟩
  obtain ⟨⟨k, h4, _⟩, _⟩ := dr
  rw [e, h4] at h1
  cases h1
section
variable {K : PySem.W.Frag} {C : Addr} {σ : St} {H : Hp} {Q : VK} {x la lg : Addr} {m c n : Int} {ss : List Step} {mem given : List Int} {i j g : Nat}
theorem n_methP {nm : Str} {sp : Sp} {ts : TA} {E : XK} (pr : Prg C H x m c n ss) (l : ∀ q, List.lookup nm [("modulus", V.int m), ("cells", .int c), ("inputs", .int n), ("steps", .ref q)] = none) (k : ts σ H fun vs H2 => sp (.ref x :: (vs ++ [])) H2 Q E) : rMeth C nm sp [] E ts σ (.ref x) H Q := by
  obtain ⟨dx, q, ws, h1, h2, h3⟩ := pr
  exact n_meth h1 (l q) k
theorem n_run (pr : Prg C H x m c n ss) (vp : Vp m c n ss) (ha : σ[j]? = some (some (.ref la))) (hb : σ[g]? = some (some (.ref lg))) (hla : H la = some (.lst (mem.map V.int))) (hlg : H lg = some (.lst (given.map V.int))) (hM : Mem m c mem) (hG : Mem m n given)
    (k : ∀ q H', Same H H' → H' q = some (.lst ((runs m given mem ss).map V.int)) → Mem m c (runs m given mem ss) → Q (.ref q) H') :
    rMeth C "run" (spRun C) [] C8.E0 (tCons (tCB (rListOf K) (tCons (tVar j) tNil)) (tCons (tCB (rListOf K) (tCons (tVar g) tNil)) tNil)) σ (.ref x) H Q := by
  refine n_methP pr (fun _ => by with_unfolding_all rfl) ?_
  refine r_cons (r_CB (r_cons (r_var ha (r_nil (n_listL hla fun l1 H1 n1 s1 h1 => ?_)))))
  refine r_cons (r_CB (r_cons (r_var hb (r_nil (n_listL (s1 _ _ hlg) fun l2 H2 n2 s2 h2 => ?_)))))
  exact r_nil ⟨x, l1, l2, m, c, n, ss, mem, given, rfl, pr.same (s1.trans s2), vp, s2 _ _ h1, h2, hM, hG, fun q H3 nq s3 hq => k q H3 (s1.trans (s2.trans s3)) hq (runs_mem vp.m2 hM vp.ok)⟩
theorem n_neg (pr : Prg C H x m c n ss) (vp : Vp m c n ss) (k : ∀ y H', Same H H' → Prg C H' y m c n (Bf.inverse m ss) → Q (.ref y) H') : rNegO C (spNeg C) (.ref x) H Q := by
  have pr0 := pr
  obtain ⟨dx, q, ws, h1, h2, h3⟩ := pr
  exact ⟨x, dx, _, rfl, h1, x, m, c, n, ss, rfl, pr0, vp, k⟩
theorem n_part {v : Int} (pr : Prg C H x m c n ss) (vp : Vp m c n ss) (ha : σ[j]? = some (some (.int v))) (h0 : 0 ≤ v ∧ v ≤ ss.length) (k : ∀ y H', Same H H' → Prg C H' y m c n (ss.take v.toNat) → Q (.ref y) H') : rMeth C "part" (spPart C) [] C8.E0 (tCons (tVar j) tNil) σ (.ref x) H Q := by
  refine n_methP pr (fun _ => by with_unfolding_all rfl) ?_
  exact r_cons (r_var ha (r_nil ⟨x, m, c, n, v, ss, rfl, pr, vp, h0, k⟩))
theorem n_back {v : Int} (pr : Prg C H x m c n ss) (vp : Vp m c n ss) (ha : σ[j]? = some (some (.int v))) (h0 : 0 ≤ v ∧ v ≤ ss.length) (k : ∀ y H', Same H H' → Prg C H' y m c n (Bf.inverse m (ss.take v.toNat)) → Q (.ref y) H') : rMeth C "called_back" (spBack C) [] C8.E0 (tCons (tVar j) tNil) σ (.ref x) H Q := by
  refine n_methP pr (fun _ => by with_unfolding_all rfl) ?_
  exact r_cons (r_var ha (r_nil ⟨x, m, c, n, v, ss, rfl, pr, vp, h0, k⟩))
theorem n_lenP (pr : Prg C H x m c n ss) (hl : ss.length ≤ 1000000) (k : Q (.int ss.length) H) : rLenO C (spLen C) [.ref x] H Q := by
  have pr0 := pr
  obtain ⟨dx, q, ws, h1, h2, h3⟩ := pr
  exact ⟨x, dx, _, rfl, h1, x, m, c, n, ss, rfl, pr0, ss.length, rfl, by omega, k⟩
theorem n_steps {P : V → Prop} (G : PgC K C) (pr : Prg C H x m c n ss) (k : ∀ q ws, H q = some (.lst ws) → RpL H (ss.map Step.d) ws → P (.ref q)) :
    ∃ a' C' dx fs w, V.ref x = .ref a' ∧ H a' = some (.ins C' dx fs) ∧ Cls K C' ∧ NoAttr K C' "steps" ∧ fs.lookup ("steps" : Str) = some w ∧ P w := by
  obtain ⟨dx, q, ws, h1, h2, h3⟩ := pr
  exact ⟨x, C, dx, _, .ref q, rfl, h1, G.cls, G.st, by with_unfolding_all rfl, k q ws h2 h3⟩
theorem steps_wid {l : List Step} (h : ∀ s ∈ l, s.ok m c n) (hl : l.length ≤ 1000000) : (Dt.l (l.map Step.d)).wid ≤ 1000000 := by
  have h1 := wids_map (f := Step.d) (k := 1000000) (l := l) fun s hs => step_wid (h s hs)
  show max (l.map Step.d).length _ ≤ _
  rw [List.length_map]
  omega
theorem steps_dep {l : List Step} : (Dt.l (l.map Step.d)).dep ≤ 4 := by
  have h1 := deps_map (f := Step.d) (k := 3) (l := l) fun s hs => step_dep s
  show Dt.deps _ + 1 ≤ 4
  omega
theorem n_eqI {a b : Addr} {xs : List Int} {E : XK} (ha : H a = some (.lst (xs.map V.int))) (hb : H b = some (.lst (xs.map V.int))) (hl : xs.length ≤ 1000000) (q : Q (.bl true) H) : spEq 4 ([.ref a, .ref b] ++ []) H Q E := by
  refine n_eq (d := .l (xs.map .i)) ⟨a, _, rfl, ha, RpL.ints xs⟩ ⟨b, _, rfl, hb, RpL.ints xs⟩ ?_ ?_ q
  · have := deps_map (f := Dt.i) (k := 0) (l := xs) fun x _ => Nat.le_refl _
    show Dt.deps _ + 1 ≤ 4
    omega
  · have := ints_wid xs
    show max (xs.map Dt.i).length _ ≤ _
    rw [List.length_map]
    omega
theorem n_eqP {a b : Addr} {us ws : List V} {E : XK} (vp : Vp m c n ss) (ha : H a = some (.lst us)) (hb : H b = some (.lst ws)) (h1 : RpL H (ss.map Step.d) us) (h2 : RpL H (ss.map Step.d) ws) (q : Q (.bl true) H) : spEq 4 ([.ref a, .ref b] ++ []) H Q E :=
  n_eq (d := .l (ss.map Step.d)) ⟨a, _, rfl, ha, h1⟩ ⟨b, _, rfl, hb, h2⟩ steps_dep (steps_wid vp.ok (by have := vp.le; omega)) q
end
end Bf
local macro_rules | `(tactic| walk_at "pfL1") => `(tactic| first | decide +kernel | omega | assumption | rfl | (simp only [List.length_cons, List.length_nil]; omega))
local macro_rules | `(tactic| walk_at "rd1L1") => `(tactic| first
  | with_reducible refine Bf.r_seq ?_
  | with_reducible refine Bf.r_asg ?_
  | with_reducible refine Bf.r_var (by with_unfolding_all rfl) ?_
  | with_reducible refine Bf.r_c ?_
  | with_reducible refine Bf.r_name ?_
  | with_reducible refine Bf.r_ret ?_
  | with_reducible refine Bf.r_op ?_
  | with_reducible refine Bf.r_I0 ?_
  | ((with_reducible refine Bf.r_I ?c ?_); (case c => first | decide | (show (0 : Int) < _; omega) | (refine Or.inl ⟨?_, ?_⟩ <;> omega) | (refine Or.inr ⟨?_, ?_⟩ <;> omega) | (refine And.intro ?_ ?_ <;> omega)))
  | with_reducible refine Bf.r_ifS ?_
  | with_reducible refine Bf.r_test ?_
  | with_reducible refine Bf.r_isbl ?_
  | with_reducible refine Bf.r_eqI ?_
  | with_reducible refine Bf.r_neI ?_
  | with_reducible refine Bf.r_eqS ?_
  | with_reducible refine Bf.r_neS ?_
  | with_reducible refine Bf.r_cons ?_
  | with_reducible refine Bf.r_nil ?_
  | with_reducible refine Bf.r_CB ?_
  | with_reducible refine Bf.r_call ?_
  | with_reducible refine Bf.i_t ?_
  | with_reducible refine Bf.i_f ?_
  | with_reducible refine Bf.i_nt ?_
  | with_reducible refine Bf.i_nf ?_
  | with_reducible refine Bf.r_ixT (by assumption) (by with_unfolding_all rfl) ?_
  | with_reducible refine Bf.r_ixL (by assumption) (by with_unfolding_all rfl) ?_
  | with_reducible refine Bf.r_fld ?_
  | ((with_reducible refine Bf.r_fat (by assumption) ?c ?n (by with_unfolding_all rfl) ?_); (case c => assumption); (case n => assumption))
  | with_reducible refine Bf.r_par ?_
  | with_reducible refine Bf.r_two ?_
  | with_reducible refine Bf.r_aug (by with_unfolding_all rfl) ?_
  | with_reducible refine Bf.r_ip ?_
  | with_reducible refine Bf.r_app (by with_unfolding_all rfl) (by assumption) ?_
  | with_reducible refine Bf.r_next ?_
  | with_reducible refine Bf.r_cont ?_
  | with_reducible refine Bf.r_drop ?_
  | with_reducible refine Bf.r_and ?_
  | with_reducible refine Bf.r_or ?_
  | with_reducible refine Bf.r_not ?_
  | with_reducible refine Bf.r_andV ?_
  | with_reducible refine Bf.r_orV ?_
  | with_reducible refine Bf.r_notV ?_
  | with_reducible refine Bf.r_chain ?_
  | with_reducible refine Bf.r_B ?_
  | with_reducible refine Bf.r_ifE ?_
  | with_reducible refine Bf.r_un ?_
  | with_reducible refine Bf.r_U ?_
  | with_reducible refine Bf.r_tup ?_
  | with_reducible refine Bf.r_lst ?_
  | with_reducible refine Bf.r_lenT (by assumption) ?_
  | with_reducible refine Bf.r_lenL (by assumption) ?_
  | with_reducible refine Bf.r_int ?_
  | with_reducible refine Bf.r_max2 ?_
  | with_reducible refine Bf.r_min2 ?_
  | with_reducible refine Bf.isi_ Bf.ty_i Bf.kb_ii ?_
  | with_reducible refine Bf.isi_ Bf.ty_i Bf.kb_ib ?_
  | with_reducible refine Bf.isi_ Bf.ty_i Bf.kb_is ?_
  | with_reducible refine Bf.isi_ Bf.ty_i Bf.kb_it ?_
  | with_reducible refine Bf.isi_ Bf.ty_i Bf.kb_il ?_
  | with_reducible refine Bf.isi_ Bf.ty_s Bf.kb_si ?_
  | with_reducible refine Bf.isi_ Bf.ty_s Bf.kb_sb ?_
  | with_reducible refine Bf.isi_ Bf.ty_s Bf.kb_ss ?_
  | with_reducible refine Bf.isi_ Bf.ty_s Bf.kb_st ?_
  | with_reducible refine Bf.isi_ Bf.ty_s Bf.kb_sl ?_
  | with_reducible refine Bf.isi_ (Bf.ty_t (by assumption)) Bf.kb_tt ?_
  | with_reducible refine Bf.isi_ (Bf.ty_l (by assumption)) Bf.kb_ll ?_
  | with_reducible refine Bf.isi_ (Bf.ty_t (by assumption)) Bf.kb_tl ?_
  | with_reducible refine Bf.isi_ (Bf.ty_l (by assumption)) Bf.kb_lt ?_
  | with_reducible refine Bf.isi_ Bf.ty_b Bf.kb_bi ?_
  | with_reducible refine Bf.isi_ Bf.ty_b Bf.kb_bb ?_
  | with_reducible refine Bf.isi_ Bf.ty_b Bf.kb_bs ?_
  | with_reducible refine Bf.isi_ Bf.ty_b Bf.kb_bt ?_
  | with_reducible refine Bf.isi_ Bf.ty_b Bf.kb_bL ?_
  | with_reducible refine Bf.isi_ Bf.ty_n Bf.kb_ni ?_
  | with_reducible refine Bf.isi_ Bf.ty_n Bf.kb_nb ?_
  | with_reducible refine Bf.isi_ Bf.ty_n Bf.kb_ns ?_
  | with_reducible refine Bf.isi_ Bf.ty_n Bf.kb_nt ?_
  | with_reducible refine Bf.isi_ Bf.ty_n Bf.kb_nl ?_
  | with_reducible refine Bf.isi_ (Bf.ty_t (by assumption)) Bf.kb_ti ?_
  | with_reducible refine Bf.isi_ (Bf.ty_l (by assumption)) Bf.kb_li ?_
  | with_reducible refine Bf.isi_ (Bf.ty_t (by assumption)) Bf.kb_tb ?_
  | with_reducible refine Bf.isi_ (Bf.ty_l (by assumption)) Bf.kb_lb ?_
  | with_reducible refine Bf.isi_ (Bf.ty_t (by assumption)) Bf.kb_ts ?_
  | with_reducible refine Bf.isi_ (Bf.ty_l (by assumption)) Bf.kb_ls ?_
  | with_reducible refine Bf.r_gtup (by assumption) (by with_unfolding_all rfl) ?_
  | with_reducible refine Bf.r_gcons ?_
  | with_reducible refine Bf.r_gnil ?_
  | with_reducible refine Bf.r_gsub ?_
  | ((with_reducible refine Bf.n_num ?h ?_); (case h => first | assumption | (refine And.intro ?_ ?_ <;> omega)))
  | with_reducible refine Bf.n_isint ?_
  | with_reducible refine Bf.n_mixed ?_
  | with_reducible refine Bf.r_dget ?_
  | with_reducible refine Bf.n_dgetS (by assumption) (by with_unfolding_all rfl) ?_
  | with_reducible refine Bf.r_pcons ?_
  | with_reducible refine Bf.r_pnil ?_
  | with_reducible refine Bf.r_sl ?_
  | with_reducible refine Bf.r_nopart ?_
  | with_reducible refine Bf.r_part ?_
  | with_reducible refine Bf.r_isint ?_
  | with_reducible refine Bf.r_revL ?_
  | with_reducible refine Bf.r_sfld ?_
  | with_reducible refine Bf.r_meth ?_
  | with_reducible refine Bf.n_meth (by assumption) (by with_unfolding_all rfl) ?_
  | with_reducible refine Bf.r_make ?_
  | with_reducible refine Bf.r_turn ?_
  | with_reducible refine Bf.r_wipe (by with_unfolding_all rfl) ?_
  | with_reducible refine Bf.r_yes ?_
  | with_reducible refine Bf.r_lcL ?_
  | with_reducible refine Bf.r_lcT ?_
  | with_reducible refine Bf.r_lcR ?_
  | with_reducible refine Bf.r_forL ?_
  | with_reducible refine Bf.r_forZ ?_
  | with_reducible refine Bf.r_forT ?_
  | with_reducible refine Bf.r_forR ?_
  | with_reducible refine Bf.r_forR2 ?_
  | ((with_reducible refine Bf.i_d1 ?h ?_); (case h => walk_at "pfL1"))
  | ((with_reducible refine Bf.i_d0 ?h ?_); (case h => walk_at "pfL1"))
  | ((with_reducible refine Bf.i_n1 ?h ?_); (case h => walk_at "pfL1"))
  | ((with_reducible refine Bf.i_n0 ?h ?_); (case h => walk_at "pfL1")))
local macro_rules | `(tactic| walk_at "rdL1") => `(tactic| repeat walk_at "rd1L1")
namespace Bf
open PySem L2
abbrev s__law_mixed : Stmt := topS 29
theorem bi__law_mixed : ∀ (kV doc pm : Value) (an : Option Addr) (cdv ct : Value) (us : List Value), us.length = 2 → bindArgs (PySem.W.fnOf "_law_mixed" "_law_mixed" (defArgs s__law_mixed) (defBody s__law_mixed) (defScope s__law_mixed) .none kV doc pm an cdv ct) ⟨us, []⟩ = pure ((["_law_number_here", "_law_k"] : List Str).zip us) := fun _ _ _ _ _ _ us hl => match us, hl with | [_, _], _ => rfl
theorem sc__law_mixed : FnScope ["_law_number_here", "_law_k", "_law_step_here"] ["_law_number_here", "_law_k"] (defScope s__law_mixed) := C8.fnScope_by (by decide +kernel)
abbrev s__law_numbers : Stmt := topS 30
theorem bi__law_numbers : ∀ (kV doc pm : Value) (an : Option Addr) (cdv ct : Value) (us : List Value), us.length = 1 → bindArgs (PySem.W.fnOf "_law_numbers" "_law_numbers" (defArgs s__law_numbers) (defBody s__law_numbers) (defScope s__law_numbers) .none kV doc pm an cdv ct) ⟨us, []⟩ = pure ((["_law_script"] : List Str).zip us) := fun _ _ _ _ _ _ us hl => match us, hl with | [_], _ => rfl
theorem sc__law_numbers : FnScope ["_law_script", "_law_numbers_here", "_law_cell", "_law_rest", "_law_k"] ["_law_script"] (defScope s__law_numbers) := C8.fnScope_by (by decide +kernel)
abbrev s__law_draw : Stmt := topS 31
theorem bi__law_draw : ∀ (kV doc pm : Value) (an : Option Addr) (cdv ct : Value) (us : List Value), us.length = 1 → bindArgs (PySem.W.fnOf "_law_draw" "_law_draw" (defArgs s__law_draw) (defBody s__law_draw) (defScope s__law_draw) .none kV doc pm an cdv ct) ⟨us, []⟩ = pure ((["_law_draws"] : List Str).zip us) := fun _ _ _ _ _ _ us hl => match us, hl with | [_], _ => rfl
theorem sc__law_draw : FnScope ["_law_draws", "_law_at", "_law_first"] ["_law_draws"] (defScope s__law_draw) := C8.fnScope_by (by decide +kernel)
abbrev s__law_large : Stmt := topS 34
theorem bi__law_large : ∀ (kV doc pm : Value) (an : Option Addr) (cdv ct : Value) (us : List Value), us.length = 2 → bindArgs (PySem.W.fnOf "_law_large" "_law_large" (defArgs s__law_large) (defBody s__law_large) (defScope s__law_large) .none kV doc pm an cdv ct) ⟨us, []⟩ = pure ((["_law_draws", "_law_bound"] : List Str).zip us) := fun _ _ _ _ _ _ us hl => match us, hl with | [_, _], _ => rfl
theorem sc__law_large : FnScope ["_law_draws", "_law_bound", "_law_number_here"] ["_law_draws", "_law_bound"] (defScope s__law_large) := C8.fnScope_by (by decide +kernel)
def spNumbers (K : PySem.W.Frag) : Sp := fun vs H Q _ => ∃ (xs : List Int) (p : Addr), vs = [.ref p] ∧ SqL K H p (xs.map V.int) ∧ xs.length ≤ 100 ∧ ∀ (q : Addr) (ns : List Int) (H' : Hp), H q = none → Same H H' → H' q = some (.lst (ns.map V.int)) → (∀ x ∈ ns, 0 ≤ x ∧ x < 1000000) → Q (.ref q) H'
section
variable {P : Program} {w : World} {K : PySem.W.Frag} {mg : Str → Option Value} {base : Heap}
theorem cal__law_mixed (T : Gs mg) (F : DefAt K mg "_law_mixed" s__law_mixed) : C8.Cal P w K mg base 1 "_law_mixed" spMixed [] := by
  refine cal_of F sc__law_mixed bi__law_mixed (fun vs H Q E h => ?_) (fun f cdv A outer s H vs Q E hr h => ?_)
  · obtain ⟨n, k, rfl, _⟩ := h
    rfl
  · refine ⟨_, (pss_cons (ps_set (i := 2) sc__law_mixed.nd rfl (by first | exact Or.inl rfl | exact Or.inr rfl) (pe_op op_mod (pe_op op_add (pe_op op_add (pe_op op_mul (pv 0) pe_int) (pe_op op_mul (pv 1) pe_int)) pe_int) pe_int))
      (pss_one (ps_ret (pe_op op_mod (pe_op op_add (pe_op op_mul (pv 2) (pe_op op_add (pe_op op_fdivN (pv 2) pe_int) pe_int)) (pv 1)) pe_int)))), ?_⟩
    obtain ⟨n, k, rfl, h⟩ := h
    have hb : 0 ≤ (n * 48271 + k * 69621 + 12345) % 2147483647 ∧ (n * 48271 + k * 69621 + 12345) % 2147483647 < 2147483647 := ⟨Int.emod_nonneg _ (by decide), Int.emod_lt_of_pos _ (by decide)⟩
    walk_at "rdL1"
    rw [Int.fdiv_eq_ediv_of_nonneg _ (by decide)]
    exact h
theorem cal__law_draw (T : Gs mg) (c__law_mixed : C8.Cal P w K mg base 1 "_law_mixed" spMixed []) (F : DefAt K mg "_law_draw" s__law_draw) : C8.Cal P w K mg base 2 "_law_draw" spDraw [] := by
  refine cal_of F sc__law_draw bi__law_draw (fun vs H Q E h => ?_) (fun f cdv A outer s H vs Q E hr h => ?_)
  · obtain ⟨D, rfl, _⟩ := h
    rfl
  · refine ⟨_, (pss_cons (ps_set (i := 1) sc__law_draw.nd rfl (by first | exact Or.inl rfl | exact Or.inr rfl) (pe_ix ix_seq (pv 0) pe_int (fun _ _ => rfl)))
      (pss_cons (ps_asg (pe_op op_add (pv 1) pe_int) (pg_sub (pv 0) pe_int set_list))
      (pss_cons (ps_if (pt_cmpR op_lt (pv 1) (pe_callB b_len (by rfl) T.n_len PySem.boot_len (pa_cons (pe_ix ix_seq (pv 0) pe_int (fun _ _ => rfl)) pa_nil)) (nomark _)) (pss_one (ps_ret (pe_ix ix_seq (pe_ix ix_seq (pv 0) pe_int (fun _ _ => rfl)) (pv 1) (fun _ _ => rfl)))) pss_nil)
      (pss_cons (ps_set (i := 2) sc__law_draw.nd rfl (by first | exact Or.inl rfl | exact Or.inr rfl) (pe_op op_add pe_int (pv 1)))
      (pss_cons (ps_if (pt_cmpR op_gt (pe_callB b_len (by rfl) T.n_len PySem.boot_len (pa_cons (pe_ix ix_seq (pv 0) pe_int (fun _ _ => rfl)) pa_nil)) pe_int (nomark _)) (pss_one (ps_set (i := 2) sc__law_draw.nd rfl (by first | exact Or.inl rfl | exact Or.inr rfl) (pe_op op_add (pv 2) (pe_op op_mul pe_int (pe_ix ix_seq (pe_ix ix_seq (pv 0) pe_int (fun _ _ => rfl)) pe_int (fun _ _ => rfl)))))) pss_nil)
      (pss_one (ps_ret (pe_op op_mod (C8.pe_c c__law_mixed hr (by first | decide | omega) rfl (pa_cons (C8.pe_c c__law_mixed hr (by first | decide | omega) rfl (pa_cons (pv 2) (pa_cons (pv 1) pa_nil))) (pa_cons pe_int pa_nil))) pe_int)))))))), ?_⟩
    obtain ⟨D, rfl, dr, k⟩ := h
    have dr0 := dr
    obtain ⟨⟨at_, h1, h2⟩, h3, h4⟩ := dr
    walk_at "rdL1"
    refine n_setL h1 (by decide) (by simp) fun H1 k1 hd1 => ?_
    have hl1 := k1 _ _ dr0.ld h3
    replace hd1 : H1 D.d = some (.lst [.ref D.l, .int (at_ + 1)]) := hd1
    have ds : Ds D H H1 := ⟨k1, ⟨_, hd1, by omega⟩, hl1, h4⟩
    walk_at "rdL1"
    refine i_d2 (fun c1 => ?_) (fun c1 => ?_)
    · walk_at "rdL1"
      rw [List.length_map] at c1
      have e1 : at_.toNat < D.ns.length := by omega
      refine r_ixL hl1 (at_nat h2 (by rw [List.getElem?_map, List.getElem?_eq_getElem e1]; rfl)) ?_
      have hb := h4 _ (List.getElem_mem e1)
      exact k _ _ hb.1 hb.2 ds
    · have fin : ∀ z : Int, 0 ≤ z % 1000000 ∧ z % 1000000 < 1000000 := fun z => ⟨Int.emod_nonneg _ (by decide), Int.emod_lt_of_pos _ (by decide)⟩
      walk_at "rdL1"
      refine i_d2 (fun c2 => ?_) (fun c2 => ?_)
      · rw [List.length_map] at c2
        walk_at "rdL1"
        refine r_ixL hl1 (at_nat (by decide) (by rw [List.getElem?_map, List.getElem?_eq_getElem (show (0 : Int).toNat < _ by show 0 < _; omega)]; rfl)) ?_
        walk_at "rdL1"
        exact k _ _ (fin _).1 (fin _).2 ds
      · walk_at "rdL1"
        exact k _ _ (fin _).1 (fin _).2 ds
theorem cal__law_large (T : Gs mg) (c__law_draw : C8.Cal P w K mg base 2 "_law_draw" spDraw []) (F : DefAt K mg "_law_large" s__law_large) : C8.Cal P w K mg base 3 "_law_large" spLarge [] := by
  refine cal_of F sc__law_large bi__law_large (fun vs H Q E h => ?_) (fun f cdv A outer s H vs Q E hr h => ?_)
  · obtain ⟨D, b, rfl, _⟩ := h
    rfl
  · refine ⟨_, (pss_cons (ps_set (i := 2) sc__law_large.nd rfl (by first | exact Or.inl rfl | exact Or.inr rfl) (pe_op op_add (C8.pe_c c__law_draw hr (by first | decide | omega) rfl (pa_cons (pv 0) pa_nil)) (pe_op op_mul (pe_op op_pow pe_int pe_int) (pe_op op_mod (C8.pe_c c__law_draw hr (by first | decide | omega) rfl (pa_cons (pv 0) pa_nil)) pe_int))))
      (pss_one (ps_ret (pe_op op_mod (pv 2) (pv 1))))), ?_⟩
    obtain ⟨D, b, rfl, dr, hb, k⟩ := h
    walk_at "rdL1"
    refine ⟨D, rfl, dr, fun v1 H1 a1 b1 s1 => ?_⟩
    walk_at "rdL1"
    refine ⟨D, rfl, s1.dr, fun v2 H2 a2 b2 s2 => ?_⟩
    walk_at "rdL1"
    exact k _ _ (Int.emod_nonneg _ (by omega)) (Int.emod_lt_of_pos _ hb) (s1.trans s2)
theorem cal__law_numbers (T : Gs mg) (c__law_mixed : C8.Cal P w K mg base 1 "_law_mixed" spMixed []) (F : DefAt K mg "_law_numbers" s__law_numbers) : C8.Cal P w K mg base 2 "_law_numbers" (spNumbers K) [] := by
  refine cal_of F sc__law_numbers bi__law_numbers (fun vs H Q E h => ?_) (fun f cdv A outer s H vs Q E hr h => ?_)
  · obtain ⟨xs, p, rfl, _⟩ := h
    rfl
  · refine ⟨_, (pss_cons (ps_set (i := 1) sc__law_numbers.nd rfl (by first | exact Or.inl rfl | exact Or.inr rfl) (pe_lst pa_nil))
      (pss_cons (ps_for PassesOwn.never rfl (pi_list (pv 0)) (pg_name (i := 2) sc__law_numbers.nd rfl (by first | exact Or.inl rfl | exact Or.inr rfl)) (pss_one (ps_if (pt_cmpR op_ge (pv 2) (pe_op op_pow pe_int pe_int) (nomark _)) (pss_cons (ps_set (i := 3) sc__law_numbers.nd rfl (by first | exact Or.inl rfl | exact Or.inr rfl) (pv 2))
      (pss_one (ps_for PassesOwn.never rfl (pi_range1 rfl T.n_range (pa_cons pe_int pa_nil)) (pg_name (i := 4) sc__law_numbers.nd rfl (by first | exact Or.inl rfl | exact Or.inr rfl)) (pss_one (ps_if (pt_cmpR op_gt (pv 3) pe_int (nomark _)) (pss_cons (ps_expr (pe_bm PySem.F.plainAttrs_list PySem.F.slot_list_append PySem.F.type_list_append mt_append (pv 1) (pa_cons (pe_op op_mod (pv 3) pe_int) pa_nil)))
      (pss_one (ps_set (i := 3) sc__law_numbers.nd rfl (by first | exact Or.inl rfl | exact Or.inr rfl) (pe_op op_fdivN (pv 3) pe_int)))) pss_nil))))) (pss_cons (ps_expr (pe_bm PySem.F.plainAttrs_list PySem.F.slot_list_append PySem.F.type_list_append mt_append (pv 1) (pa_cons (pe_op op_mod (pv 2) pe_int) pa_nil)))
      (pss_one (ps_for PassesOwn.never rfl (pi_range1 rfl T.n_range (pa_cons pe_int pa_nil)) (pg_name (i := 4) sc__law_numbers.nd rfl (by first | exact Or.inl rfl | exact Or.inr rfl)) (pss_one (ps_expr (pe_bm PySem.F.plainAttrs_list PySem.F.slot_list_append PySem.F.type_list_append mt_append (pv 1) (pa_cons (pe_op op_mod (C8.pe_c c__law_mixed hr (by first | decide | omega) rfl (pa_cons (C8.pe_c c__law_mixed hr (by first | decide | omega) rfl (pa_cons (pe_op op_mod (pv 2) pe_int) (pa_cons (pv 4) pa_nil))) (pa_cons (pe_op op_add (pv 4) pe_int) pa_nil))) pe_int) pa_nil))))))))))
      (pss_one (ps_ret (pv 1))))), ?_⟩
    obtain ⟨xs, p, rfl, hp, hlen, k⟩ := h
    walk_at "rdL1"
    refine n_lst (by decide) fun q H1 nq s1 hq => ?_
    walk_at "rdL1"
    refine n_forSL (fun i σ H' => ∃ (u1 u2 u3 : Option V) (ns : List Int), σ = [some (.ref p), some (.ref q), u1, u2, u3] ∧ Same H H' ∧ H' q = some (.lst (ns.map V.int)) ∧ ns.length ≤ i * 60 ∧ ∀ x ∈ ns, 0 ≤ x ∧ x < 1000000) (sql_same hp s1) ⟨_, _, _, [], rfl, s1, hq, by simp, by simp⟩ (fun i σ H' _ h => by obtain ⟨_, _, _, _, _, s2, _⟩ := h; exact sql_same hp s2) ?_ ?_
    · rintro i x σ H' hx ⟨u1, u2, u3, ns, rfl, s2, hq2, hl2, hb2⟩
      obtain ⟨cell, hcell, rfl⟩ := map_at hx
      have hi : i < 100 := by
        have := (List.getElem?_eq_some_iff.mp hcell).1
        omega
      have fin : ∀ z : Int, 0 ≤ z % 1000000 ∧ z % 1000000 < 1000000 := fun z => ⟨Int.emod_nonneg _ (by decide), Int.emod_lt_of_pos _ (by decide)⟩
      have snoc : ∀ (ms : List Int) (z : Int), (∀ x ∈ ms, 0 ≤ x ∧ x < 1000000) → ∀ x ∈ ms ++ [z % 1000000], 0 ≤ x ∧ x < 1000000 := fun ms z h x hx => by
        rcases List.mem_append.mp hx with q | q
        · exact h x q
        · rw [List.mem_singleton.mp q]
          exact fin z
      have hsz : sizeLine = 2 ^ 24 := rfl
      walk_at "rdL1"
      refine i_d2 (fun hc => ?_) (fun hc => ?_)
      · walk_at "rdL1"
        refine n_forR (fun j σ H2 => ∃ (u3 : Option V) (rest : Int) (ms : List Int), σ = [some (.ref p), some (.ref q), some (.int cell), some (.int rest), u3] ∧ Same H H2 ∧ H2 q = some (.lst (ms.map V.int)) ∧ ms.length ≤ i * 60 + j ∧ ∀ x ∈ ms, 0 ≤ x ∧ x < 1000000) (by decide) ⟨_, _, ns, rfl, s2, hq2, hl2, hb2⟩ ?_ ?_
        · rintro j σ H2 hj ⟨u3, rest, ms, rfl, s3, hq3, hl3, hb3⟩
          have hj' : j < 60 := hj
          walk_at "rdL1"
          refine i_d2 (fun hc => ?_) (fun hc => ?_)
          · walk_at "rdL1"
            refine n_app hq3 (by rw [List.length_map]; omega) fun H4 k4 hq4 => ?_
            walk_at "rdL1"
            exact ⟨_, _, ms ++ [rest % 1000000], rfl, same_kp nq s3 k4, by rw [hq4, List.map_append]; rfl, by rw [List.length_append]; simp; omega, snoc _ _ hb3⟩
          · walk_at "rdL1"
            exact ⟨_, _, ms, rfl, s3, hq3, by omega, hb3⟩
        · rintro σ H2 ⟨u3, rest, ms, rfl, s3, hq3, hl3, hb3⟩
          exact ⟨_, _, _, ms, rfl, s3, hq3, by have : (60 : Int).toNat = 60 := rfl; omega, hb3⟩
      · walk_at "rdL1"
        refine n_app hq2 (by rw [List.length_map]; omega) fun H2 k2 hq3 => ?_
        have s3 := same_kp nq s2 k2
        walk_at "rdL1"
        refine n_forR (fun j σ H2 => ∃ (u2 u3 : Option V) (ms : List Int), σ = [some (.ref p), some (.ref q), some (.int cell), u2, u3] ∧ Same H H2 ∧ H2 q = some (.lst (ms.map V.int)) ∧ ms.length ≤ i * 60 + 1 + j ∧ ∀ x ∈ ms, 0 ≤ x ∧ x < 1000000) (by decide) ⟨_, _, ns ++ [cell % 1000000], rfl, s3, by rw [hq3, List.map_append]; rfl, by rw [List.length_append]; simp; omega, snoc _ _ hb2⟩ ?_ ?_
        · rintro j σ H3 hj ⟨u2, u3, ms, rfl, s4, hq4, hl4, hb4⟩
          have hj' : j < 5 := hj
          walk_at "rdL1"
          refine n_app hq4 (by rw [List.length_map]; omega) fun H5 k5 hq5 => ?_
          walk_at "rdL1"
          exact ⟨_, _, _, rfl, same_kp nq s4 k5, by rw [hq5, ← List.map_singleton, ← List.map_append], by rw [List.length_append]; simp; omega, snoc _ _ hb4⟩
        · rintro σ H3 ⟨u2, u3, ms, rfl, s4, hq4, hl4, hb4⟩
          exact ⟨_, _, _, ms, rfl, s4, hq4, by have : (5 : Int).toNat = 5 := rfl; omega, hb4⟩
    · rintro σ H' ⟨u1, u2, u3, ns, rfl, s2, hq2, hl2, hb2⟩
      walk_at "rdL1"
      exact k q ns H' nq s2 hq2 hb2
end
end Bf
local macro_rules | `(tactic| walk_at "pfL2") => `(tactic| first | decide +kernel | omega | assumption | rfl | (simp only [List.length_cons, List.length_nil]; omega))
local macro_rules | `(tactic| walk_at "rd1L2") => `(tactic| first
  | with_reducible refine Bf.r_seq ?_
  | with_reducible refine Bf.r_asg ?_
  | with_reducible refine Bf.r_var (by with_unfolding_all rfl) ?_
  | with_reducible refine Bf.r_c ?_
  | with_reducible refine Bf.r_name ?_
  | with_reducible refine Bf.r_ret ?_
  | with_reducible refine Bf.r_op ?_
  | with_reducible refine Bf.r_I0 ?_
  | ((with_reducible refine Bf.r_I ?c ?_); (case c => first | decide | (show (0 : Int) < _; omega) | (refine Or.inl ⟨?_, ?_⟩ <;> omega) | (refine Or.inr ⟨?_, ?_⟩ <;> omega) | (refine And.intro ?_ ?_ <;> omega)))
  | with_reducible refine Bf.r_ifS ?_
  | with_reducible refine Bf.r_test ?_
  | with_reducible refine Bf.r_isbl ?_
  | with_reducible refine Bf.r_eqI ?_
  | with_reducible refine Bf.r_neI ?_
  | with_reducible refine Bf.r_eqS ?_
  | with_reducible refine Bf.r_neS ?_
  | with_reducible refine Bf.r_cons ?_
  | with_reducible refine Bf.r_nil ?_
  | with_reducible refine Bf.r_CB ?_
  | with_reducible refine Bf.r_call ?_
  | with_reducible refine Bf.i_t ?_
  | with_reducible refine Bf.i_f ?_
  | with_reducible refine Bf.i_nt ?_
  | with_reducible refine Bf.i_nf ?_
  | with_reducible refine Bf.r_ixT (by assumption) (by with_unfolding_all rfl) ?_
  | with_reducible refine Bf.r_ixL (by assumption) (by with_unfolding_all rfl) ?_
  | with_reducible refine Bf.r_fld ?_
  | ((with_reducible refine Bf.r_fat (by assumption) ?c ?n (by with_unfolding_all rfl) ?_); (case c => assumption); (case n => assumption))
  | with_reducible refine Bf.r_par ?_
  | with_reducible refine Bf.r_two ?_
  | with_reducible refine Bf.r_aug (by with_unfolding_all rfl) ?_
  | with_reducible refine Bf.r_ip ?_
  | with_reducible refine Bf.r_app (by with_unfolding_all rfl) (by assumption) ?_
  | with_reducible refine Bf.r_next ?_
  | with_reducible refine Bf.r_cont ?_
  | with_reducible refine Bf.r_drop ?_
  | with_reducible refine Bf.r_and ?_
  | with_reducible refine Bf.r_or ?_
  | with_reducible refine Bf.r_not ?_
  | with_reducible refine Bf.r_andV ?_
  | with_reducible refine Bf.r_orV ?_
  | with_reducible refine Bf.r_notV ?_
  | with_reducible refine Bf.r_chain ?_
  | with_reducible refine Bf.r_B ?_
  | with_reducible refine Bf.r_ifE ?_
  | with_reducible refine Bf.r_un ?_
  | with_reducible refine Bf.r_U ?_
  | with_reducible refine Bf.r_tup ?_
  | with_reducible refine Bf.r_lst ?_
  | with_reducible refine Bf.r_lenT (by assumption) ?_
  | with_reducible refine Bf.r_lenL (by assumption) ?_
  | with_reducible refine Bf.r_int ?_
  | with_reducible refine Bf.r_max2 ?_
  | with_reducible refine Bf.r_min2 ?_
  | with_reducible refine Bf.isi_ Bf.ty_i Bf.kb_ii ?_
  | with_reducible refine Bf.isi_ Bf.ty_i Bf.kb_ib ?_
  | with_reducible refine Bf.isi_ Bf.ty_i Bf.kb_is ?_
  | with_reducible refine Bf.isi_ Bf.ty_i Bf.kb_it ?_
  | with_reducible refine Bf.isi_ Bf.ty_i Bf.kb_il ?_
  | with_reducible refine Bf.isi_ Bf.ty_s Bf.kb_si ?_
  | with_reducible refine Bf.isi_ Bf.ty_s Bf.kb_sb ?_
  | with_reducible refine Bf.isi_ Bf.ty_s Bf.kb_ss ?_
  | with_reducible refine Bf.isi_ Bf.ty_s Bf.kb_st ?_
  | with_reducible refine Bf.isi_ Bf.ty_s Bf.kb_sl ?_
  | with_reducible refine Bf.isi_ (Bf.ty_t (by assumption)) Bf.kb_tt ?_
  | with_reducible refine Bf.isi_ (Bf.ty_l (by assumption)) Bf.kb_ll ?_
  | with_reducible refine Bf.isi_ (Bf.ty_t (by assumption)) Bf.kb_tl ?_
  | with_reducible refine Bf.isi_ (Bf.ty_l (by assumption)) Bf.kb_lt ?_
  | with_reducible refine Bf.isi_ Bf.ty_b Bf.kb_bi ?_
  | with_reducible refine Bf.isi_ Bf.ty_b Bf.kb_bb ?_
  | with_reducible refine Bf.isi_ Bf.ty_b Bf.kb_bs ?_
  | with_reducible refine Bf.isi_ Bf.ty_b Bf.kb_bt ?_
  | with_reducible refine Bf.isi_ Bf.ty_b Bf.kb_bL ?_
  | with_reducible refine Bf.isi_ Bf.ty_n Bf.kb_ni ?_
  | with_reducible refine Bf.isi_ Bf.ty_n Bf.kb_nb ?_
  | with_reducible refine Bf.isi_ Bf.ty_n Bf.kb_ns ?_
  | with_reducible refine Bf.isi_ Bf.ty_n Bf.kb_nt ?_
  | with_reducible refine Bf.isi_ Bf.ty_n Bf.kb_nl ?_
  | with_reducible refine Bf.isi_ (Bf.ty_t (by assumption)) Bf.kb_ti ?_
  | with_reducible refine Bf.isi_ (Bf.ty_l (by assumption)) Bf.kb_li ?_
  | with_reducible refine Bf.isi_ (Bf.ty_t (by assumption)) Bf.kb_tb ?_
  | with_reducible refine Bf.isi_ (Bf.ty_l (by assumption)) Bf.kb_lb ?_
  | with_reducible refine Bf.isi_ (Bf.ty_t (by assumption)) Bf.kb_ts ?_
  | with_reducible refine Bf.isi_ (Bf.ty_l (by assumption)) Bf.kb_ls ?_
  | with_reducible refine Bf.r_gtup (by assumption) (by with_unfolding_all rfl) ?_
  | with_reducible refine Bf.r_gcons ?_
  | with_reducible refine Bf.r_gnil ?_
  | with_reducible refine Bf.r_gsub ?_
  | ((with_reducible refine Bf.n_num ?h ?_); (case h => first | assumption | (refine And.intro ?_ ?_ <;> omega)))
  | with_reducible refine Bf.n_isint ?_
  | with_reducible refine Bf.n_mixed ?_
  | with_reducible refine Bf.r_dget ?_
  | with_reducible refine Bf.n_dgetS (by assumption) (by with_unfolding_all rfl) ?_
  | with_reducible refine Bf.r_pcons ?_
  | with_reducible refine Bf.r_pnil ?_
  | with_reducible refine Bf.r_sl ?_
  | with_reducible refine Bf.r_nopart ?_
  | with_reducible refine Bf.r_part ?_
  | with_reducible refine Bf.r_isint ?_
  | with_reducible refine Bf.r_revL ?_
  | with_reducible refine Bf.r_sfld ?_
  | with_reducible refine Bf.r_meth ?_
  | with_reducible refine Bf.n_meth (by assumption) (by with_unfolding_all rfl) ?_
  | with_reducible refine Bf.r_make ?_
  | with_reducible refine Bf.r_turn ?_
  | with_reducible refine Bf.r_wipe (by with_unfolding_all rfl) ?_
  | with_reducible refine Bf.r_yes ?_
  | with_reducible refine Bf.r_lcL ?_
  | with_reducible refine Bf.r_lcT ?_
  | with_reducible refine Bf.r_lcR ?_
  | with_reducible refine Bf.r_forL ?_
  | with_reducible refine Bf.r_forZ ?_
  | with_reducible refine Bf.r_forT ?_
  | with_reducible refine Bf.r_forR ?_
  | with_reducible refine Bf.r_forR2 ?_
  | ((with_reducible refine Bf.i_d1 ?h ?_); (case h => walk_at "pfL2"))
  | ((with_reducible refine Bf.i_d0 ?h ?_); (case h => walk_at "pfL2"))
  | ((with_reducible refine Bf.i_n1 ?h ?_); (case h => walk_at "pfL2"))
  | ((with_reducible refine Bf.i_n0 ?h ?_); (case h => walk_at "pfL2")))
local macro_rules | `(tactic| walk_at "rdL2") => `(tactic| repeat walk_at "rd1L2")
namespace Bf
open PySem L2
abbrev s__law_modulus : Stmt := topS 35
theorem bi__law_modulus : ∀ (kV doc pm : Value) (an : Option Addr) (cdv ct : Value) (us : List Value), us.length = 1 → bindArgs (PySem.W.fnOf "_law_modulus" "_law_modulus" (defArgs s__law_modulus) (defBody s__law_modulus) (defScope s__law_modulus) .none kV doc pm an cdv ct) ⟨us, []⟩ = pure ((["_law_draws"] : List Str).zip us) := fun _ _ _ _ _ _ us hl => match us, hl with | [_], _ => rfl
theorem sc__law_modulus : FnScope ["_law_draws", "_law_pick"] ["_law_draws"] (defScope s__law_modulus) := C8.fnScope_by (by decide +kernel)
abbrev s__law_number : Stmt := topS 36
theorem bi__law_number : ∀ (kV doc pm : Value) (an : Option Addr) (cdv ct : Value) (us : List Value), us.length = 2 → bindArgs (PySem.W.fnOf "_law_number" "_law_number" (defArgs s__law_number) (defBody s__law_number) (defScope s__law_number) .none kV doc pm an cdv ct) ⟨us, []⟩ = pure ((["_law_draws", "_law_modulus_here"] : List Str).zip us) := fun _ _ _ _ _ _ us hl => match us, hl with | [_, _], _ => rfl
theorem sc__law_number : FnScope ["_law_draws", "_law_modulus_here", "_law_pick"] ["_law_draws", "_law_modulus_here"] (defScope s__law_number) := C8.fnScope_by (by decide +kernel)
abbrev s__law_gcd : Stmt := topS 37
theorem bi__law_gcd : ∀ (kV doc pm : Value) (an : Option Addr) (cdv ct : Value) (us : List Value), us.length = 2 → bindArgs (PySem.W.fnOf "_law_gcd" "_law_gcd" (defArgs s__law_gcd) (defBody s__law_gcd) (defScope s__law_gcd) .none kV doc pm an cdv ct) ⟨us, []⟩ = pure ((["_law_one", "_law_two"] : List Str).zip us) := fun _ _ _ _ _ _ us hl => match us, hl with | [_, _], _ => rfl
theorem sc__law_gcd : FnScope ["_law_one", "_law_two", "_law_k", "_law_rest"] ["_law_one", "_law_two"] (defScope s__law_gcd) := C8.fnScope_by (by decide +kernel)
abbrev s__law_unit : Stmt := topS 38
theorem bi__law_unit : ∀ (kV doc pm : Value) (an : Option Addr) (cdv ct : Value) (us : List Value), us.length = 2 → bindArgs (PySem.W.fnOf "_law_unit" "_law_unit" (defArgs s__law_unit) (defBody s__law_unit) (defScope s__law_unit) .none kV doc pm an cdv ct) ⟨us, []⟩ = pure ((["_law_draws", "_law_modulus_here"] : List Str).zip us) := fun _ _ _ _ _ _ us hl => match us, hl with | [_, _], _ => rfl
theorem sc__law_unit : FnScope ["_law_draws", "_law_modulus_here", "_law_k", "_law_number_here"] ["_law_draws", "_law_modulus_here"] (defScope s__law_unit) := C8.fnScope_by (by decide +kernel)
abbrev s__law_prime : Stmt := topS 39
theorem bi__law_prime : ∀ (kV doc pm : Value) (an : Option Addr) (cdv ct : Value) (us : List Value), us.length = 1 → bindArgs (PySem.W.fnOf "_law_prime" "_law_prime" (defArgs s__law_prime) (defBody s__law_prime) (defScope s__law_prime) .none kV doc pm an cdv ct) ⟨us, []⟩ = pure ((["_law_draws"] : List Str).zip us) := fun _ _ _ _ _ _ us hl => match us, hl with | [_], _ => rfl
theorem sc__law_prime : FnScope ["_law_draws"] ["_law_draws"] (defScope s__law_prime) := C8.fnScope_by (by decide +kernel)
abbrev s__law_table : Stmt := topS 40
theorem bi__law_table : ∀ (kV doc pm : Value) (an : Option Addr) (cdv ct : Value) (us : List Value), us.length = 2 → bindArgs (PySem.W.fnOf "_law_table" "_law_table" (defArgs s__law_table) (defBody s__law_table) (defScope s__law_table) .none kV doc pm an cdv ct) ⟨us, []⟩ = pure ((["_law_draws", "_law_prime_here"] : List Str).zip us) := fun _ _ _ _ _ _ us hl => match us, hl with | [_, _], _ => rfl
theorem sc__law_table : FnScope ["_law_draws", "_law_prime_here", "_law_count", "_law_j", "_law_i"] ["_law_draws", "_law_prime_here"] (defScope s__law_table) := C8.fnScope_by (by decide +kernel)
abbrev s__law_factor : Stmt := topS 41
theorem bi__law_factor : ∀ (kV doc pm : Value) (an : Option Addr) (cdv ct : Value) (us : List Value), us.length = 4 → bindArgs (PySem.W.fnOf "_law_factor" "_law_factor" (defArgs s__law_factor) (defBody s__law_factor) (defScope s__law_factor) .none kV doc pm an cdv ct) ⟨us, []⟩ = pure ((["_law_draws", "_law_target", "_law_cells", "_law_inputs"] : List Str).zip us) := fun _ _ _ _ _ _ us hl => match us, hl with | [_, _, _, _], _ => rfl
theorem sc__law_factor : FnScope ["_law_draws", "_law_target", "_law_cells", "_law_inputs"] ["_law_draws", "_law_target", "_law_cells", "_law_inputs"] (defScope s__law_factor) := C8.fnScope_by (by decide +kernel)
section
variable {P : Program} {w : World} {K : PySem.W.Frag} {mg : Str → Option Value} {base : Heap}
theorem cal__law_modulus (T : Gs mg) (c__law_draw : C8.Cal P w K mg base 2 "_law_draw" spDraw []) (c__law_large : C8.Cal P w K mg base 3 "_law_large" spLarge []) (F : DefAt K mg "_law_modulus" s__law_modulus) : C8.Cal P w K mg base 4 "_law_modulus" spModulus [] := by
  refine cal_of F sc__law_modulus bi__law_modulus (fun vs H Q E h => ?_) (fun f cdv A outer s H vs Q E hr h => ?_)
  · obtain ⟨D, rfl, _⟩ := h
    rfl
  · refine ⟨_, (pss_cons (ps_set (i := 1) sc__law_modulus.nd rfl (by first | exact Or.inl rfl | exact Or.inr rfl) (pe_op op_mod (C8.pe_c c__law_draw hr (by first | decide | omega) rfl (pa_cons (pv 0) pa_nil)) pe_int))
      (pss_cons (ps_if (pt_cmpR op_lt (pv 1) pe_int (nomark _)) (pss_one (ps_ret (pe_ix ix_seq (pe_lst (pa_cons pe_int (pa_cons pe_int (pa_cons (pe_op op_pow pe_int pe_int) (pa_cons pe_int pa_nil))))) (pv 1) (fun _ _ => rfl)))) pss_nil)
      (pss_cons (ps_if (pt_cmpR op_lt (pv 1) pe_int (nomark _)) (pss_one (ps_ret (pe_op op_add pe_int (pe_op op_mod (C8.pe_c c__law_draw hr (by first | decide | omega) rfl (pa_cons (pv 0) pa_nil)) pe_int)))) pss_nil)
      (pss_one (ps_ret (pe_op op_add pe_int (C8.pe_c c__law_large hr (by first | decide | omega) rfl (pa_cons (pv 0) (pa_cons (pe_op op_sub (pe_op op_pow pe_int pe_int) pe_int) pa_nil))))))))), ?_⟩
    obtain ⟨D, rfl, dr, k⟩ := h
    walk_at "rdL2"
    refine ⟨D, rfl, dr, fun v1 H1 a1 b1 s1 => ?_⟩
    have p1 := mod_bd v1 (b := 8) (by decide)
    walk_at "rdL2"
    refine i_d2 (fun hc => ?_) (fun hc => ?_)
    · walk_at "rdL2"
      refine n_lst (Nat.le_of_ble_eq_true rfl) fun q H2 nq s2 hq => ?_
      walk_at "rdL2"
      refine n_pick (ns := [2, 3, 1000000000, 999999937]) hq p1.1 hc fun x hx => ?_
      refine k _ _ ?_ ?_ (s1.same s2)
      all_goals
        simp only [List.mem_cons, List.not_mem_nil, or_false] at hx
        omega
    · walk_at "rdL2"
      refine i_d2 (fun hc2 => ?_) (fun hc2 => ?_)
      · walk_at "rdL2"
        refine ⟨D, rfl, s1.dr, fun v2 H2 a2 b2 s2 => ?_⟩
        walk_at "rdL2"
        exact k _ _ (by omega) (by omega) (s1.trans s2)
      · walk_at "rdL2"
        refine ⟨D, _, rfl, s1.dr, by decide, fun v2 H2 a2 b2 s2 => ?_⟩
        replace b2 : v2 < 999999999 := b2
        walk_at "rdL2"
        exact k _ _ (by omega) (by omega) (s1.trans s2)
theorem cal__law_number (T : Gs mg) (c__law_draw : C8.Cal P w K mg base 2 "_law_draw" spDraw []) (c__law_large : C8.Cal P w K mg base 3 "_law_large" spLarge []) (F : DefAt K mg "_law_number" s__law_number) : C8.Cal P w K mg base 4 "_law_number" spNumber [] := by
  refine cal_of F sc__law_number bi__law_number (fun vs H Q E h => ?_) (fun f cdv A outer s H vs Q E hr h => ?_)
  · obtain ⟨D, m, rfl, _⟩ := h
    rfl
  · refine ⟨_, (pss_cons (ps_set (i := 2) sc__law_number.nd rfl (by first | exact Or.inl rfl | exact Or.inr rfl) (pe_op op_mod (C8.pe_c c__law_draw hr (by first | decide | omega) rfl (pa_cons (pv 0) pa_nil)) pe_int))
      (pss_cons (ps_if (pt_cmpR op_lt (pv 2) pe_int (nomark _)) (pss_one (ps_ret (pe_ix ix_seq (pe_lst (pa_cons pe_int (pa_cons pe_int (pa_cons (pe_op op_sub (pv 1) pe_int) pa_nil)))) (pv 2) (fun _ _ => rfl)))) pss_nil)
      (pss_one (ps_ret (C8.pe_c c__law_large hr (by first | decide | omega) rfl (pa_cons (pv 0) (pa_cons (pv 1) pa_nil))))))), ?_⟩
    obtain ⟨D, m, rfl, dr, m2, k⟩ := h
    walk_at "rdL2"
    refine ⟨D, rfl, dr, fun v1 H1 a1 b1 s1 => ?_⟩
    have p1 := mod_bd v1 (b := 6) (by decide)
    walk_at "rdL2"
    refine i_d2 (fun hc => ?_) (fun hc => ?_)
    · walk_at "rdL2"
      refine n_lst (Nat.le_of_ble_eq_true rfl) fun q H2 nq s2 hq => ?_
      walk_at "rdL2"
      refine n_pick (ns := [0, 1, m - 1]) hq p1.1 hc fun x hx => ?_
      refine k _ _ ?_ ?_ (s1.same s2)
      all_goals
        simp only [List.mem_cons, List.not_mem_nil, or_false] at hx
        omega
    · walk_at "rdL2"
      exact ⟨D, _, rfl, s1.dr, by omega, fun v2 H2 a2 b2 s2 => k _ _ a2 b2 (s1.trans s2)⟩
theorem cal__law_gcd (T : Gs mg) (F : DefAt K mg "_law_gcd" s__law_gcd) : C8.Cal P w K mg base 1 "_law_gcd" spGcd [] := by
  refine cal_of F sc__law_gcd bi__law_gcd (fun vs H Q E h => ?_) (fun f cdv A outer s H vs Q E hr h => ?_)
  · obtain ⟨a, b, rfl, _⟩ := h
    rfl
  · refine ⟨_, (pss_cons (ps_for PassesOwn.never rfl (pi_range1 rfl T.n_range (pa_cons pe_int pa_nil)) (pg_name (i := 2) sc__law_gcd.nd rfl (by first | exact Or.inl rfl | exact Or.inr rfl)) (pss_cons (ps_if (pt_cmpR op_eq (pv 1) pe_int (nomark _)) (pss_one (ps_ret (pv 0))) pss_nil)
      (pss_cons (ps_set (i := 3) sc__law_gcd.nd rfl (by first | exact Or.inl rfl | exact Or.inr rfl) (pe_op op_mod (pe_callTy b_int (by rfl) T.n_int (by decide +kernel) (pa_cons (pv 0) pa_nil)) (pv 1)))
      (pss_cons (ps_set (i := 0) sc__law_gcd.nd rfl (by first | exact Or.inl rfl | exact Or.inr rfl) (pv 1))
      (pss_one (ps_set (i := 1) sc__law_gcd.nd rfl (by first | exact Or.inl rfl | exact Or.inr rfl) (pv 3)))))))
      (pss_one (ps_ret (pv 0)))), ?_⟩
    obtain ⟨a, b, rfl, a0, b0, k⟩ := h
    walk_at "rdL2"
    refine n_forR (fun i σ H' => ∃ (u1 u2 : Option V) (x y : Int), σ = [some (.int x), some (.int y), u1, u2] ∧ H' = H ∧ 0 ≤ x ∧ 0 ≤ y ∧ Int.gcd x y = Int.gcd a b) (by decide) ⟨_, _, a, b, rfl, rfl, a0, b0, rfl⟩ ?_ ?_
    · rintro i σ H' hi ⟨u1, u2, x, y, rfl, rfl, x0, y0, hg⟩
      walk_at "rdL2"
      refine i_d2 (fun hc => ?_) (fun hc => ?_)
      · subst hc
        walk_at "rdL2"
        refine k _ fun e => ?_
        subst e
        rw [← hg]
        rfl
      · have y1 : 0 < y := by omega
        walk_at "rdL2"
        exact ⟨_, _, _, _, rfl, rfl, y0, (mod_bd x y1).1, by rw [gcd_mod, Int.gcd_comm]; exact hg⟩
    · rintro σ H' ⟨u1, u2, x, y, rfl, rfl, x0, y0, hg⟩
      walk_at "rdL2"
      refine k _ fun e => ?_
      subst e
      rw [← hg, Int.one_gcd]
theorem cal__law_unit (T : Gs mg) (c__law_number : C8.Cal P w K mg base 4 "_law_number" spNumber []) (c__law_gcd : C8.Cal P w K mg base 1 "_law_gcd" spGcd []) (F : DefAt K mg "_law_unit" s__law_unit) : C8.Cal P w K mg base 5 "_law_unit" spUnit [] := by
  refine cal_of F sc__law_unit bi__law_unit (fun vs H Q E h => ?_) (fun f cdv A outer s H vs Q E hr h => ?_)
  · obtain ⟨D, m, rfl, _⟩ := h
    rfl
  · refine ⟨_, (pss_cons (ps_for PassesOwn.never rfl (pi_range1 rfl T.n_range (pa_cons pe_int pa_nil)) (pg_name (i := 2) sc__law_unit.nd rfl (by first | exact Or.inl rfl | exact Or.inr rfl)) (pss_cons (ps_set (i := 3) sc__law_unit.nd rfl (by first | exact Or.inl rfl | exact Or.inr rfl) (C8.pe_c c__law_number hr (by first | decide | omega) rfl (pa_cons (pv 0) (pa_cons (pv 1) pa_nil))))
      (pss_one (ps_if (pt_cmpR op_eq (C8.pe_c c__law_gcd hr (by first | decide | omega) rfl (pa_cons (pv 3) (pa_cons (pv 1) pa_nil))) pe_int (nomark _)) (pss_one (ps_ret (pv 3))) pss_nil))))
      (pss_one (ps_ret (pe_op op_sub (pv 1) pe_int)))), ?_⟩
    obtain ⟨D, m, rfl, dr, m2, k⟩ := h
    walk_at "rdL2"
    refine n_forR (fun i σ H' => ∃ (u1 u2 : Option V), σ = [some (.ref D.d), some (.int m), u1, u2] ∧ Ds D H H') (by decide) ⟨_, _, rfl, Ds.refl dr⟩ ?_ ?_
    · rintro i σ H' hi ⟨u1, u2, rfl, s1⟩
      walk_at "rdL2"
      refine ⟨D, m, rfl, s1.dr, m2, fun v H2 v0 v1 s2 => ?_⟩
      walk_at "rdL2"
      refine ⟨v, m, rfl, v0, by omega, fun r hr1 => ?_⟩
      walk_at "rdL2"
      refine i_d2 (fun hc => ?_) (fun hc => ?_)
      · walk_at "rdL2"
        exact k _ _ v0 v1 (hr1 hc) (s1.trans s2)
      · walk_at "rdL2"
        exact ⟨_, _, rfl, s1.trans s2⟩
    · rintro σ H' ⟨u1, u2, rfl, s1⟩
      walk_at "rdL2"
      exact k _ _ (by omega) (by omega) (unit_last m2) s1
theorem cal__law_prime (T : Gs mg) (c__law_draw : C8.Cal P w K mg base 2 "_law_draw" spDraw []) (F : DefAt K mg "_law_prime" s__law_prime) : C8.Cal P w K mg base 3 "_law_prime" spPrimeD [] := by
  refine cal_of F sc__law_prime bi__law_prime (fun vs H Q E h => ?_) (fun f cdv A outer s H vs Q E hr h => ?_)
  · obtain ⟨D, rfl, _⟩ := h
    rfl
  · refine ⟨_, (pss_one (ps_ret (pe_ix ix_seq (pe_lst (pa_cons pe_int (pa_cons pe_int (pa_cons pe_int (pa_cons pe_int (pa_cons pe_int (pa_cons pe_int (pa_cons pe_int (pa_cons pe_int pa_nil))))))))) (pe_op op_mod (C8.pe_c c__law_draw hr (by first | decide | omega) rfl (pa_cons (pv 0) pa_nil)) pe_int) (fun _ _ => rfl)))), ?_⟩
    obtain ⟨D, rfl, dr, k⟩ := h
    walk_at "rdL2"
    refine n_lst (Nat.le_of_ble_eq_true rfl) fun q H1 nq s0 hq => ?_
    walk_at "rdL2"
    refine ⟨D, rfl, dr.same s0, fun v1 H2 a1 b1 s1 => ?_⟩
    have p1 := mod_bd v1 (b := 8) (by decide)
    replace hq := Ds.new dr nq hq s1
    walk_at "rdL2"
    refine n_pick (ns := [2, 3, 5, 7, 11, 13, 101, 999999937]) hq p1.1 p1.2 fun x hx => ?_
    obtain ⟨x1, x2, x3⟩ := pr_list hx
    exact k _ _ x1 x2 x3 ((Ds.of dr s0).trans s1)
theorem cal__law_factor (T : Gs mg) (c__law_draw : C8.Cal P w K mg base 2 "_law_draw" spDraw []) (F : DefAt K mg "_law_factor" s__law_factor) : C8.Cal P w K mg base 3 "_law_factor" spFactorD [] := by
  refine cal_of F sc__law_factor bi__law_factor (fun vs H Q E h => ?_) (fun f cdv A outer s H vs Q E hr h => ?_)
  · obtain ⟨D, t, c, n, rfl, _⟩ := h
    rfl
  · refine ⟨_, (pss_cons (ps_if (PW.pt (pw_and (pt_cmpR op_gt (pv 2) pe_int (nomark _)) (pw_and1 (PW.pt (pw_or (pt_cmpR op_eq (pv 3) pe_int (nomark _)) (pw_or1 (pt_cmpR op_eq (pe_op op_mod (C8.pe_c c__law_draw hr (by first | decide | omega) rfl (pa_cons (pv 0) pa_nil)) pe_int) pe_int (nomark _)))))))) (pss_one (ps_ret (pe_tup (pa_cons pe_str (pa_cons (pe_op op_mod (pe_op op_add (pe_op op_add (pv 1) pe_int) (pe_op op_mod (C8.pe_c c__law_draw hr (by first | decide | omega) rfl (pa_cons (pv 0) pa_nil)) (pe_op op_sub (pv 2) pe_int))) (pv 2)) pa_nil))))) pss_nil)
      (pss_one (ps_ret (pe_tup (pa_cons pe_str (pa_cons (pe_op op_mod (C8.pe_c c__law_draw hr (by first | decide | omega) rfl (pa_cons (pv 0) pa_nil)) (pe_callB (b_max2 rfl) (by rfl) T.n_max (by decide +kernel) (pa_cons pe_int (pa_cons (pv 3) pa_nil)))) pa_nil)))))), ?_⟩
    obtain ⟨D, t, c, n, rfl, dr, ⟨t0, t1⟩, n0, hcn, k⟩ := h
    walk_at "rdL2"
    refine i_d2 (fun hc => ?_) (fun hc => ?_)
    · walk_at "rdL2"
      refine i_d2 (fun hn => ?_) (fun hn => ?_)
      · walk_at "rdL2"
        refine ⟨D, rfl, dr, fun v1 H1 a1 b1 s1 => ?_⟩
        have p1 := mod_bd v1 (b := c - 1) (by omega)
        have o1 := other_place t0 t1 p1.1 p1.2
        walk_at "rdL2"
        refine n_tup (Nat.le_of_ble_eq_true rfl) fun q H2 nq s2 hq => ?_
        exact k (.cell _) _ _ ⟨⟨o1.1, o1.2.1⟩, o1.2.2⟩ ⟨q, _, rfl, hq, _, _, rfl, rfl, _, _, rfl, rfl, rfl⟩ (s1.same s2)
      · walk_at "rdL2"
        refine ⟨D, rfl, dr, fun v0 H0 a0 b0 s0 => ?_⟩
        walk_at "rdL2"
        refine i_d2 (fun he => ?_) (fun he => ?_)
        · walk_at "rdL2"
          refine ⟨D, rfl, s0.dr, fun v1 H1 a1 b1 s1 => ?_⟩
          have p1 := mod_bd v1 (b := c - 1) (by omega)
          have o1 := other_place t0 t1 p1.1 p1.2
          walk_at "rdL2"
          refine n_tup (Nat.le_of_ble_eq_true rfl) fun q H2 nq s2 hq => ?_
          exact k (.cell _) _ _ ⟨⟨o1.1, o1.2.1⟩, o1.2.2⟩ ⟨q, _, rfl, hq, _, _, rfl, rfl, _, _, rfl, rfl, rfl⟩ ((s0.trans s1).same s2)
        · walk_at "rdL2"
          refine ⟨D, rfl, s0.dr, fun v1 H1 a1 b1 s1 => ?_⟩
          have p1 := mod_bd v1 (b := max 1 n) (by omega)
          walk_at "rdL2"
          refine n_tup (Nat.le_of_ble_eq_true rfl) fun q H2 nq s2 hq => ?_
          exact k (.inp _) _ _ ⟨p1.1, by omega⟩ ⟨q, _, rfl, hq, _, _, rfl, rfl, _, _, rfl, rfl, rfl⟩ ((s0.trans s1).same s2)
    · walk_at "rdL2"
      refine ⟨D, rfl, dr, fun v1 H1 a1 b1 s1 => ?_⟩
      have p1 := mod_bd v1 (b := max 1 n) (by omega)
      walk_at "rdL2"
      refine n_tup (Nat.le_of_ble_eq_true rfl) fun q H2 nq s2 hq => ?_
      exact k (.inp _) _ _ ⟨p1.1, by omega⟩ ⟨q, _, rfl, hq, _, _, rfl, rfl, _, _, rfl, rfl, rfl⟩ (s1.same s2)
theorem cal__law_table (T : Gs mg) (c__law_draw : C8.Cal P w K mg base 2 "_law_draw" spDraw []) (c__law_number : C8.Cal P w K mg base 4 "_law_number" spNumber []) (F : DefAt K mg "_law_table" s__law_table) : C8.Cal P w K mg base 5 "_law_table" spTableD [] := by
  refine cal_of F sc__law_table bi__law_table (fun vs H Q E h => ?_) (fun f cdv A outer s H vs Q E hr h => ?_)
  · obtain ⟨D, m, rfl, _⟩ := h
    rfl
  · refine ⟨_, (pss_cons (ps_set (i := 2) sc__law_table.nd rfl (by first | exact Or.inl rfl | exact Or.inr rfl) (pe_op op_add pe_int (pe_op op_mod (C8.pe_c c__law_draw hr (by first | decide | omega) rfl (pa_cons (pv 0) pa_nil)) (pe_callB (b_min2 rfl) (by rfl) T.n_min (by decide +kernel) (pa_cons (pv 1) (pa_cons pe_int pa_nil))))))
      (pss_one (ps_ret (pe_callTy b_tuple (by rfl) T.n_tuple (by decide +kernel) (pa_cons (pe_lc (own := [("_law_i", 4)]) (g := gName 4) (tt := tYes) rfl sc__law_table.nd (pi_range1 rfl T.n_range (pa_cons (pv 2) pa_nil)) (blkOk_by (by first | decide +kernel | kernel_rfl)) (fun _ _ _ _ _ => pg_name (i := 4) sc__law_table.nd rfl (by first | exact Or.inl rfl | exact Or.inr rfl)) (fun _ _ _ _ _ => pts_nil) (fun _ _ _ _ _ => (pe_callTy (b_tupleK (K := K) rfl) (by rfl) T.n_tuple (by decide +kernel) (pa_cons (pe_lc (own := [("_law_j", 3)]) (g := gName 3) (tt := tYes) rfl sc__law_table.nd (pi_range1 rfl T.n_range (pa_cons (pv 2) pa_nil)) (blkOk_by (by first | decide +kernel | kernel_rfl)) (fun _ _ _ _ _ => pg_name (i := 3) sc__law_table.nd rfl (by first | exact Or.inl rfl | exact Or.inr rfl)) (fun _ _ _ _ _ => pts_nil) (fun _ _ _ _ _ => (C8.pe_c c__law_number hr (by first | decide | omega) rfl (pa_cons (pv 0) (pa_cons (pv 1) pa_nil))))) pa_nil)))) pa_nil))))), ?_⟩
    obtain ⟨D, m, rfl, dr, m2, k⟩ := h
    walk_at "rdL2"
    refine ⟨D, rfl, dr, fun v1 H1 a1 b1 s1 => ?_⟩
    have p1 := mod_bd v1 (b := min m 4) (by omega)
    walk_at "rdL2"
    have hz : ∃ z : Nat, 1 + v1 % min m 4 = (z : Int) ∧ 1 ≤ z ∧ z ≤ 4 ∧ (z : Int) ≤ m := ⟨(1 + v1 % min m 4).toNat, by omega, by omega, by omega, by omega⟩
    obtain ⟨z, ez, z1, z4, zm⟩ := hz
    have hsz : sizeLine = 2 ^ 24 := rfl
    rw [ez]
    refine n_lcR (by omega) fun O H0 nO sO hO => ⟨fun i H' => ∃ (rows : List (List Int)) (acc : List V), Ds D H1 H' ∧ H' O = some (.lst acc) ∧ RpL H' (rows.map fun r => .t (r.map .i)) acc ∧ rows.length = i ∧ ∀ r ∈ rows, r.length = z ∧ ∀ e ∈ r, 0 ≤ e ∧ e < m,
      ⟨[], [], Ds.of s1.dr sO, hO, rfl, rfl, by simp⟩, fun i H2 hi h => ?_, fun H2 h => ?_⟩
    · obtain ⟨rows, acc, s2, hO2, hra, hlen, hrows⟩ := h
      walk_at "rdL2"
      refine n_lcR (by omega) fun E H3 nE sE hE => ⟨fun j H' => ∃ ns : List Int, Ds D H2 H' ∧ H' E = some (.lst (ns.map V.int)) ∧ ns.length = j ∧ ∀ e ∈ ns, 0 ≤ e ∧ e < m,
        ⟨[], Ds.of s2.dr sE, hE, rfl, by simp⟩, fun j H4 hj h => ?_, fun H4 h => ?_⟩
      · obtain ⟨ns, s4, hE4, hnl, hns⟩ := h
        walk_at "rdL2"
        refine ⟨D, m, rfl, s4.dr, m2, fun v H5 v0 v1 s5 => ?_⟩
        refine n_acc (Ds.new s2.dr nE hE4 s5) (by rw [List.length_map]; omega) fun H6 k6 h6 => ⟨ns ++ [v], Ds.kpn s2.dr nE (s4.trans s5) k6, by rw [h6, List.map_append]; rfl, by rw [List.length_append, hnl]; rfl, fun e he => ?_⟩
        rcases List.mem_append.mp he with q | q
        · exact hns e q
        · rw [List.mem_singleton.mp q]
          exact ⟨v0, v1⟩
      · obtain ⟨ns, s4, hE4, hnl, hns⟩ := h
        walk_at "rdL2"
        refine n_tupL hE4 fun q H5 nq s5 hq => ?_
        have hO5 := s5 _ _ (Ds.new s1.dr nO hO2 s4)
        have hra5 := (hra.tk (Ds.tk s2.dr s4) (flats_map (f := fun r : List Int => Dt.t (r.map .i)) (fun r => flats_map (f := Dt.i) (fun _ => rfl) r) rows)).same s5
        have hral := hra.len
        rw [List.length_map] at hral
        refine n_acc hO5 (by omega) fun H6 k6 h6 => ⟨rows ++ [ns], acc ++ [.ref q], Ds.kpn s1.dr nO ((s2.trans s4).same s5) k6, h6, ?_, by rw [List.length_append, hlen]; rfl, fun r hr2 => ?_⟩
        · rw [List.map_append]
          have hsn := hra5.snoc (d := .t (ns.map .i)) (v := .ref q) ⟨q, _, rfl, hq, RpL.ints ns⟩
          refine hsn.tk (TK.kp hO5 k6) ?_
          have fl := flats_map (f := fun r : List Int => Dt.t (r.map .i)) (fun r => flats_map (f := Dt.i) (fun _ => rfl) r) (rows ++ [ns])
          rwa [List.map_append] at fl
        · rcases List.mem_append.mp hr2 with q | q
          · exact hrows r q
          · rw [List.mem_singleton.mp q]
            exact ⟨by rw [hnl]; rfl, hns⟩
    · obtain ⟨rows, acc, s2, hO2, hra, hlen, hrows⟩ := h
      replace hlen : rows.length = z := by rw [hlen]; rfl
      walk_at "rdL2"
      refine n_tupL hO2 fun q H3 nq s3 hq => ?_
      exact k rows _ _ ⟨by omega, fun r hr2 => by rw [hlen]; exact (hrows r hr2).1, fun r hr2 => (hrows r hr2).2⟩ (by omega) (by omega) ⟨q, acc, rfl, hq, hra.same s3⟩ ((s1.trans s2).same s3)
end
end Bf
local macro_rules | `(tactic| walk_at "pfL3") => `(tactic| first | decide +kernel | omega | assumption | rfl | (simp only [List.length_cons, List.length_nil]; omega))
local macro_rules | `(tactic| walk_at "rd1L3") => `(tactic| first
  | with_reducible refine Bf.r_seq ?_
  | with_reducible refine Bf.r_asg ?_
  | with_reducible refine Bf.r_var (by with_unfolding_all rfl) ?_
  | with_reducible refine Bf.r_c ?_
  | with_reducible refine Bf.r_name ?_
  | with_reducible refine Bf.r_ret ?_
  | with_reducible refine Bf.r_op ?_
  | with_reducible refine Bf.r_I0 ?_
  | ((with_reducible refine Bf.r_I ?c ?_); (case c => first | decide | (show (0 : Int) < _; omega) | (refine Or.inl ⟨?_, ?_⟩ <;> omega) | (refine Or.inr ⟨?_, ?_⟩ <;> omega) | (refine And.intro ?_ ?_ <;> omega)))
  | with_reducible refine Bf.r_ifS ?_
  | with_reducible refine Bf.r_test ?_
  | with_reducible refine Bf.r_isbl ?_
  | with_reducible refine Bf.r_eqI ?_
  | with_reducible refine Bf.r_neI ?_
  | with_reducible refine Bf.r_eqS ?_
  | with_reducible refine Bf.r_neS ?_
  | with_reducible refine Bf.r_cons ?_
  | with_reducible refine Bf.r_nil ?_
  | with_reducible refine Bf.r_CB ?_
  | with_reducible refine Bf.r_call ?_
  | with_reducible refine Bf.i_t ?_
  | with_reducible refine Bf.i_f ?_
  | with_reducible refine Bf.i_nt ?_
  | with_reducible refine Bf.i_nf ?_
  | with_reducible refine Bf.r_ixT (by assumption) (by with_unfolding_all rfl) ?_
  | with_reducible refine Bf.r_ixL (by assumption) (by with_unfolding_all rfl) ?_
  | with_reducible refine Bf.r_fld ?_
  | ((with_reducible refine Bf.r_fat (by assumption) ?c ?n (by with_unfolding_all rfl) ?_); (case c => assumption); (case n => assumption))
  | with_reducible refine Bf.r_par ?_
  | with_reducible refine Bf.r_two ?_
  | with_reducible refine Bf.r_aug (by with_unfolding_all rfl) ?_
  | with_reducible refine Bf.r_ip ?_
  | with_reducible refine Bf.r_app (by with_unfolding_all rfl) (by assumption) ?_
  | with_reducible refine Bf.r_next ?_
  | with_reducible refine Bf.r_cont ?_
  | with_reducible refine Bf.r_drop ?_
  | with_reducible refine Bf.r_and ?_
  | with_reducible refine Bf.r_or ?_
  | with_reducible refine Bf.r_not ?_
  | with_reducible refine Bf.r_andV ?_
  | with_reducible refine Bf.r_orV ?_
  | with_reducible refine Bf.r_notV ?_
  | with_reducible refine Bf.r_chain ?_
  | with_reducible refine Bf.r_B ?_
  | with_reducible refine Bf.r_ifE ?_
  | with_reducible refine Bf.r_un ?_
  | with_reducible refine Bf.r_U ?_
  | with_reducible refine Bf.r_tup ?_
  | with_reducible refine Bf.r_lst ?_
  | with_reducible refine Bf.r_lenT (by assumption) ?_
  | with_reducible refine Bf.r_lenL (by assumption) ?_
  | with_reducible refine Bf.r_int ?_
  | with_reducible refine Bf.r_max2 ?_
  | with_reducible refine Bf.r_min2 ?_
  | with_reducible refine Bf.isi_ Bf.ty_i Bf.kb_ii ?_
  | with_reducible refine Bf.isi_ Bf.ty_i Bf.kb_ib ?_
  | with_reducible refine Bf.isi_ Bf.ty_i Bf.kb_is ?_
  | with_reducible refine Bf.isi_ Bf.ty_i Bf.kb_it ?_
  | with_reducible refine Bf.isi_ Bf.ty_i Bf.kb_il ?_
  | with_reducible refine Bf.isi_ Bf.ty_s Bf.kb_si ?_
  | with_reducible refine Bf.isi_ Bf.ty_s Bf.kb_sb ?_
  | with_reducible refine Bf.isi_ Bf.ty_s Bf.kb_ss ?_
  | with_reducible refine Bf.isi_ Bf.ty_s Bf.kb_st ?_
  | with_reducible refine Bf.isi_ Bf.ty_s Bf.kb_sl ?_
  | with_reducible refine Bf.isi_ (Bf.ty_t (by assumption)) Bf.kb_tt ?_
  | with_reducible refine Bf.isi_ (Bf.ty_l (by assumption)) Bf.kb_ll ?_
  | with_reducible refine Bf.isi_ (Bf.ty_t (by assumption)) Bf.kb_tl ?_
  | with_reducible refine Bf.isi_ (Bf.ty_l (by assumption)) Bf.kb_lt ?_
  | with_reducible refine Bf.isi_ Bf.ty_b Bf.kb_bi ?_
  | with_reducible refine Bf.isi_ Bf.ty_b Bf.kb_bb ?_
  | with_reducible refine Bf.isi_ Bf.ty_b Bf.kb_bs ?_
  | with_reducible refine Bf.isi_ Bf.ty_b Bf.kb_bt ?_
  | with_reducible refine Bf.isi_ Bf.ty_b Bf.kb_bL ?_
  | with_reducible refine Bf.isi_ Bf.ty_n Bf.kb_ni ?_
  | with_reducible refine Bf.isi_ Bf.ty_n Bf.kb_nb ?_
  | with_reducible refine Bf.isi_ Bf.ty_n Bf.kb_ns ?_
  | with_reducible refine Bf.isi_ Bf.ty_n Bf.kb_nt ?_
  | with_reducible refine Bf.isi_ Bf.ty_n Bf.kb_nl ?_
  | with_reducible refine Bf.isi_ (Bf.ty_t (by assumption)) Bf.kb_ti ?_
  | with_reducible refine Bf.isi_ (Bf.ty_l (by assumption)) Bf.kb_li ?_
  | with_reducible refine Bf.isi_ (Bf.ty_t (by assumption)) Bf.kb_tb ?_
  | with_reducible refine Bf.isi_ (Bf.ty_l (by assumption)) Bf.kb_lb ?_
  | with_reducible refine Bf.isi_ (Bf.ty_t (by assumption)) Bf.kb_ts ?_
  | with_reducible refine Bf.isi_ (Bf.ty_l (by assumption)) Bf.kb_ls ?_
  | with_reducible refine Bf.r_gtup (by assumption) (by with_unfolding_all rfl) ?_
  | with_reducible refine Bf.r_gcons ?_
  | with_reducible refine Bf.r_gnil ?_
  | with_reducible refine Bf.r_gsub ?_
  | ((with_reducible refine Bf.n_num ?h ?_); (case h => first | assumption | (refine And.intro ?_ ?_ <;> omega)))
  | with_reducible refine Bf.n_isint ?_
  | with_reducible refine Bf.n_mixed ?_
  | with_reducible refine Bf.r_dget ?_
  | with_reducible refine Bf.n_dgetS (by assumption) (by with_unfolding_all rfl) ?_
  | with_reducible refine Bf.r_pcons ?_
  | with_reducible refine Bf.r_pnil ?_
  | with_reducible refine Bf.r_sl ?_
  | with_reducible refine Bf.r_nopart ?_
  | with_reducible refine Bf.r_part ?_
  | with_reducible refine Bf.r_isint ?_
  | with_reducible refine Bf.r_revL ?_
  | with_reducible refine Bf.r_sfld ?_
  | with_reducible refine Bf.r_meth ?_
  | with_reducible refine Bf.n_meth (by assumption) (by with_unfolding_all rfl) ?_
  | with_reducible refine Bf.r_make ?_
  | with_reducible refine Bf.r_turn ?_
  | with_reducible refine Bf.r_wipe (by with_unfolding_all rfl) ?_
  | with_reducible refine Bf.r_yes ?_
  | with_reducible refine Bf.r_lcL ?_
  | with_reducible refine Bf.r_lcT ?_
  | with_reducible refine Bf.r_lcR ?_
  | with_reducible refine Bf.r_forL ?_
  | with_reducible refine Bf.r_forZ ?_
  | with_reducible refine Bf.r_forT ?_
  | with_reducible refine Bf.r_forR ?_
  | with_reducible refine Bf.r_forR2 ?_
  | ((with_reducible refine Bf.i_d1 ?h ?_); (case h => walk_at "pfL3"))
  | ((with_reducible refine Bf.i_d0 ?h ?_); (case h => walk_at "pfL3"))
  | ((with_reducible refine Bf.i_n1 ?h ?_); (case h => walk_at "pfL3"))
  | ((with_reducible refine Bf.i_n0 ?h ?_); (case h => walk_at "pfL3")))
local macro_rules | `(tactic| walk_at "rdL3") => `(tactic| repeat walk_at "rd1L3")
namespace Bf
open PySem L2
abbrev s__law_step : Stmt := topS 42
theorem bi__law_step : ∀ (kV doc pm : Value) (an : Option Addr) (cdv ct : Value) (us : List Value), us.length = 5 → bindArgs (PySem.W.fnOf "_law_step" "_law_step" (defArgs s__law_step) (defBody s__law_step) (defScope s__law_step) .none kV doc pm an cdv ct) ⟨us, []⟩ = pure ((["_law_draws", "_law_modulus_here", "_law_cells", "_law_inputs", "_law_prime_here"] : List Str).zip us) := fun _ _ _ _ _ _ us hl => match us, hl with | [_, _, _, _, _], _ => rfl
theorem sc__law_step : FnScope ["_law_draws", "_law_modulus_here", "_law_cells", "_law_inputs", "_law_prime_here", "_law_pick", "_law_target", "_law_other", "_law_last", "_law_places", "_law_sign", "_law_factors", "_law_k"] ["_law_draws", "_law_modulus_here", "_law_cells", "_law_inputs", "_law_prime_here"] (defScope s__law_step) := C8.fnScope_by (by decide +kernel)
abbrev s__law_memory : Stmt := topS 45
theorem bi__law_memory : ∀ (kV doc pm : Value) (an : Option Addr) (cdv ct : Value) (us : List Value), us.length = 2 → bindArgs (PySem.W.fnOf "_law_memory" "_law_memory" (defArgs s__law_memory) (defBody s__law_memory) (defScope s__law_memory) .none kV doc pm an cdv ct) ⟨us, []⟩ = pure ((["_law_draws", "_law_model"] : List Str).zip us) := fun _ _ _ _ _ _ us hl => match us, hl with | [_, _], _ => rfl
theorem sc__law_memory : FnScope ["_law_draws", "_law_model", "_law_k"] ["_law_draws", "_law_model"] (defScope s__law_memory) := C8.fnScope_by (by decide +kernel)
abbrev s__law_given : Stmt := topS 46
theorem bi__law_given : ∀ (kV doc pm : Value) (an : Option Addr) (cdv ct : Value) (us : List Value), us.length = 2 → bindArgs (PySem.W.fnOf "_law_given" "_law_given" (defArgs s__law_given) (defBody s__law_given) (defScope s__law_given) .none kV doc pm an cdv ct) ⟨us, []⟩ = pure ((["_law_draws", "_law_model"] : List Str).zip us) := fun _ _ _ _ _ _ us hl => match us, hl with | [_, _], _ => rfl
theorem sc__law_given : FnScope ["_law_draws", "_law_model", "_law_k"] ["_law_draws", "_law_model"] (defScope s__law_given) := C8.fnScope_by (by decide +kernel)
section
variable {P : Program} {w : World} {K : PySem.W.Frag} {mg : Str → Option Value} {base : Heap}
theorem cal__law_step (T : Gs mg) (c__law_draw : C8.Cal P w K mg base 2 "_law_draw" spDraw []) (c__law_unit : C8.Cal P w K mg base 5 "_law_unit" spUnit []) (c__law_table : C8.Cal P w K mg base 5 "_law_table" spTableD []) (c__law_factor : C8.Cal P w K mg base 3 "_law_factor" spFactorD []) (c__law_number : C8.Cal P w K mg base 4 "_law_number" spNumber []) (F : DefAt K mg "_law_step" s__law_step) : C8.Cal P w K mg base 6 "_law_step" spStepD [] := by
  refine cal_of F sc__law_step bi__law_step (fun vs H Q E h => ?_) (fun f cdv A outer s H vs Q E hr h => ?_)
  · obtain ⟨D, m, c, n, pr, rfl, _⟩ := h
    rfl
  · refine ⟨_, (pss_cons (ps_set (i := 5) sc__law_step.nd rfl (by first | exact Or.inl rfl | exact Or.inr rfl) (pe_op op_mod (C8.pe_c c__law_draw hr (by first | decide | omega) rfl (pa_cons (pv 0) pa_nil)) pe_int))
      (pss_cons (ps_set (i := 6) sc__law_step.nd rfl (by first | exact Or.inl rfl | exact Or.inr rfl) (pe_op op_mod (C8.pe_c c__law_draw hr (by first | decide | omega) rfl (pa_cons (pv 0) pa_nil)) (pv 2)))
      (pss_cons (ps_if (PW.pt (pw_and (pt_cmpR op_eq (pv 5) pe_int (nomark _)) (pw_and1 (pt_cmpR op_gt (pv 2) pe_int (nomark _))))) (pss_one (ps_ret (pe_tup (pa_cons pe_str (pa_cons (pv 6) (pa_cons (pe_op op_mod (pe_op op_add (pe_op op_add (pv 6) pe_int) (pe_op op_mod (C8.pe_c c__law_draw hr (by first | decide | omega) rfl (pa_cons (pv 0) pa_nil)) (pe_op op_sub (pv 2) pe_int))) (pv 2)) pa_nil)))))) pss_nil)
      (pss_cons (ps_if (pt_cmpR op_eq (pv 5) pe_int (nomark _)) (pss_one (ps_ret (pe_tup (pa_cons pe_str (pa_cons (pv 6) (pa_cons (C8.pe_c c__law_unit hr (by first | decide | omega) rfl (pa_cons (pv 0) (pa_cons (pv 1) pa_nil))) pa_nil)))))) pss_nil)
      (pss_cons (ps_if (PW.pt (pw_and (pt_cmpR op_eq (pv 5) pe_int (nomark _)) (pw_and (pt_val (pv 4)) (pw_and1 (pt_cmpR op_gt (pv 2) pe_int (nomark _)))))) (pss_cons (ps_set (i := 7) sc__law_step.nd rfl (by first | exact Or.inl rfl | exact Or.inr rfl) (pe_op op_add pe_int (pe_op op_mod (C8.pe_c c__law_draw hr (by first | decide | omega) rfl (pa_cons (pv 0) pa_nil)) (pe_op op_sub (pv 2) pe_int))))
      (pss_cons (ps_set (i := 8) sc__law_step.nd rfl (by first | exact Or.inl rfl | exact Or.inr rfl) (pe_op op_add (pe_op op_add (pv 7) pe_int) (pe_op op_mod (C8.pe_c c__law_draw hr (by first | decide | omega) rfl (pa_cons (pv 0) pa_nil)) (pe_op op_sub (pe_op op_sub (pv 2) pe_int) (pv 7)))))
      (pss_cons (ps_set (i := 9) sc__law_step.nd rfl (by first | exact Or.inl rfl | exact Or.inr rfl) (pe_tup (pa_cons (pe_op op_mod (pe_op op_add (pv 6) (pv 7)) (pv 2)) (pa_cons (pe_op op_mod (pe_op op_add (pv 6) (pv 8)) (pv 2)) pa_nil))))
      (pss_cons (ps_if (pt_cmpR op_eq (pe_op op_mod (C8.pe_c c__law_draw hr (by first | decide | omega) rfl (pa_cons (pv 0) pa_nil)) pe_int) pe_int (nomark _)) (pss_one (ps_set (i := 9) sc__law_step.nd rfl (by first | exact Or.inl rfl | exact Or.inr rfl) (pe_tup (pa_cons (pe_ix ix_seq (pv 9) pe_int (fun _ _ => rfl)) (pa_cons (pe_ix ix_seq (pv 9) pe_int (fun _ _ => rfl)) pa_nil))))) pss_nil)
      (pss_cons (ps_set (i := 10) sc__law_step.nd rfl (by first | exact Or.inl rfl | exact Or.inr rfl) (pe_ix ix_seq (pe_lst (pa_cons pe_int (pa_cons (pe_op op_sub (pv 1) pe_int) pa_nil))) (pe_op op_mod (C8.pe_c c__law_draw hr (by first | decide | omega) rfl (pa_cons (pv 0) pa_nil)) pe_int) (fun _ _ => rfl)))
      (pss_one (ps_ret (pe_tup (pa_cons pe_str (pa_cons (pv 6) (pa_cons (pv 10) (pa_cons (C8.pe_c c__law_table hr (by first | decide | omega) rfl (pa_cons (pv 0) (pa_cons (pv 1) pa_nil))) (pa_cons (pe_ix ix_seq (pv 9) pe_int (fun _ _ => rfl)) (pa_cons (pe_ix ix_seq (pv 9) pe_int (fun _ _ => rfl)) pa_nil)))))))))))))) pss_nil)
      (pss_cons (ps_set (i := 11) sc__law_step.nd rfl (by first | exact Or.inl rfl | exact Or.inr rfl) (pe_lst pa_nil))
      (pss_cons (ps_if (PW.pt (pw_or (pt_cmpR op_gt (pv 2) pe_int (nomark _)) (pw_or1 (pt_cmpR op_gt (pv 3) pe_int (nomark _))))) (pss_one (ps_setLc (i := 11) (own := [("_law_k", 12)]) (g := gName 12) (tt := tYes) rfl sc__law_step.nd rfl rfl (sw_true rfl rfl rfl (by decide +kernel)) (pi_range1 rfl T.n_range (pa_cons (pe_op op_mod (C8.pe_c c__law_draw hr (by first | decide | omega) rfl (pa_cons (pv 0) pa_nil)) pe_int) pa_nil)) (blkOk_by (by first | decide +kernel | kernel_rfl)) (fun _ _ _ _ _ => pg_name (i := 12) sc__law_step.nd rfl (by first | exact Or.inl rfl | exact Or.inr rfl)) (fun _ _ _ _ _ => pts_nil) (fun _ _ _ _ _ => (C8.pe_c c__law_factor hr (by first | decide | omega) rfl (pa_cons (pv 0) (pa_cons (pv 6) (pa_cons (pv 2) (pa_cons (pv 3) pa_nil)))))))) pss_nil)
      (pss_one (ps_ret (pe_tup (pa_cons pe_str (pa_cons (pv 6) (pa_cons (C8.pe_c c__law_number hr (by first | decide | omega) rfl (pa_cons (pv 0) (pa_cons (pv 1) pa_nil))) (pa_cons (pe_callTy b_tuple (by rfl) T.n_tuple (by decide +kernel) (pa_cons (pv 11) pa_nil)) pa_nil)))))))))))))), ?_⟩
    obtain ⟨D, m, c, n, pr, rfl, dr, m2, m9, c1, n0, hpr, k⟩ := h
    walk_at "rdL3"
    refine ⟨D, rfl, dr, fun v1 H1 a1 b1 s1 => ?_⟩
    have p1 := mod_bd v1 (b := 8) (by decide)
    walk_at "rdL3"
    refine ⟨D, rfl, s1.dr, fun v2 H2 a2 b2 s2 => ?_⟩
    have p2 := mod_bd v2 (b := c) (by omega)
    replace s2 := s1.trans s2
    by_cases hsw : v1 % 8 = 0 ∧ 1 < c
    · obtain ⟨hp, hc⟩ := hsw
      walk_at "rdL3"
      refine ⟨D, rfl, s2.dr, fun v3 H3 a3 b3 s3 => ?_⟩
      have p3 := mod_bd v3 (b := c - 1) (by omega)
      have o3 := other_place p2.1 p2.2 p3.1 p3.2
      walk_at "rdL3"
      refine n_tup (Nat.le_of_ble_eq_true rfl) fun q H4 nq s4 hq => ?_
      exact k (.swap _ _) _ _ ⟨p2, ⟨o3.1, o3.2.1⟩, o3.2.2.symm⟩ (fun z => by cases z) ⟨q, _, rfl, hq, _, _, rfl, rfl, _, _, rfl, rfl, _, _, rfl, rfl, rfl⟩ ((s2.trans s3).same s4)
    · by_cases hsc : v1 % 8 = 1
      · have hp0 : ¬ v1 % 8 = 0 := by omega
        walk_at "rdL3"
        refine ⟨D, m, rfl, s2.dr, m2, fun v3 H3 a3 b3 g3 s3 => ?_⟩
        walk_at "rdL3"
        refine n_tup (Nat.le_of_ble_eq_true rfl) fun q H4 nq s4 hq => ?_
        exact k (.scale _ _) _ _ ⟨p2, ⟨a3, b3⟩, g3⟩ (fun z => by cases z) ⟨q, _, rfl, hq, _, _, rfl, rfl, _, _, rfl, rfl, _, _, rfl, rfl, rfl⟩ ((s2.trans s3).same s4)
      · by_cases htb : v1 % 8 = 2 ∧ pr = true ∧ 2 < c
        · obtain ⟨hp, hprt, hc⟩ := htb
          subst hprt
          have hm := hpr rfl
          have hp0 : ¬ v1 % 8 = 0 := by omega
          walk_at "rdL3"
          refine ⟨D, rfl, s2.dr, fun v3 H3 a3 b3 s3 => ?_⟩
          have p3 := mod_bd v3 (b := c - 2) (by omega)
          replace s3 := s2.trans s3
          walk_at "rdL3"
          refine ⟨D, rfl, s3.dr, fun v4 H4 a4 b4 s4 => ?_⟩
          have p4 := mod_bd v4 (b := c - 1 - (1 + v3 % (c - 2))) (by omega)
          replace s4 := s3.trans s4
          walk_at "rdL3"
          refine n_tup (Nat.le_of_ble_eq_true rfl) fun q H5 nq s5 hq => ?_
          replace s5 := s4.same s5
          have bdA := mod_bd (v2 % c + (1 + v3 % (c - 2))) (b := c) (by omega)
          have bdB := mod_bd (v2 % c + (1 + v3 % (c - 2) + 1 + v4 % (c - 1 - (1 + v3 % (c - 2))))) (b := c) (by omega)
          have neA := shift_ne (t := v2 % c) (u := 0) (v := 1 + v3 % (c - 2)) (c := c) p2.1 p2.2 (by omega) (by omega) (by omega)
          have neB := shift_ne (t := v2 % c) (u := 0) (v := 1 + v3 % (c - 2) + 1 + v4 % (c - 1 - (1 + v3 % (c - 2)))) (c := c) p2.1 p2.2 (by omega) (by omega) (by omega)
          have neAB := shift_ne (t := v2 % c) (u := 1 + v3 % (c - 2)) (v := 1 + v3 % (c - 2) + 1 + v4 % (c - 1 - (1 + v3 % (c - 2)))) (c := c) p2.1 p2.2 (by omega) (by omega) (by omega)
          rw [Int.add_zero, Int.emod_eq_of_lt p2.1 p2.2] at neA neB
          walk_at "rdL3"
          refine ⟨D, rfl, s5.dr, fun v6 H6 a6 b6 s6 => ?_⟩
          replace hq := Ds.new s4.dr nq hq s6
          replace s6 := s5.trans s6
          have look : ∀ sg tb, (sg = 1 ∨ sg = m - 1) → IsTab m tb → tb.length ≤ 4 → (tb.length : Int) ≤ m → ∀ x y, (0 ≤ x ∧ x < c) → (0 ≤ y ∧ y < c) → v2 % c ≠ x → v2 % c ≠ y → x ≠ y → Look m c (v2 % c) sg tb x y := fun sg tb h1 h2 h3 h4 x y hx hy nx ny nxy =>
            ⟨p2, hx, hy, nx, ny, nxy, h1, h2, h4, by omega, pr_units m2 hm h4⟩
          walk_at "rdL3"
          refine i_d2 (fun he => ?_) (fun he => ?_)
          · walk_at "rdL3"
            refine n_tup (Nat.le_of_ble_eq_true rfl) fun q2 H7 nq2 s7 hq2 => ?_
            replace s7 := s6.same s7
            walk_at "rdL3"
            refine n_lst (Nat.le_of_ble_eq_true rfl) fun q3 H8 nq3 s8 hq3 => ?_
            replace hq2 := s8 _ _ hq2
            replace s8 := s7.same s8
            walk_at "rdL3"
            refine ⟨D, rfl, s8.dr, fun v9 H9 a9 b9 s9 => ?_⟩
            have p9 := mod_bd v9 (b := 2) (by decide)
            replace hq3 := Ds.new s7.dr nq3 hq3 s9
            replace hq2 := Ds.tk s8.dr s9 _ _ hq2
            replace s9 := s8.trans s9
            walk_at "rdL3"
            refine n_pick (ns := [1, m - 1]) hq3 p9.1 p9.2 fun sg hsg => ?_
            have hsg2 : sg = 1 ∨ sg = m - 1 := by simpa using hsg
            walk_at "rdL3"
            refine ⟨D, m, rfl, s9.dr, m2, fun tb v10 H10 tab t4 tm hv10 s10 => ?_⟩
            replace hq2 := Ds.tk s9.dr s10 _ _ hq2
            replace s10 := s9.trans s10
            walk_at "rdL3"
            refine n_tup (Nat.le_of_ble_eq_true rfl) fun q11 H11 nq11 s11 hq11 => ?_
            exact k (.table _ _ tb _ _) _ _ (look sg tb hsg2 tab t4 tm _ _ bdB bdA neB neA neAB.symm) (fun _ => rfl) ⟨q11, _, rfl, hq11, _, _, rfl, rfl, _, _, rfl, rfl, _, _, rfl, rfl, _, _, rfl, hv10.same s11, _, _, rfl, rfl, _, _, rfl, rfl, rfl⟩ (s10.same s11)
          · walk_at "rdL3"
            refine n_lst (Nat.le_of_ble_eq_true rfl) fun q3 H8 nq3 s8 hq3 => ?_
            replace hq := s8 _ _ hq
            have dr6 := s6.dr
            replace s8 := s6.same s8
            walk_at "rdL3"
            refine ⟨D, rfl, s8.dr, fun v9 H9 a9 b9 s9 => ?_⟩
            have p9 := mod_bd v9 (b := 2) (by decide)
            replace hq3 := Ds.new dr6 nq3 hq3 s9
            replace hq := Ds.tk s8.dr s9 _ _ hq
            replace s9 := s8.trans s9
            walk_at "rdL3"
            refine n_pick (ns := [1, m - 1]) hq3 p9.1 p9.2 fun sg hsg => ?_
            have hsg2 : sg = 1 ∨ sg = m - 1 := by simpa using hsg
            walk_at "rdL3"
            refine ⟨D, m, rfl, s9.dr, m2, fun tb v10 H10 tab t4 tm hv10 s10 => ?_⟩
            replace hq := Ds.tk s9.dr s10 _ _ hq
            replace s10 := s9.trans s10
            walk_at "rdL3"
            refine n_tup (Nat.le_of_ble_eq_true rfl) fun q11 H11 nq11 s11 hq11 => ?_
            exact k (.table _ _ tb _ _) _ _ (look sg tb hsg2 tab t4 tm _ _ bdA bdB neA neB neAB) (fun _ => rfl) ⟨q11, _, rfl, hq11, _, _, rfl, rfl, _, _, rfl, rfl, _, _, rfl, rfl, _, _, rfl, hv10.same s11, _, _, rfl, rfl, _, _, rfl, rfl, rfl⟩ (s10.same s11)
        · have key : (v1 % 8 = 0 ∧ ¬ 1 < c) ∨ (v1 % 8 ≠ 0 ∧ v1 % 8 ≠ 2) ∨ (v1 % 8 ≠ 0 ∧ v1 % 8 = 2 ∧ pr = false) ∨ (v1 % 8 ≠ 0 ∧ v1 % 8 = 2 ∧ pr = true ∧ ¬ 2 < c) := by
            by_cases e0 : v1 % 8 = 0
            · exact .inl ⟨e0, fun z => hsw ⟨e0, z⟩⟩
            · by_cases e2 : v1 % 8 = 2
              · cases pr with
                | false => exact .inr (.inr (.inl ⟨e0, e2, rfl⟩))
                | true => exact .inr (.inr (.inr ⟨e0, e2, rfl, fun z => htb ⟨e2, rfl, z⟩⟩))
              · exact .inr (.inl ⟨e0, e2⟩)
          have fin : ∀ (O : Addr) (H5 H6 : Hp) (fs : List Fac) (acc : List V) (v6 : Int), H5 O = some (.lst acc) → RpL H5 (fs.map Fac.d) acc → fs.length ≤ 3 → (∀ g ∈ fs, g.ok (v2 % c) c n) → Ds D H H5 → 0 ≤ v6 → v6 < m → Ds D H5 H6 → O ≠ D.d →
              rTupOf (cxOf CX0 P w K mg base [] "" (defScope s__law_step) f cdv A outer s H E).nox.K [.ref O] H6 fun x H1 => rTup [.str "add", .int (v2 % c), .int v6, x] H1 Q := fun O H5 H6 fs acc v6 hO hra hl hok s5 v0 v1 s6 hne => by
            refine n_tupL (s6.kp _ _ hne hO) fun q H7 nq s7 hq => ?_
            refine n_tup (Nat.le_of_ble_eq_true rfl) fun q2 H8 nq2 s8 hq2 => ?_
            exact k (.add _ _ fs) _ _ ⟨p2, ⟨v0, v1⟩, hl, hok⟩ (fun z => by cases z) ⟨q2, _, rfl, hq2, _, _, rfl, rfl, _, _, rfl, rfl, _, _, rfl, rfl, _, _, rfl, ⟨q, acc, rfl, s8 _ _ hq, ((hra.tk (Ds.tk s5.dr s6) (flats_map fac_flat fs)).same s7).same s8⟩, rfl⟩ (((s5.trans s6).same s7).same s8)
          rcases key with ⟨h1, h2⟩ | ⟨h1, h2⟩ | ⟨h1, h2, h3⟩ | ⟨h1, h2, h3, h4⟩
          · walk_at "rdL3"
            clear h1 h2
            refine n_lst (by decide) fun q3 H3 nq3 s3 hq3 => ?_
            have hne3 := s2.dr.ne nq3
            replace s3 := s2.same s3
            walk_at "rdL3"
            refine i_d2 (fun hc => ?_) (fun hc => ?_)
            · have hcn : 1 < c ∨ 0 < n := .inl hc
              walk_at "rdL3"
              refine ⟨D, rfl, s3.dr, fun v4 H4 a4 b4 s4 => ?_⟩
              have p4 := mod_bd v4 (b := 4) (by decide)
              replace s4 := s3.trans s4
              have hsz : sizeLine = 2 ^ 24 := rfl
              walk_at "rdL3"
              refine n_lcR (by omega) fun O H5 nO sO hO => ⟨fun i H' => ∃ (fs : List Fac) (acc : List V), Ds D H4 H' ∧ H' O = some (.lst acc) ∧ RpL H' (fs.map Fac.d) acc ∧ fs.length = i ∧ ∀ g ∈ fs, g.ok (v2 % c) c n,
                ⟨[], [], Ds.of s4.dr sO, hO, rfl, rfl, by simp⟩, fun i H6 hi h => ?_, fun H6 h => ?_⟩
              · obtain ⟨fs, acc, s6, hO6, hra, hlen, hok⟩ := h
                have hal := hra.len
                rw [List.length_map] at hal
                walk_at "rdL3"
                refine ⟨D, _, c, n, rfl, s6.dr, p2, n0, hcn, fun g v H7 gok grp s7 => ?_⟩
                have hO7 := Ds.new s4.dr nO hO6 s7
                refine n_acc hO7 (by omega) fun H8 k8 h8 => ⟨fs ++ [g], acc ++ [v], Ds.kpn s4.dr nO (s6.trans s7) k8, h8, ?_, by rw [List.length_append, hlen]; rfl, fun g2 hg2 => ?_⟩
                · rw [List.map_append]
                  refine ((hra.tk (Ds.tk s6.dr s7) (flats_map fac_flat fs)).snoc grp).tk (TK.kp hO7 k8) ?_
                  have fl := flats_map fac_flat (fs ++ [g])
                  rwa [List.map_append] at fl
                · rcases List.mem_append.mp hg2 with q | q
                  · exact hok g2 q
                  · rw [List.mem_singleton.mp q]
                    exact gok
              · obtain ⟨fs, acc, s6, hO6, hra, hlen, hok⟩ := h
                walk_at "rdL3"
                refine ⟨D, m, rfl, s6.dr, m2, fun v6 H7 a6 b6 s7 => ?_⟩
                walk_at "rdL3"
                exact fin O H6 H7 fs acc v6 hO6 hra (by omega) hok (s4.trans s6) a6 b6 s7 (s4.dr.ne nO)
            · walk_at "rdL3"
              refine i_d2 (fun hn => ?_) (fun hn => ?_)
              · have hcn : 1 < c ∨ 0 < n := .inr hn
                walk_at "rdL3"
                refine ⟨D, rfl, s3.dr, fun v4 H4 a4 b4 s4 => ?_⟩
                have p4 := mod_bd v4 (b := 4) (by decide)
                replace s4 := s3.trans s4
                have hsz : sizeLine = 2 ^ 24 := rfl
                walk_at "rdL3"
                refine n_lcR (by omega) fun O H5 nO sO hO => ⟨fun i H' => ∃ (fs : List Fac) (acc : List V), Ds D H4 H' ∧ H' O = some (.lst acc) ∧ RpL H' (fs.map Fac.d) acc ∧ fs.length = i ∧ ∀ g ∈ fs, g.ok (v2 % c) c n,
                  ⟨[], [], Ds.of s4.dr sO, hO, rfl, rfl, by simp⟩, fun i H6 hi h => ?_, fun H6 h => ?_⟩
                · obtain ⟨fs, acc, s6, hO6, hra, hlen, hok⟩ := h
                  have hal := hra.len
                  rw [List.length_map] at hal
                  walk_at "rdL3"
                  refine ⟨D, _, c, n, rfl, s6.dr, p2, n0, hcn, fun g v H7 gok grp s7 => ?_⟩
                  have hO7 := Ds.new s4.dr nO hO6 s7
                  refine n_acc hO7 (by omega) fun H8 k8 h8 => ⟨fs ++ [g], acc ++ [v], Ds.kpn s4.dr nO (s6.trans s7) k8, h8, ?_, by rw [List.length_append, hlen]; rfl, fun g2 hg2 => ?_⟩
                  · rw [List.map_append]
                    refine ((hra.tk (Ds.tk s6.dr s7) (flats_map fac_flat fs)).snoc grp).tk (TK.kp hO7 k8) ?_
                    have fl := flats_map fac_flat (fs ++ [g])
                    rwa [List.map_append] at fl
                  · rcases List.mem_append.mp hg2 with q | q
                    · exact hok g2 q
                    · rw [List.mem_singleton.mp q]
                      exact gok
                · obtain ⟨fs, acc, s6, hO6, hra, hlen, hok⟩ := h
                  walk_at "rdL3"
                  refine ⟨D, m, rfl, s6.dr, m2, fun v6 H7 a6 b6 s7 => ?_⟩
                  walk_at "rdL3"
                  exact fin O H6 H7 fs acc v6 hO6 hra (by omega) hok (s4.trans s6) a6 b6 s7 (s4.dr.ne nO)
              · walk_at "rdL3"
                refine ⟨D, m, rfl, s3.dr, m2, fun v6 H6 a6 b6 s6 => ?_⟩
                walk_at "rdL3"
                exact fin q3 H3 H6 [] [] v6 hq3 rfl (by decide) (by simp) s3 a6 b6 s6 hne3
          · walk_at "rdL3"
            refine n_lst (by decide) fun q3 H3 nq3 s3 hq3 => ?_
            have hne3 := s2.dr.ne nq3
            replace s3 := s2.same s3
            walk_at "rdL3"
            refine i_d2 (fun hc => ?_) (fun hc => ?_)
            · have hcn : 1 < c ∨ 0 < n := .inl hc
              walk_at "rdL3"
              refine ⟨D, rfl, s3.dr, fun v4 H4 a4 b4 s4 => ?_⟩
              have p4 := mod_bd v4 (b := 4) (by decide)
              replace s4 := s3.trans s4
              have hsz : sizeLine = 2 ^ 24 := rfl
              walk_at "rdL3"
              refine n_lcR (by omega) fun O H5 nO sO hO => ⟨fun i H' => ∃ (fs : List Fac) (acc : List V), Ds D H4 H' ∧ H' O = some (.lst acc) ∧ RpL H' (fs.map Fac.d) acc ∧ fs.length = i ∧ ∀ g ∈ fs, g.ok (v2 % c) c n,
                ⟨[], [], Ds.of s4.dr sO, hO, rfl, rfl, by simp⟩, fun i H6 hi h => ?_, fun H6 h => ?_⟩
              · obtain ⟨fs, acc, s6, hO6, hra, hlen, hok⟩ := h
                have hal := hra.len
                rw [List.length_map] at hal
                walk_at "rdL3"
                refine ⟨D, _, c, n, rfl, s6.dr, p2, n0, hcn, fun g v H7 gok grp s7 => ?_⟩
                have hO7 := Ds.new s4.dr nO hO6 s7
                refine n_acc hO7 (by omega) fun H8 k8 h8 => ⟨fs ++ [g], acc ++ [v], Ds.kpn s4.dr nO (s6.trans s7) k8, h8, ?_, by rw [List.length_append, hlen]; rfl, fun g2 hg2 => ?_⟩
                · rw [List.map_append]
                  refine ((hra.tk (Ds.tk s6.dr s7) (flats_map fac_flat fs)).snoc grp).tk (TK.kp hO7 k8) ?_
                  have fl := flats_map fac_flat (fs ++ [g])
                  rwa [List.map_append] at fl
                · rcases List.mem_append.mp hg2 with q | q
                  · exact hok g2 q
                  · rw [List.mem_singleton.mp q]
                    exact gok
              · obtain ⟨fs, acc, s6, hO6, hra, hlen, hok⟩ := h
                walk_at "rdL3"
                refine ⟨D, m, rfl, s6.dr, m2, fun v6 H7 a6 b6 s7 => ?_⟩
                walk_at "rdL3"
                exact fin O H6 H7 fs acc v6 hO6 hra (by omega) hok (s4.trans s6) a6 b6 s7 (s4.dr.ne nO)
            · walk_at "rdL3"
              refine i_d2 (fun hn => ?_) (fun hn => ?_)
              · have hcn : 1 < c ∨ 0 < n := .inr hn
                walk_at "rdL3"
                refine ⟨D, rfl, s3.dr, fun v4 H4 a4 b4 s4 => ?_⟩
                have p4 := mod_bd v4 (b := 4) (by decide)
                replace s4 := s3.trans s4
                have hsz : sizeLine = 2 ^ 24 := rfl
                walk_at "rdL3"
                refine n_lcR (by omega) fun O H5 nO sO hO => ⟨fun i H' => ∃ (fs : List Fac) (acc : List V), Ds D H4 H' ∧ H' O = some (.lst acc) ∧ RpL H' (fs.map Fac.d) acc ∧ fs.length = i ∧ ∀ g ∈ fs, g.ok (v2 % c) c n,
                  ⟨[], [], Ds.of s4.dr sO, hO, rfl, rfl, by simp⟩, fun i H6 hi h => ?_, fun H6 h => ?_⟩
                · obtain ⟨fs, acc, s6, hO6, hra, hlen, hok⟩ := h
                  have hal := hra.len
                  rw [List.length_map] at hal
                  walk_at "rdL3"
                  refine ⟨D, _, c, n, rfl, s6.dr, p2, n0, hcn, fun g v H7 gok grp s7 => ?_⟩
                  have hO7 := Ds.new s4.dr nO hO6 s7
                  refine n_acc hO7 (by omega) fun H8 k8 h8 => ⟨fs ++ [g], acc ++ [v], Ds.kpn s4.dr nO (s6.trans s7) k8, h8, ?_, by rw [List.length_append, hlen]; rfl, fun g2 hg2 => ?_⟩
                  · rw [List.map_append]
                    refine ((hra.tk (Ds.tk s6.dr s7) (flats_map fac_flat fs)).snoc grp).tk (TK.kp hO7 k8) ?_
                    have fl := flats_map fac_flat (fs ++ [g])
                    rwa [List.map_append] at fl
                  · rcases List.mem_append.mp hg2 with q | q
                    · exact hok g2 q
                    · rw [List.mem_singleton.mp q]
                      exact gok
                · obtain ⟨fs, acc, s6, hO6, hra, hlen, hok⟩ := h
                  walk_at "rdL3"
                  refine ⟨D, m, rfl, s6.dr, m2, fun v6 H7 a6 b6 s7 => ?_⟩
                  walk_at "rdL3"
                  exact fin O H6 H7 fs acc v6 hO6 hra (by omega) hok (s4.trans s6) a6 b6 s7 (s4.dr.ne nO)
              · walk_at "rdL3"
                refine ⟨D, m, rfl, s3.dr, m2, fun v6 H6 a6 b6 s6 => ?_⟩
                walk_at "rdL3"
                exact fin q3 H3 H6 [] [] v6 hq3 rfl (by decide) (by simp) s3 a6 b6 s6 hne3
          · subst h3
            walk_at "rdL3"
            refine n_lst (by decide) fun q3 H3 nq3 s3 hq3 => ?_
            have hne3 := s2.dr.ne nq3
            replace s3 := s2.same s3
            walk_at "rdL3"
            refine i_d2 (fun hc => ?_) (fun hc => ?_)
            · have hcn : 1 < c ∨ 0 < n := .inl hc
              walk_at "rdL3"
              refine ⟨D, rfl, s3.dr, fun v4 H4 a4 b4 s4 => ?_⟩
              have p4 := mod_bd v4 (b := 4) (by decide)
              replace s4 := s3.trans s4
              have hsz : sizeLine = 2 ^ 24 := rfl
              walk_at "rdL3"
              refine n_lcR (by omega) fun O H5 nO sO hO => ⟨fun i H' => ∃ (fs : List Fac) (acc : List V), Ds D H4 H' ∧ H' O = some (.lst acc) ∧ RpL H' (fs.map Fac.d) acc ∧ fs.length = i ∧ ∀ g ∈ fs, g.ok (v2 % c) c n,
                ⟨[], [], Ds.of s4.dr sO, hO, rfl, rfl, by simp⟩, fun i H6 hi h => ?_, fun H6 h => ?_⟩
              · obtain ⟨fs, acc, s6, hO6, hra, hlen, hok⟩ := h
                have hal := hra.len
                rw [List.length_map] at hal
                walk_at "rdL3"
                refine ⟨D, _, c, n, rfl, s6.dr, p2, n0, hcn, fun g v H7 gok grp s7 => ?_⟩
                have hO7 := Ds.new s4.dr nO hO6 s7
                refine n_acc hO7 (by omega) fun H8 k8 h8 => ⟨fs ++ [g], acc ++ [v], Ds.kpn s4.dr nO (s6.trans s7) k8, h8, ?_, by rw [List.length_append, hlen]; rfl, fun g2 hg2 => ?_⟩
                · rw [List.map_append]
                  refine ((hra.tk (Ds.tk s6.dr s7) (flats_map fac_flat fs)).snoc grp).tk (TK.kp hO7 k8) ?_
                  have fl := flats_map fac_flat (fs ++ [g])
                  rwa [List.map_append] at fl
                · rcases List.mem_append.mp hg2 with q | q
                  · exact hok g2 q
                  · rw [List.mem_singleton.mp q]
                    exact gok
              · obtain ⟨fs, acc, s6, hO6, hra, hlen, hok⟩ := h
                walk_at "rdL3"
                refine ⟨D, m, rfl, s6.dr, m2, fun v6 H7 a6 b6 s7 => ?_⟩
                walk_at "rdL3"
                exact fin O H6 H7 fs acc v6 hO6 hra (by omega) hok (s4.trans s6) a6 b6 s7 (s4.dr.ne nO)
            · walk_at "rdL3"
              refine i_d2 (fun hn => ?_) (fun hn => ?_)
              · have hcn : 1 < c ∨ 0 < n := .inr hn
                walk_at "rdL3"
                refine ⟨D, rfl, s3.dr, fun v4 H4 a4 b4 s4 => ?_⟩
                have p4 := mod_bd v4 (b := 4) (by decide)
                replace s4 := s3.trans s4
                have hsz : sizeLine = 2 ^ 24 := rfl
                walk_at "rdL3"
                refine n_lcR (by omega) fun O H5 nO sO hO => ⟨fun i H' => ∃ (fs : List Fac) (acc : List V), Ds D H4 H' ∧ H' O = some (.lst acc) ∧ RpL H' (fs.map Fac.d) acc ∧ fs.length = i ∧ ∀ g ∈ fs, g.ok (v2 % c) c n,
                  ⟨[], [], Ds.of s4.dr sO, hO, rfl, rfl, by simp⟩, fun i H6 hi h => ?_, fun H6 h => ?_⟩
                · obtain ⟨fs, acc, s6, hO6, hra, hlen, hok⟩ := h
                  have hal := hra.len
                  rw [List.length_map] at hal
                  walk_at "rdL3"
                  refine ⟨D, _, c, n, rfl, s6.dr, p2, n0, hcn, fun g v H7 gok grp s7 => ?_⟩
                  have hO7 := Ds.new s4.dr nO hO6 s7
                  refine n_acc hO7 (by omega) fun H8 k8 h8 => ⟨fs ++ [g], acc ++ [v], Ds.kpn s4.dr nO (s6.trans s7) k8, h8, ?_, by rw [List.length_append, hlen]; rfl, fun g2 hg2 => ?_⟩
                  · rw [List.map_append]
                    refine ((hra.tk (Ds.tk s6.dr s7) (flats_map fac_flat fs)).snoc grp).tk (TK.kp hO7 k8) ?_
                    have fl := flats_map fac_flat (fs ++ [g])
                    rwa [List.map_append] at fl
                  · rcases List.mem_append.mp hg2 with q | q
                    · exact hok g2 q
                    · rw [List.mem_singleton.mp q]
                      exact gok
                · obtain ⟨fs, acc, s6, hO6, hra, hlen, hok⟩ := h
                  walk_at "rdL3"
                  refine ⟨D, m, rfl, s6.dr, m2, fun v6 H7 a6 b6 s7 => ?_⟩
                  walk_at "rdL3"
                  exact fin O H6 H7 fs acc v6 hO6 hra (by omega) hok (s4.trans s6) a6 b6 s7 (s4.dr.ne nO)
              · walk_at "rdL3"
                refine ⟨D, m, rfl, s3.dr, m2, fun v6 H6 a6 b6 s6 => ?_⟩
                walk_at "rdL3"
                exact fin q3 H3 H6 [] [] v6 hq3 rfl (by decide) (by simp) s3 a6 b6 s6 hne3
          · subst h3
            walk_at "rdL3"
            refine n_lst (by decide) fun q3 H3 nq3 s3 hq3 => ?_
            have hne3 := s2.dr.ne nq3
            replace s3 := s2.same s3
            walk_at "rdL3"
            refine i_d2 (fun hc => ?_) (fun hc => ?_)
            · have hcn : 1 < c ∨ 0 < n := .inl hc
              walk_at "rdL3"
              refine ⟨D, rfl, s3.dr, fun v4 H4 a4 b4 s4 => ?_⟩
              have p4 := mod_bd v4 (b := 4) (by decide)
              replace s4 := s3.trans s4
              have hsz : sizeLine = 2 ^ 24 := rfl
              walk_at "rdL3"
              refine n_lcR (by omega) fun O H5 nO sO hO => ⟨fun i H' => ∃ (fs : List Fac) (acc : List V), Ds D H4 H' ∧ H' O = some (.lst acc) ∧ RpL H' (fs.map Fac.d) acc ∧ fs.length = i ∧ ∀ g ∈ fs, g.ok (v2 % c) c n,
                ⟨[], [], Ds.of s4.dr sO, hO, rfl, rfl, by simp⟩, fun i H6 hi h => ?_, fun H6 h => ?_⟩
              · obtain ⟨fs, acc, s6, hO6, hra, hlen, hok⟩ := h
                have hal := hra.len
                rw [List.length_map] at hal
                walk_at "rdL3"
                refine ⟨D, _, c, n, rfl, s6.dr, p2, n0, hcn, fun g v H7 gok grp s7 => ?_⟩
                have hO7 := Ds.new s4.dr nO hO6 s7
                refine n_acc hO7 (by omega) fun H8 k8 h8 => ⟨fs ++ [g], acc ++ [v], Ds.kpn s4.dr nO (s6.trans s7) k8, h8, ?_, by rw [List.length_append, hlen]; rfl, fun g2 hg2 => ?_⟩
                · rw [List.map_append]
                  refine ((hra.tk (Ds.tk s6.dr s7) (flats_map fac_flat fs)).snoc grp).tk (TK.kp hO7 k8) ?_
                  have fl := flats_map fac_flat (fs ++ [g])
                  rwa [List.map_append] at fl
                · rcases List.mem_append.mp hg2 with q | q
                  · exact hok g2 q
                  · rw [List.mem_singleton.mp q]
                    exact gok
              · obtain ⟨fs, acc, s6, hO6, hra, hlen, hok⟩ := h
                walk_at "rdL3"
                refine ⟨D, m, rfl, s6.dr, m2, fun v6 H7 a6 b6 s7 => ?_⟩
                walk_at "rdL3"
                exact fin O H6 H7 fs acc v6 hO6 hra (by omega) hok (s4.trans s6) a6 b6 s7 (s4.dr.ne nO)
            · walk_at "rdL3"
              refine i_d2 (fun hn => ?_) (fun hn => ?_)
              · have hcn : 1 < c ∨ 0 < n := .inr hn
                walk_at "rdL3"
                refine ⟨D, rfl, s3.dr, fun v4 H4 a4 b4 s4 => ?_⟩
                have p4 := mod_bd v4 (b := 4) (by decide)
                replace s4 := s3.trans s4
                have hsz : sizeLine = 2 ^ 24 := rfl
                walk_at "rdL3"
                refine n_lcR (by omega) fun O H5 nO sO hO => ⟨fun i H' => ∃ (fs : List Fac) (acc : List V), Ds D H4 H' ∧ H' O = some (.lst acc) ∧ RpL H' (fs.map Fac.d) acc ∧ fs.length = i ∧ ∀ g ∈ fs, g.ok (v2 % c) c n,
                  ⟨[], [], Ds.of s4.dr sO, hO, rfl, rfl, by simp⟩, fun i H6 hi h => ?_, fun H6 h => ?_⟩
                · obtain ⟨fs, acc, s6, hO6, hra, hlen, hok⟩ := h
                  have hal := hra.len
                  rw [List.length_map] at hal
                  walk_at "rdL3"
                  refine ⟨D, _, c, n, rfl, s6.dr, p2, n0, hcn, fun g v H7 gok grp s7 => ?_⟩
                  have hO7 := Ds.new s4.dr nO hO6 s7
                  refine n_acc hO7 (by omega) fun H8 k8 h8 => ⟨fs ++ [g], acc ++ [v], Ds.kpn s4.dr nO (s6.trans s7) k8, h8, ?_, by rw [List.length_append, hlen]; rfl, fun g2 hg2 => ?_⟩
                  · rw [List.map_append]
                    refine ((hra.tk (Ds.tk s6.dr s7) (flats_map fac_flat fs)).snoc grp).tk (TK.kp hO7 k8) ?_
                    have fl := flats_map fac_flat (fs ++ [g])
                    rwa [List.map_append] at fl
                  · rcases List.mem_append.mp hg2 with q | q
                    · exact hok g2 q
                    · rw [List.mem_singleton.mp q]
                      exact gok
                · obtain ⟨fs, acc, s6, hO6, hra, hlen, hok⟩ := h
                  walk_at "rdL3"
                  refine ⟨D, m, rfl, s6.dr, m2, fun v6 H7 a6 b6 s7 => ?_⟩
                  walk_at "rdL3"
                  exact fin O H6 H7 fs acc v6 hO6 hra (by omega) hok (s4.trans s6) a6 b6 s7 (s4.dr.ne nO)
              · walk_at "rdL3"
                refine ⟨D, m, rfl, s3.dr, m2, fun v6 H6 a6 b6 s6 => ?_⟩
                walk_at "rdL3"
                exact fin q3 H3 H6 [] [] v6 hq3 rfl (by decide) (by simp) s3 a6 b6 s6 hne3
theorem cal__law_memory (T : Gs mg) (c__law_number : C8.Cal P w K mg base 4 "_law_number" spNumber []) (F : DefAt K mg "_law_memory" s__law_memory) : C8.Cal P w K mg base 5 "_law_memory" spMemory [] := by
  refine cal_of F sc__law_memory bi__law_memory (fun vs H Q E h => ?_) (fun f cdv A outer s H vs Q E hr h => ?_)
  · obtain ⟨D, p, m, c, n, ss, rfl, _⟩ := h
    rfl
  · have hu : (A.deeper (PyProof.Rows.envOfC "_law_memory" (defScope s__law_memory) s.heap.objs.size f cdv)).units + 1 < cLine := by have := hr.units; omega
    refine ⟨_, (pss_one (ps_ret (pe_lc (own := [("_law_k", 2)]) (g := gName 2) (tt := tYes) rfl sc__law_memory.nd (pi_range1 rfl T.n_range (pa_cons (pe_dget hu (pv 1) pe_str (fun _ _ => rfl)) pa_nil)) (blkOk_by (by first | decide +kernel | kernel_rfl)) (fun _ _ _ _ _ => pg_name (i := 2) sc__law_memory.nd rfl (by first | exact Or.inl rfl | exact Or.inr rfl)) (fun _ _ _ _ _ => pts_nil) (fun _ _ _ _ _ => (C8.pe_c c__law_number hr (by first | decide | omega) rfl (pa_cons (pv 0) (pa_cons (pe_dget hu (pv 1) pe_str (fun _ _ => rfl)) pa_nil))))))), ?_⟩
    obtain ⟨D, p, m, c, n, ss, rfl, dr, mdl, vp, k⟩ := h
    have c1 := vp.c1
    have c9 := vp.c9
    have n1 := vp.n1
    have n9 := vp.n9
    have mdl0 := mdl
    obtain ⟨qs, ws, hp, _⟩ := mdl
    have hpd : p ≠ D.d := fun e => by
      obtain ⟨⟨kk, h4, _⟩, _⟩ := dr
      rw [e, h4] at hp
      cases hp
    have hsz : sizeLine = 2 ^ 24 := rfl
    walk_at "rdL3"
    refine n_lcR (by omega) fun O H5 nO sO hO => ⟨fun i H' => ∃ ns : List Int, Ds D H H' ∧ H' O = some (.lst (ns.map V.int)) ∧ ns.length = i ∧ ∀ e ∈ ns, 0 ≤ e ∧ e < m,
      ⟨[], Ds.of dr sO, hO, rfl, by simp⟩, fun i H6 hi h => ?_, fun H6 h => ?_⟩
    · obtain ⟨ns, s6, hO6, hlen, hb⟩ := h
      have hp6 := s6.kp _ _ hpd hp
      walk_at "rdL3"
      refine ⟨D, m, rfl, s6.dr, vp.m2, fun v H7 v0 v1 s7 => ?_⟩
      refine n_acc (Ds.new dr nO hO6 s7) (by rw [List.length_map]; omega) fun H8 k8 h8 => ⟨ns ++ [v], Ds.kpn dr nO (s6.trans s7) k8, by rw [h8, List.map_append]; rfl, by rw [List.length_append, hlen]; rfl, fun e he => ?_⟩
      rcases List.mem_append.mp he with q | q
      · exact hb e q
      · rw [List.mem_singleton.mp q]
        exact ⟨v0, v1⟩
    · obtain ⟨ns, s6, hO6, hlen, hb⟩ := h
      exact k O ns H6 nO s6 hO6 ⟨by omega, hb⟩
theorem cal__law_given (T : Gs mg) (c__law_number : C8.Cal P w K mg base 4 "_law_number" spNumber []) (F : DefAt K mg "_law_given" s__law_given) : C8.Cal P w K mg base 5 "_law_given" spGiven [] := by
  refine cal_of F sc__law_given bi__law_given (fun vs H Q E h => ?_) (fun f cdv A outer s H vs Q E hr h => ?_)
  · obtain ⟨D, p, m, c, n, ss, rfl, _⟩ := h
    rfl
  · have hu : (A.deeper (PyProof.Rows.envOfC "_law_given" (defScope s__law_given) s.heap.objs.size f cdv)).units + 1 < cLine := by have := hr.units; omega
    refine ⟨_, (pss_one (ps_ret (pe_lc (own := [("_law_k", 2)]) (g := gName 2) (tt := tYes) rfl sc__law_given.nd (pi_range1 rfl T.n_range (pa_cons (pe_dget hu (pv 1) pe_str (fun _ _ => rfl)) pa_nil)) (blkOk_by (by first | decide +kernel | kernel_rfl)) (fun _ _ _ _ _ => pg_name (i := 2) sc__law_given.nd rfl (by first | exact Or.inl rfl | exact Or.inr rfl)) (fun _ _ _ _ _ => pts_nil) (fun _ _ _ _ _ => (C8.pe_c c__law_number hr (by first | decide | omega) rfl (pa_cons (pv 0) (pa_cons (pe_dget hu (pv 1) pe_str (fun _ _ => rfl)) pa_nil))))))), ?_⟩
    obtain ⟨D, p, m, c, n, ss, rfl, dr, mdl, vp, k⟩ := h
    have c1 := vp.c1
    have c9 := vp.c9
    have n1 := vp.n1
    have n9 := vp.n9
    have mdl0 := mdl
    obtain ⟨qs, ws, hp, _⟩ := mdl
    have hpd : p ≠ D.d := fun e => by
      obtain ⟨⟨kk, h4, _⟩, _⟩ := dr
      rw [e, h4] at hp
      cases hp
    have hsz : sizeLine = 2 ^ 24 := rfl
    walk_at "rdL3"
    refine n_lcR (by omega) fun O H5 nO sO hO => ⟨fun i H' => ∃ ns : List Int, Ds D H H' ∧ H' O = some (.lst (ns.map V.int)) ∧ ns.length = i ∧ ∀ e ∈ ns, 0 ≤ e ∧ e < m,
      ⟨[], Ds.of dr sO, hO, rfl, by simp⟩, fun i H6 hi h => ?_, fun H6 h => ?_⟩
    · obtain ⟨ns, s6, hO6, hlen, hb⟩ := h
      have hp6 := s6.kp _ _ hpd hp
      walk_at "rdL3"
      refine ⟨D, m, rfl, s6.dr, vp.m2, fun v H7 v0 v1 s7 => ?_⟩
      refine n_acc (Ds.new dr nO hO6 s7) (by rw [List.length_map]; omega) fun H8 k8 h8 => ⟨ns ++ [v], Ds.kpn dr nO (s6.trans s7) k8, by rw [h8, List.map_append]; rfl, by rw [List.length_append, hlen]; rfl, fun e he => ?_⟩
      rcases List.mem_append.mp he with q | q
      · exact hb e q
      · rw [List.mem_singleton.mp q]
        exact ⟨v0, v1⟩
    · obtain ⟨ns, s6, hO6, hlen, hb⟩ := h
      exact k O ns H6 nO s6 hO6 ⟨by omega, hb⟩
end
end Bf
local macro_rules | `(tactic| walk_at "pfL4") => `(tactic| first | decide +kernel | omega | assumption | rfl | (simp only [List.length_cons, List.length_nil]; omega))
local macro_rules | `(tactic| walk_at "rd1L4") => `(tactic| first
  | with_reducible refine Bf.r_seq ?_
  | with_reducible refine Bf.r_asg ?_
  | with_reducible refine Bf.r_var (by with_unfolding_all rfl) ?_
  | with_reducible refine Bf.r_c ?_
  | with_reducible refine Bf.r_name ?_
  | with_reducible refine Bf.r_ret ?_
  | with_reducible refine Bf.r_op ?_
  | with_reducible refine Bf.r_I0 ?_
  | ((with_reducible refine Bf.r_I ?c ?_); (case c => first | decide | (show (0 : Int) < _; omega) | (refine Or.inl ⟨?_, ?_⟩ <;> omega) | (refine Or.inr ⟨?_, ?_⟩ <;> omega) | (refine And.intro ?_ ?_ <;> omega)))
  | with_reducible refine Bf.r_ifS ?_
  | with_reducible refine Bf.r_test ?_
  | with_reducible refine Bf.r_isbl ?_
  | with_reducible refine Bf.r_eqI ?_
  | with_reducible refine Bf.r_neI ?_
  | with_reducible refine Bf.r_eqS ?_
  | with_reducible refine Bf.r_neS ?_
  | with_reducible refine Bf.r_cons ?_
  | with_reducible refine Bf.r_nil ?_
  | with_reducible refine Bf.r_CB ?_
  | with_reducible refine Bf.r_call ?_
  | with_reducible refine Bf.i_t ?_
  | with_reducible refine Bf.i_f ?_
  | with_reducible refine Bf.i_nt ?_
  | with_reducible refine Bf.i_nf ?_
  | with_reducible refine Bf.r_ixT (by assumption) (by with_unfolding_all rfl) ?_
  | with_reducible refine Bf.r_ixL (by assumption) (by with_unfolding_all rfl) ?_
  | with_reducible refine Bf.r_fld ?_
  | ((with_reducible refine Bf.r_fat (by assumption) ?c ?n (by with_unfolding_all rfl) ?_); (case c => assumption); (case n => assumption))
  | with_reducible refine Bf.r_par ?_
  | with_reducible refine Bf.r_two ?_
  | with_reducible refine Bf.r_aug (by with_unfolding_all rfl) ?_
  | with_reducible refine Bf.r_ip ?_
  | with_reducible refine Bf.r_app (by with_unfolding_all rfl) (by assumption) ?_
  | with_reducible refine Bf.r_next ?_
  | with_reducible refine Bf.r_cont ?_
  | with_reducible refine Bf.r_drop ?_
  | with_reducible refine Bf.r_and ?_
  | with_reducible refine Bf.r_or ?_
  | with_reducible refine Bf.r_not ?_
  | with_reducible refine Bf.r_andV ?_
  | with_reducible refine Bf.r_orV ?_
  | with_reducible refine Bf.r_notV ?_
  | with_reducible refine Bf.r_chain ?_
  | with_reducible refine Bf.r_B ?_
  | with_reducible refine Bf.r_ifE ?_
  | with_reducible refine Bf.r_un ?_
  | with_reducible refine Bf.r_U ?_
  | with_reducible refine Bf.r_tup ?_
  | with_reducible refine Bf.r_lst ?_
  | with_reducible refine Bf.r_lenT (by assumption) ?_
  | with_reducible refine Bf.r_lenL (by assumption) ?_
  | with_reducible refine Bf.r_int ?_
  | with_reducible refine Bf.r_max2 ?_
  | with_reducible refine Bf.r_min2 ?_
  | with_reducible refine Bf.isi_ Bf.ty_i Bf.kb_ii ?_
  | with_reducible refine Bf.isi_ Bf.ty_i Bf.kb_ib ?_
  | with_reducible refine Bf.isi_ Bf.ty_i Bf.kb_is ?_
  | with_reducible refine Bf.isi_ Bf.ty_i Bf.kb_it ?_
  | with_reducible refine Bf.isi_ Bf.ty_i Bf.kb_il ?_
  | with_reducible refine Bf.isi_ Bf.ty_s Bf.kb_si ?_
  | with_reducible refine Bf.isi_ Bf.ty_s Bf.kb_sb ?_
  | with_reducible refine Bf.isi_ Bf.ty_s Bf.kb_ss ?_
  | with_reducible refine Bf.isi_ Bf.ty_s Bf.kb_st ?_
  | with_reducible refine Bf.isi_ Bf.ty_s Bf.kb_sl ?_
  | with_reducible refine Bf.isi_ (Bf.ty_t (by assumption)) Bf.kb_tt ?_
  | with_reducible refine Bf.isi_ (Bf.ty_l (by assumption)) Bf.kb_ll ?_
  | with_reducible refine Bf.isi_ (Bf.ty_t (by assumption)) Bf.kb_tl ?_
  | with_reducible refine Bf.isi_ (Bf.ty_l (by assumption)) Bf.kb_lt ?_
  | with_reducible refine Bf.isi_ Bf.ty_b Bf.kb_bi ?_
  | with_reducible refine Bf.isi_ Bf.ty_b Bf.kb_bb ?_
  | with_reducible refine Bf.isi_ Bf.ty_b Bf.kb_bs ?_
  | with_reducible refine Bf.isi_ Bf.ty_b Bf.kb_bt ?_
  | with_reducible refine Bf.isi_ Bf.ty_b Bf.kb_bL ?_
  | with_reducible refine Bf.isi_ Bf.ty_n Bf.kb_ni ?_
  | with_reducible refine Bf.isi_ Bf.ty_n Bf.kb_nb ?_
  | with_reducible refine Bf.isi_ Bf.ty_n Bf.kb_ns ?_
  | with_reducible refine Bf.isi_ Bf.ty_n Bf.kb_nt ?_
  | with_reducible refine Bf.isi_ Bf.ty_n Bf.kb_nl ?_
  | with_reducible refine Bf.isi_ (Bf.ty_t (by assumption)) Bf.kb_ti ?_
  | with_reducible refine Bf.isi_ (Bf.ty_l (by assumption)) Bf.kb_li ?_
  | with_reducible refine Bf.isi_ (Bf.ty_t (by assumption)) Bf.kb_tb ?_
  | with_reducible refine Bf.isi_ (Bf.ty_l (by assumption)) Bf.kb_lb ?_
  | with_reducible refine Bf.isi_ (Bf.ty_t (by assumption)) Bf.kb_ts ?_
  | with_reducible refine Bf.isi_ (Bf.ty_l (by assumption)) Bf.kb_ls ?_
  | with_reducible refine Bf.r_gtup (by assumption) (by with_unfolding_all rfl) ?_
  | with_reducible refine Bf.r_gcons ?_
  | with_reducible refine Bf.r_gnil ?_
  | with_reducible refine Bf.r_gsub ?_
  | ((with_reducible refine Bf.n_num ?h ?_); (case h => first | assumption | (refine And.intro ?_ ?_ <;> omega)))
  | with_reducible refine Bf.n_isint ?_
  | with_reducible refine Bf.n_mixed ?_
  | with_reducible refine Bf.r_dget ?_
  | with_reducible refine Bf.n_dgetS (by assumption) (by with_unfolding_all rfl) ?_
  | with_reducible refine Bf.r_pcons ?_
  | with_reducible refine Bf.r_pnil ?_
  | with_reducible refine Bf.r_sl ?_
  | with_reducible refine Bf.r_nopart ?_
  | with_reducible refine Bf.r_part ?_
  | with_reducible refine Bf.r_isint ?_
  | with_reducible refine Bf.r_revL ?_
  | with_reducible refine Bf.r_sfld ?_
  | with_reducible refine Bf.r_meth ?_
  | with_reducible refine Bf.n_meth (by assumption) (by with_unfolding_all rfl) ?_
  | with_reducible refine Bf.r_make ?_
  | with_reducible refine Bf.r_turn ?_
  | with_reducible refine Bf.r_wipe (by with_unfolding_all rfl) ?_
  | with_reducible refine Bf.r_yes ?_
  | with_reducible refine Bf.r_lcL ?_
  | with_reducible refine Bf.r_lcT ?_
  | with_reducible refine Bf.r_lcR ?_
  | with_reducible refine Bf.r_forL ?_
  | with_reducible refine Bf.r_forZ ?_
  | with_reducible refine Bf.r_forT ?_
  | with_reducible refine Bf.r_forR ?_
  | with_reducible refine Bf.r_forR2 ?_
  | ((with_reducible refine Bf.i_d1 ?h ?_); (case h => walk_at "pfL4"))
  | ((with_reducible refine Bf.i_d0 ?h ?_); (case h => walk_at "pfL4"))
  | ((with_reducible refine Bf.i_n1 ?h ?_); (case h => walk_at "pfL4"))
  | ((with_reducible refine Bf.i_n0 ?h ?_); (case h => walk_at "pfL4")))
local macro_rules | `(tactic| walk_at "rdL4") => `(tactic| repeat walk_at "rd1L4")
namespace Bf
open PySem L2
abbrev s__law_program : Stmt := topS 43
theorem bi__law_program : ∀ (kV doc pm : Value) (an : Option Addr) (cdv ct : Value) (us : List Value), us.length = 2 → bindArgs (PySem.W.fnOf "_law_program" "_law_program" (defArgs s__law_program) (defBody s__law_program) (defScope s__law_program) .none kV doc pm an cdv ct) ⟨us, []⟩ = pure ((["_law_draws", "_law_most"] : List Str).zip us) := fun _ _ _ _ _ _ us hl => match us, hl with | [_, _], _ => rfl
theorem sc__law_program : FnScope ["_law_draws", "_law_most", "_law_prime_here", "_law_modulus_here", "_law_cells", "_law_inputs", "_law_many", "_law_steps", "_law_k"] ["_law_draws", "_law_most"] (defScope s__law_program) := C8.fnScope_by (by decide +kernel)
abbrev s__law_made : Stmt := topS 44
theorem bi__law_made : ∀ (kV doc pm : Value) (an : Option Addr) (cdv ct : Value) (us : List Value), us.length = 1 → bindArgs (PySem.W.fnOf "_law_made" "_law_made" (defArgs s__law_made) (defBody s__law_made) (defScope s__law_made) .none kV doc pm an cdv ct) ⟨us, []⟩ = pure ((["_law_model"] : List Str).zip us) := fun _ _ _ _ _ _ us hl => match us, hl with | [_], _ => rfl
theorem sc__law_made : FnScope ["_law_model"] ["_law_model"] (defScope s__law_made) := C8.fnScope_by (by decide +kernel)
def spMade (C : Addr) : Sp := fun vs H Q _ => ∃ (p : Addr) (m c n : Int) (ss : List Step), vs = [.ref p] ∧ Mdl H p m c n ss ∧ Vp m c n ss ∧ ∀ x H', Same H H' → Prg C H' x m c n ss → Q (.ref x) H'
section
variable {P : Program} {w : World} {K : PySem.W.Frag} {mg : Str → Option Value} {base : Heap}
theorem cal__law_made {C : Addr} (T : Gs mg) (G : PgC K C) (c_Program : C8.Mak P w K mg base 7 "Program" C (spInit C) []) (F : DefAt K mg "_law_made" s__law_made) : C8.Cal P w K mg base 9 "_law_made" (spMade C) [] := by
  refine cal_of F sc__law_made bi__law_made (fun vs H Q E h => ?_) (fun f cdv A outer s H vs Q E hr h => ?_)
  · obtain ⟨p, m, c, n, ss, rfl, _⟩ := h
    rfl
  · have hu : (A.deeper (PyProof.Rows.envOfC "_law_made" (defScope s__law_made) s.heap.objs.size f cdv)).units + 1 < cLine := by have := hr.units; omega
    refine ⟨_, (pss_one (ps_ret (C8.pe_mk c_Program hr (by first | decide | omega) rfl (pa_cons (pe_dget hu (pv 0) pe_str (fun _ _ => rfl)) (pa_cons (pe_dget hu (pv 0) pe_str (fun _ _ => rfl)) (pa_cons (pe_dget hu (pv 0) pe_str (fun _ _ => rfl)) (pa_cons (pe_callTy b_list (by rfl) T.n_list (by decide +kernel) (pa_cons (pe_dget hu (pv 0) pe_str (fun _ _ => rfl)) pa_nil)) pa_nil))))))), ?_⟩
    obtain ⟨p, m, c, n, ss, rfl, ⟨q, ws, hp, hq, hl⟩, vp, k⟩ := h
    walk_at "rdL4"
    refine n_listL hq fun r H1 nr s1 hr1 => ?_
    exact n_mk rfl hr1 (hl.same s1) vp fun x H2 nx s2 pr => k x H2 (s1.trans s2) pr
theorem cal__law_program (T : Gs mg) (c__law_draw : C8.Cal P w K mg base 2 "_law_draw" spDraw []) (c__law_modulus : C8.Cal P w K mg base 4 "_law_modulus" spModulus []) (c__law_prime : C8.Cal P w K mg base 3 "_law_prime" spPrimeD []) (c__law_step : C8.Cal P w K mg base 6 "_law_step" spStepD []) (F : DefAt K mg "_law_program" s__law_program) : C8.Cal P w K mg base 7 "_law_program" spProgramD [] := by
  refine cal_of F sc__law_program bi__law_program (fun vs H Q E h => ?_) (fun f cdv A outer s H vs Q E hr h => ?_)
  · obtain ⟨D, most, rfl, _⟩ := h
    rfl
  · refine ⟨_, (pss_cons (ps_set (i := 2) sc__law_program.nd rfl (by first | exact Or.inl rfl | exact Or.inr rfl) (pe_cmpR op_eq (pe_op op_mod (C8.pe_c c__law_draw hr (by first | decide | omega) rfl (pa_cons (pv 0) pa_nil)) pe_int) pe_int (nomark _)))
      (pss_cons (ps_set (i := 3) sc__law_program.nd rfl (by first | exact Or.inl rfl | exact Or.inr rfl) (C8.pe_c c__law_modulus hr (by first | decide | omega) rfl (pa_cons (pv 0) pa_nil)))
      (pss_cons (ps_if (pt_val (pv 2)) (pss_one (ps_set (i := 3) sc__law_program.nd rfl (by first | exact Or.inl rfl | exact Or.inr rfl) (C8.pe_c c__law_prime hr (by first | decide | omega) rfl (pa_cons (pv 0) pa_nil)))) pss_nil)
      (pss_cons (ps_set (i := 4) sc__law_program.nd rfl (by first | exact Or.inl rfl | exact Or.inr rfl) (pe_ix ix_seq (pe_lst (pa_cons pe_int (pa_cons pe_int (pa_cons pe_int (pa_cons pe_int (pa_cons pe_int (pa_cons pe_int pa_nil))))))) (pe_op op_mod (C8.pe_c c__law_draw hr (by first | decide | omega) rfl (pa_cons (pv 0) pa_nil)) pe_int) (fun _ _ => rfl)))
      (pss_cons (ps_set (i := 5) sc__law_program.nd rfl (by first | exact Or.inl rfl | exact Or.inr rfl) (pe_ix ix_seq (pe_lst (pa_cons pe_int (pa_cons pe_int (pa_cons pe_int (pa_cons pe_int pa_nil))))) (pe_op op_mod (C8.pe_c c__law_draw hr (by first | decide | omega) rfl (pa_cons (pv 0) pa_nil)) pe_int) (fun _ _ => rfl)))
      (pss_cons (ps_set (i := 6) sc__law_program.nd rfl (by first | exact Or.inl rfl | exact Or.inr rfl) (pe_op op_mod (C8.pe_c c__law_draw hr (by first | decide | omega) rfl (pa_cons (pv 0) pa_nil)) (pe_op op_add (pv 1) pe_int)))
      (pss_cons (ps_setLc (i := 7) (own := [("_law_k", 8)]) (g := gName 8) (tt := tYes) rfl sc__law_program.nd rfl rfl (sw_true rfl rfl rfl (by decide +kernel)) (pi_range1 rfl T.n_range (pa_cons (pv 6) pa_nil)) (blkOk_by (by first | decide +kernel | kernel_rfl)) (fun _ _ _ _ _ => pg_name (i := 8) sc__law_program.nd rfl (by first | exact Or.inl rfl | exact Or.inr rfl)) (fun _ _ _ _ _ => pts_nil) (fun _ _ _ _ _ => (C8.pe_c c__law_step hr (by first | decide | omega) rfl (pa_cons (pv 0) (pa_cons (pv 3) (pa_cons (pv 4) (pa_cons (pv 5) (pa_cons (pv 2) pa_nil))))))))
      (pss_one (ps_ret (pe_disp (pps_cons pe_str (pv 3) (pps_cons pe_str (pv 4) (pps_cons pe_str (pv 5) (pps_cons pe_str (pv 7) pps_nil)))) (by rfl) (by rfl) (fun z => by cases z) (by decide))))))))))), ?_⟩
    obtain ⟨D, most, rfl, dr, most0, most1, k⟩ := h
    walk_at "rdL4"
    refine ⟨D, rfl, dr, fun v1 H1 a1 b1 s1 => ?_⟩
    walk_at "rdL4"
    refine ⟨D, rfl, s1.dr, fun m0 H2 m2 m9 s2 => ?_⟩
    replace s2 := s1.trans s2
    walk_at "rdL4"
    by_cases hpr : v1 % 2 = 0
    · rw [decide_eq_true hpr]
      walk_at "rdL4"
      refine ⟨D, rfl, s2.dr, fun m H3 mp m2 m9 s3 => ?_⟩
      replace s3 := s2.trans s3
      have hprm : true = true → Pr m := fun _ => mp
      have hsz : sizeLine = 2 ^ 24 := rfl
      walk_at "rdL4"
      refine n_lst (Nat.le_of_ble_eq_true rfl) fun q4 H4 nq4 s4 hq4 => ?_
      have dr3 := s3.dr
      replace s4 := s3.same s4
      walk_at "rdL4"
      refine ⟨D, rfl, s4.dr, fun v5 H5 a5 b5 s5 => ?_⟩
      have p5 := mod_bd v5 (b := 6) (by decide)
      replace hq4 := Ds.new dr3 nq4 hq4 s5
      replace s5 := s4.trans s5
      walk_at "rdL4"
      refine n_pick (ns := [1, 2, 3, 3, 4, 60]) hq4 p5.1 p5.2 fun c hc => ?_
      have hcb : 1 ≤ c ∧ c ≤ 60 := by
        simp only [List.mem_cons, List.not_mem_nil, or_false] at hc
        omega
      walk_at "rdL4"
      refine n_lst (Nat.le_of_ble_eq_true rfl) fun q6 H6 nq6 s6 hq6 => ?_
      have dr5 := s5.dr
      replace s6 := s5.same s6
      walk_at "rdL4"
      refine ⟨D, rfl, s6.dr, fun v7 H7 a7 b7 s7 => ?_⟩
      have p7 := mod_bd v7 (b := 4) (by decide)
      replace hq6 := Ds.new dr5 nq6 hq6 s7
      replace s7 := s6.trans s7
      walk_at "rdL4"
      refine n_pick (ns := [0, 1, 2, 60]) hq6 p7.1 p7.2 fun n hn => ?_
      have hnb : 0 ≤ n ∧ n ≤ 60 := by
        simp only [List.mem_cons, List.not_mem_nil, or_false] at hn
        omega
      walk_at "rdL4"
      refine ⟨D, rfl, s7.dr, fun v8 H8 a8 b8 s8 => ?_⟩
      have p8 := mod_bd v8 (b := most + 1) (by omega)
      replace s8 := s7.trans s8
      walk_at "rdL4"
      refine n_lcR (by omega) fun O H9 nO sO hO => ⟨fun i H' => ∃ (ss : List Step) (acc : List V), Ds D H8 H' ∧ H' O = some (.lst acc) ∧ RpL H' (ss.map Step.d) acc ∧ ss.length = i ∧ (∀ s ∈ ss, s.ok m c n) ∧ ((∃ s ∈ ss, s.isTable = true) → Pr m),
        ⟨[], [], Ds.of s8.dr sO, hO, rfl, rfl, by simp, by simp⟩, fun i H10 hi h => ?_, fun H10 h => ?_⟩
      · obtain ⟨ss, acc, s10, hO10, hra, hlen, hok, htb⟩ := h
        have hal := hra.len
        rw [List.length_map] at hal
        walk_at "rdL4"
        refine ⟨D, _, c, n, _, rfl, s10.dr, m2, m9, hcb.1, hnb.1, hprm, fun st v H11 sok stb srp s11 => ?_⟩
        have hO11 := Ds.new s8.dr nO hO10 s11
        refine n_acc hO11 (by omega) fun H12 k12 h12 => ⟨ss ++ [st], acc ++ [v], Ds.kpn s8.dr nO (s10.trans s11) k12, h12, ?_, by rw [List.length_append, hlen]; rfl, fun g2 hg2 => ?_, fun hex => ?_⟩
        · rw [List.map_append]
          refine ((hra.tk (Ds.tk s10.dr s11) (steps_flat ss)).snoc srp).tk (TK.kp hO11 k12) ?_
          have fl := steps_flat (ss ++ [st])
          rwa [List.map_append] at fl
        · rcases List.mem_append.mp hg2 with q | q
          · exact hok g2 q
          · rw [List.mem_singleton.mp q]
            exact sok
        · obtain ⟨x, hx, hxt⟩ := hex
          rcases List.mem_append.mp hx with q | q
          · exact htb ⟨x, q, hxt⟩
          · rw [List.mem_singleton.mp q] at hxt
            exact hprm (stb hxt)
      · obtain ⟨ss, acc, s10, hO10, hra, hlen, hok, htb⟩ := h
        replace s10 := s8.trans s10
        walk_at "rdL4"
        refine r_disp fun p H11 np s11 hp => ?_
        replace hO10 := s11 _ _ hO10
        replace hra := hra.same s11
        have dr10 := s10.dr
        have s11_0 := Ds.of dr10 s11
        walk_at "rdL4"
        refine n_disp (kvs := [(.inr "modulus", .int _), (.inr "cells", .int c), (.inr "inputs", .int n), (.inr "steps", .ref O)]) hp rfl (Nat.le_of_ble_eq_true rfl) (by with_unfolding_all rfl) fun H12 k12 h12 => ?_
        have hOp : O ≠ p := ne_of hO10 hp (by intro z; cases z)
        have tk12 : TK H11 H12 := fun b ys e => k12 b _ (ne_of e hp (by intro z; cases z)) e
        exact k p _ c n ss H12 ⟨m2, m9, hcb.1, hcb.2, hnb.1, hnb.2, by omega, hok, htb⟩ (by omega) ⟨O, acc, h12, k12 _ _ hOp hO10, hra.tk tk12 (steps_flat ss)⟩ (s10.trans (Ds.kpn dr10 np s11_0 k12))
    · rw [decide_eq_false hpr]
      have s3 := s2
      have hprm : false = true → Pr m0 := fun z => by cases z
      have hsz : sizeLine = 2 ^ 24 := rfl
      walk_at "rdL4"
      refine n_lst (Nat.le_of_ble_eq_true rfl) fun q4 H4 nq4 s4 hq4 => ?_
      have dr3 := s3.dr
      replace s4 := s3.same s4
      walk_at "rdL4"
      refine ⟨D, rfl, s4.dr, fun v5 H5 a5 b5 s5 => ?_⟩
      have p5 := mod_bd v5 (b := 6) (by decide)
      replace hq4 := Ds.new dr3 nq4 hq4 s5
      replace s5 := s4.trans s5
      walk_at "rdL4"
      refine n_pick (ns := [1, 2, 3, 3, 4, 60]) hq4 p5.1 p5.2 fun c hc => ?_
      have hcb : 1 ≤ c ∧ c ≤ 60 := by
        simp only [List.mem_cons, List.not_mem_nil, or_false] at hc
        omega
      walk_at "rdL4"
      refine n_lst (Nat.le_of_ble_eq_true rfl) fun q6 H6 nq6 s6 hq6 => ?_
      have dr5 := s5.dr
      replace s6 := s5.same s6
      walk_at "rdL4"
      refine ⟨D, rfl, s6.dr, fun v7 H7 a7 b7 s7 => ?_⟩
      have p7 := mod_bd v7 (b := 4) (by decide)
      replace hq6 := Ds.new dr5 nq6 hq6 s7
      replace s7 := s6.trans s7
      walk_at "rdL4"
      refine n_pick (ns := [0, 1, 2, 60]) hq6 p7.1 p7.2 fun n hn => ?_
      have hnb : 0 ≤ n ∧ n ≤ 60 := by
        simp only [List.mem_cons, List.not_mem_nil, or_false] at hn
        omega
      walk_at "rdL4"
      refine ⟨D, rfl, s7.dr, fun v8 H8 a8 b8 s8 => ?_⟩
      have p8 := mod_bd v8 (b := most + 1) (by omega)
      replace s8 := s7.trans s8
      walk_at "rdL4"
      refine n_lcR (by omega) fun O H9 nO sO hO => ⟨fun i H' => ∃ (ss : List Step) (acc : List V), Ds D H8 H' ∧ H' O = some (.lst acc) ∧ RpL H' (ss.map Step.d) acc ∧ ss.length = i ∧ (∀ s ∈ ss, s.ok m0 c n) ∧ ((∃ s ∈ ss, s.isTable = true) → Pr m0),
        ⟨[], [], Ds.of s8.dr sO, hO, rfl, rfl, by simp, by simp⟩, fun i H10 hi h => ?_, fun H10 h => ?_⟩
      · obtain ⟨ss, acc, s10, hO10, hra, hlen, hok, htb⟩ := h
        have hal := hra.len
        rw [List.length_map] at hal
        walk_at "rdL4"
        refine ⟨D, _, c, n, _, rfl, s10.dr, m2, m9, hcb.1, hnb.1, hprm, fun st v H11 sok stb srp s11 => ?_⟩
        have hO11 := Ds.new s8.dr nO hO10 s11
        refine n_acc hO11 (by omega) fun H12 k12 h12 => ⟨ss ++ [st], acc ++ [v], Ds.kpn s8.dr nO (s10.trans s11) k12, h12, ?_, by rw [List.length_append, hlen]; rfl, fun g2 hg2 => ?_, fun hex => ?_⟩
        · rw [List.map_append]
          refine ((hra.tk (Ds.tk s10.dr s11) (steps_flat ss)).snoc srp).tk (TK.kp hO11 k12) ?_
          have fl := steps_flat (ss ++ [st])
          rwa [List.map_append] at fl
        · rcases List.mem_append.mp hg2 with q | q
          · exact hok g2 q
          · rw [List.mem_singleton.mp q]
            exact sok
        · obtain ⟨x, hx, hxt⟩ := hex
          rcases List.mem_append.mp hx with q | q
          · exact htb ⟨x, q, hxt⟩
          · rw [List.mem_singleton.mp q] at hxt
            exact hprm (stb hxt)
      · obtain ⟨ss, acc, s10, hO10, hra, hlen, hok, htb⟩ := h
        replace s10 := s8.trans s10
        walk_at "rdL4"
        refine r_disp fun p H11 np s11 hp => ?_
        replace hO10 := s11 _ _ hO10
        replace hra := hra.same s11
        have dr10 := s10.dr
        have s11_0 := Ds.of dr10 s11
        walk_at "rdL4"
        refine n_disp (kvs := [(.inr "modulus", .int _), (.inr "cells", .int c), (.inr "inputs", .int n), (.inr "steps", .ref O)]) hp rfl (Nat.le_of_ble_eq_true rfl) (by with_unfolding_all rfl) fun H12 k12 h12 => ?_
        have hOp : O ≠ p := ne_of hO10 hp (by intro z; cases z)
        have tk12 : TK H11 H12 := fun b ys e => k12 b _ (ne_of e hp (by intro z; cases z)) e
        exact k p _ c n ss H12 ⟨m2, m9, hcb.1, hcb.2, hnb.1, hnb.2, by omega, hok, htb⟩ (by omega) ⟨O, acc, h12, k12 _ _ hOp hO10, hra.tk tk12 (steps_flat ss)⟩ (s10.trans (Ds.kpn dr10 np s11_0 k12))
end
end Bf
local macro_rules | `(tactic| walk_at "pfL5") => `(tactic| first | decide +kernel | omega | assumption | rfl | (simp only [List.length_cons, List.length_nil]; omega))
local macro_rules | `(tactic| walk_at "rd1L5") => `(tactic| first
  | with_reducible refine Bf.r_seq ?_
  | with_reducible refine Bf.r_asg ?_
  | with_reducible refine Bf.r_var (by with_unfolding_all rfl) ?_
  | with_reducible refine Bf.r_c ?_
  | with_reducible refine Bf.r_name ?_
  | with_reducible refine Bf.r_ret ?_
  | with_reducible refine Bf.r_op ?_
  | with_reducible refine Bf.r_I0 ?_
  | ((with_reducible refine Bf.r_I ?c ?_); (case c => first | decide | (show (0 : Int) < _; omega) | (refine Or.inl ⟨?_, ?_⟩ <;> omega) | (refine Or.inr ⟨?_, ?_⟩ <;> omega) | (refine And.intro ?_ ?_ <;> omega)))
  | with_reducible refine Bf.r_ifS ?_
  | with_reducible refine Bf.r_test ?_
  | with_reducible refine Bf.r_isbl ?_
  | with_reducible refine Bf.r_eqI ?_
  | with_reducible refine Bf.r_neI ?_
  | with_reducible refine Bf.r_eqS ?_
  | with_reducible refine Bf.r_neS ?_
  | with_reducible refine Bf.r_cons ?_
  | with_reducible refine Bf.r_nil ?_
  | with_reducible refine Bf.r_CB ?_
  | with_reducible refine Bf.r_call ?_
  | with_reducible refine Bf.i_t ?_
  | with_reducible refine Bf.i_f ?_
  | with_reducible refine Bf.i_nt ?_
  | with_reducible refine Bf.i_nf ?_
  | with_reducible refine Bf.r_ixT (by assumption) (by with_unfolding_all rfl) ?_
  | with_reducible refine Bf.r_ixL (by assumption) (by with_unfolding_all rfl) ?_
  | with_reducible refine Bf.r_fld ?_
  | ((with_reducible refine Bf.r_fat (by assumption) ?c ?n (by with_unfolding_all rfl) ?_); (case c => assumption); (case n => assumption))
  | with_reducible refine Bf.r_par ?_
  | with_reducible refine Bf.r_two ?_
  | with_reducible refine Bf.r_aug (by with_unfolding_all rfl) ?_
  | with_reducible refine Bf.r_ip ?_
  | with_reducible refine Bf.r_app (by with_unfolding_all rfl) (by assumption) ?_
  | with_reducible refine Bf.r_next ?_
  | with_reducible refine Bf.r_cont ?_
  | with_reducible refine Bf.r_drop ?_
  | with_reducible refine Bf.r_and ?_
  | with_reducible refine Bf.r_or ?_
  | with_reducible refine Bf.r_not ?_
  | with_reducible refine Bf.r_andV ?_
  | with_reducible refine Bf.r_orV ?_
  | with_reducible refine Bf.r_notV ?_
  | with_reducible refine Bf.r_chain ?_
  | with_reducible refine Bf.r_B ?_
  | with_reducible refine Bf.r_ifE ?_
  | with_reducible refine Bf.r_un ?_
  | with_reducible refine Bf.r_U ?_
  | with_reducible refine Bf.r_tup ?_
  | with_reducible refine Bf.r_lst ?_
  | with_reducible refine Bf.r_lenT (by assumption) ?_
  | with_reducible refine Bf.r_lenL (by assumption) ?_
  | with_reducible refine Bf.r_int ?_
  | with_reducible refine Bf.r_max2 ?_
  | with_reducible refine Bf.r_min2 ?_
  | with_reducible refine Bf.isi_ Bf.ty_i Bf.kb_ii ?_
  | with_reducible refine Bf.isi_ Bf.ty_i Bf.kb_ib ?_
  | with_reducible refine Bf.isi_ Bf.ty_i Bf.kb_is ?_
  | with_reducible refine Bf.isi_ Bf.ty_i Bf.kb_it ?_
  | with_reducible refine Bf.isi_ Bf.ty_i Bf.kb_il ?_
  | with_reducible refine Bf.isi_ Bf.ty_s Bf.kb_si ?_
  | with_reducible refine Bf.isi_ Bf.ty_s Bf.kb_sb ?_
  | with_reducible refine Bf.isi_ Bf.ty_s Bf.kb_ss ?_
  | with_reducible refine Bf.isi_ Bf.ty_s Bf.kb_st ?_
  | with_reducible refine Bf.isi_ Bf.ty_s Bf.kb_sl ?_
  | with_reducible refine Bf.isi_ (Bf.ty_t (by assumption)) Bf.kb_tt ?_
  | with_reducible refine Bf.isi_ (Bf.ty_l (by assumption)) Bf.kb_ll ?_
  | with_reducible refine Bf.isi_ (Bf.ty_t (by assumption)) Bf.kb_tl ?_
  | with_reducible refine Bf.isi_ (Bf.ty_l (by assumption)) Bf.kb_lt ?_
  | with_reducible refine Bf.isi_ Bf.ty_b Bf.kb_bi ?_
  | with_reducible refine Bf.isi_ Bf.ty_b Bf.kb_bb ?_
  | with_reducible refine Bf.isi_ Bf.ty_b Bf.kb_bs ?_
  | with_reducible refine Bf.isi_ Bf.ty_b Bf.kb_bt ?_
  | with_reducible refine Bf.isi_ Bf.ty_b Bf.kb_bL ?_
  | with_reducible refine Bf.isi_ Bf.ty_n Bf.kb_ni ?_
  | with_reducible refine Bf.isi_ Bf.ty_n Bf.kb_nb ?_
  | with_reducible refine Bf.isi_ Bf.ty_n Bf.kb_ns ?_
  | with_reducible refine Bf.isi_ Bf.ty_n Bf.kb_nt ?_
  | with_reducible refine Bf.isi_ Bf.ty_n Bf.kb_nl ?_
  | with_reducible refine Bf.isi_ (Bf.ty_t (by assumption)) Bf.kb_ti ?_
  | with_reducible refine Bf.isi_ (Bf.ty_l (by assumption)) Bf.kb_li ?_
  | with_reducible refine Bf.isi_ (Bf.ty_t (by assumption)) Bf.kb_tb ?_
  | with_reducible refine Bf.isi_ (Bf.ty_l (by assumption)) Bf.kb_lb ?_
  | with_reducible refine Bf.isi_ (Bf.ty_t (by assumption)) Bf.kb_ts ?_
  | with_reducible refine Bf.isi_ (Bf.ty_l (by assumption)) Bf.kb_ls ?_
  | with_reducible refine Bf.r_gtup (by assumption) (by with_unfolding_all rfl) ?_
  | with_reducible refine Bf.r_gcons ?_
  | with_reducible refine Bf.r_gnil ?_
  | with_reducible refine Bf.r_gsub ?_
  | ((with_reducible refine Bf.n_num ?h ?_); (case h => first | assumption | (refine And.intro ?_ ?_ <;> omega)))
  | with_reducible refine Bf.n_isint ?_
  | with_reducible refine Bf.n_mixed ?_
  | with_reducible refine Bf.r_dget ?_
  | with_reducible refine Bf.n_dgetS (by assumption) (by with_unfolding_all rfl) ?_
  | with_reducible refine Bf.r_pcons ?_
  | with_reducible refine Bf.r_pnil ?_
  | with_reducible refine Bf.r_sl ?_
  | with_reducible refine Bf.r_nopart ?_
  | with_reducible refine Bf.r_part ?_
  | with_reducible refine Bf.r_isint ?_
  | with_reducible refine Bf.r_revL ?_
  | with_reducible refine Bf.r_sfld ?_
  | with_reducible refine Bf.r_meth ?_
  | with_reducible refine Bf.n_meth (by assumption) (by with_unfolding_all rfl) ?_
  | with_reducible refine Bf.r_make ?_
  | with_reducible refine Bf.r_turn ?_
  | with_reducible refine Bf.r_wipe (by with_unfolding_all rfl) ?_
  | with_reducible refine Bf.r_yes ?_
  | with_reducible refine Bf.r_lcL ?_
  | with_reducible refine Bf.r_lcT ?_
  | with_reducible refine Bf.r_lcR ?_
  | with_reducible refine Bf.r_forL ?_
  | with_reducible refine Bf.r_forZ ?_
  | with_reducible refine Bf.r_forT ?_
  | with_reducible refine Bf.r_forR ?_
  | with_reducible refine Bf.r_forR2 ?_
  | ((with_reducible refine Bf.i_d1 ?h ?_); (case h => walk_at "pfL5"))
  | ((with_reducible refine Bf.i_d0 ?h ?_); (case h => walk_at "pfL5"))
  | ((with_reducible refine Bf.i_n1 ?h ?_); (case h => walk_at "pfL5"))
  | ((with_reducible refine Bf.i_n0 ?h ?_); (case h => walk_at "pfL5")))
local macro_rules | `(tactic| walk_at "rdL5") => `(tactic| repeat walk_at "rd1L5")
namespace Bf
open PySem L2
abbrev s__law_equal : Stmt := topS 32
theorem bi__law_equal : ∀ (kV doc pm : Value) (an : Option Addr) (cdv ct : Value) (us : List Value), us.length = 2 → bindArgs (PySem.W.fnOf "_law_equal" "_law_equal" (defArgs s__law_equal) (defBody s__law_equal) (defScope s__law_equal) .none kV doc pm an cdv ct) ⟨us, []⟩ = pure ((["_law_actual", "_law_due"] : List Str).zip us) := fun _ _ _ _ _ _ us hl => match us, hl with | [_, _], _ => rfl
theorem sc__law_equal : FnScope ["_law_actual", "_law_due"] ["_law_actual", "_law_due"] (defScope s__law_equal) := C8.fnScope_by (by decide +kernel)
abbrev s__law_all_equal : Stmt := topS 33
theorem bi__law_all_equal : ∀ (kV doc pm : Value) (an : Option Addr) (cdv ct : Value) (us : List Value), us.length = 2 → bindArgs (PySem.W.fnOf "_law_all_equal" "_law_all_equal" (defArgs s__law_all_equal) (defBody s__law_all_equal) (defScope s__law_all_equal) .none kV doc pm an cdv ct) ⟨us, []⟩ = pure ((["_law_actual", "_law_due"] : List Str).zip us) := fun _ _ _ _ _ _ us hl => match us, hl with | [_, _], _ => rfl
theorem sc__law_all_equal : FnScope ["_law_actual", "_law_due", "_law_k"] ["_law_actual", "_law_due"] (defScope s__law_all_equal) := C8.fnScope_by (by decide +kernel)
theorem q_self {z : Str} {H : Hp} {Q : VK} (k : Q (.bl true) H) : Q (.bl (decide (z = z))) H := by rw [decide_eq_true rfl]; exact k
section
variable {P : Program} {w : World} {K : PySem.W.Frag} {mg : Str → Option Value} {base : Heap}
theorem cal_all0 (T : Gs mg) (F : DefAt K mg "_law_all_equal" s__law_all_equal) : C8.Cal P w K mg base 1 "_law_all_equal" (spAllEq 0) [] := by
  refine cal_of F sc__law_all_equal bi__law_all_equal (fun vs H Q E h => ?_) (fun f cdv A outer s H vs Q E hr h => ?_)
  · obtain ⟨ds, p, q, as, bs, rfl, _⟩ := h
    rfl
  · obtain ⟨ds, p, q, as, bs, rfl, _, _, _, _, hd, _⟩ := h
    exact absurd hd (Nat.not_lt_zero _)
theorem cal_allS (T : Gs mg) {k : Nat} (c__law_equal : C8.Cal P w K mg base (2 * k + 2) "_law_equal" (spEq k) []) (F : DefAt K mg "_law_all_equal" s__law_all_equal) : C8.Cal P w K mg base (2 * k + 3) "_law_all_equal" (spAllEq (k + 1)) [] := by
  refine cal_of F sc__law_all_equal bi__law_all_equal (fun vs H Q E h => ?_) (fun f cdv A outer s H vs Q E hr h => ?_)
  · obtain ⟨ds, p, q, as, bs, rfl, _⟩ := h
    rfl
  · refine ⟨_, (pss_cons (ps_for PassesOwn.never rfl (pi_range1 rfl T.n_range (pa_cons (pe_callB b_len (by rfl) T.n_len PySem.boot_len (pa_cons (pv 1) pa_nil)) pa_nil)) (pg_name (i := 2) sc__law_all_equal.nd rfl (by first | exact Or.inl rfl | exact Or.inr rfl)) (pss_one (ps_if (pt_not (pt_val (C8.pe_c c__law_equal hr (by first | decide | omega) rfl (pa_cons (pe_ix ix_seq (pv 0) (pv 2) (fun _ _ => rfl)) (pa_cons (pe_ix ix_seq (pv 1) (pv 2) (fun _ _ => rfl)) pa_nil))))) (pss_one (ps_ret pe_bl)) pss_nil)))
      (pss_one (ps_ret pe_bl))), ?_⟩
    obtain ⟨ds, p, q, as, bs, rfl, hp, hq, hra, hrb, hd, hsz, hw, kk⟩ := h
    have hal := hra.len
    have hbl := hrb.len
    have hz : sizeLine = 2 ^ 24 := rfl
    have lenq : ∀ {K : PySem.W.Frag} {Q : VK}, Q (.int bs.length) H → rLen K [.ref q] H Q := fun h => by
      rcases hq with e | e
      · exact r_lenL e h
      · exact r_lenT e h
    have ixp : ∀ {K : PySem.W.Frag} {Q : VK} {i : Nat} {v : V}, as[i]? = some v → Q v H → rIx K (.ref p) (.int i) H Q := fun h1 h2 => by
      rcases hp with e | e
      · exact r_ixL e (atI_nat h1) h2
      · exact r_ixT e (atI_nat h1) h2
    have ixq : ∀ {K : PySem.W.Frag} {Q : VK} {i : Nat} {v : V}, bs[i]? = some v → Q v H → rIx K (.ref q) (.int i) H Q := fun h1 h2 => by
      rcases hq with e | e
      · exact r_ixL e (atI_nat h1) h2
      · exact r_ixT e (atI_nat h1) h2
    walk_at "rdL5"
    refine lenq ?_
    walk_at "rdL5"
    refine n_forR (fun i σ H' => ∃ u1 : Option V, σ = [some (.ref p), some (.ref q), u1] ∧ H' = H) (by omega) ⟨_, rfl, rfl⟩ ?_ ?_
    · rintro i σ H' hi ⟨u1, rfl, rfl⟩
      have hi' : i < ds.length := by omega
      have hdi : ds[i]? = some ds[i] := List.getElem?_eq_getElem hi'
      obtain ⟨a, ha, ra⟩ := hra.get hdi
      obtain ⟨b, hb, rb⟩ := hrb.get hdi
      walk_at "rdL5"
      refine ixp ha ?_
      walk_at "rdL5"
      refine ixq hb ?_
      walk_at "rdL5"
      refine ⟨ds[i], a, b, rfl, ra, rb, deps_mem (by omega) hdi, wids_mem hw hdi, ?_⟩
      walk_at "rdL5"
      exact ⟨_, rfl, rfl⟩
    · rintro σ H' ⟨u1, rfl, rfl⟩
      walk_at "rdL5"
      exact kk
theorem cal_eqS (T : Gs mg) {k : Nat} (c__law_all_equal : C8.Cal P w K mg base (2 * k + 1) "_law_all_equal" (spAllEq k) []) (F : DefAt K mg "_law_equal" s__law_equal) : C8.Cal P w K mg base (2 * k + 2) "_law_equal" (spEq k) [] := by
  refine cal_of F sc__law_equal bi__law_equal (fun vs H Q E h => ?_) (fun f cdv A outer s H vs Q E hr h => ?_)
  · obtain ⟨d, a, b, rfl, _⟩ := h
    rfl
  · refine ⟨_, (pss_cons (ps_if (pt_val (pe_callB call_isi (by rfl) T.n_isinstance (by decide +kernel) (pa_cons (pv 1) (pa_cons (pe_bltn (v := .ty "list") rfl T.n_list (by decide +kernel) rfl) pa_nil)))) (pss_cons (ps_if (PW.pt (pw_or (pt_not (pt_val (pe_callB call_isi (by rfl) T.n_isinstance (by decide +kernel) (pa_cons (pv 0) (pa_cons (pe_bltn (v := .ty "list") rfl T.n_list (by decide +kernel) rfl) pa_nil))))) (pw_or1 (pt_cmpR op_ne (pe_callB b_len (by rfl) T.n_len PySem.boot_len (pa_cons (pv 0) pa_nil)) (pe_callB b_len (by rfl) T.n_len PySem.boot_len (pa_cons (pv 1) pa_nil)) (nomark _))))) (pss_one (ps_ret pe_bl)) pss_nil)
      (pss_one (ps_ret (C8.pe_c c__law_all_equal hr (by first | decide | omega) rfl (pa_cons (pv 0) (pa_cons (pv 1) pa_nil)))))) pss_nil)
      (pss_cons (ps_if (pt_val (pe_callB call_isi (by rfl) T.n_isinstance (by decide +kernel) (pa_cons (pv 1) (pa_cons (pe_bltn (v := .ty "tuple") rfl T.n_tuple (by decide +kernel) rfl) pa_nil)))) (pss_cons (ps_if (PW.pt (pw_or (pt_not (pt_val (pe_callB call_isi (by rfl) T.n_isinstance (by decide +kernel) (pa_cons (pv 0) (pa_cons (pe_bltn (v := .ty "tuple") rfl T.n_tuple (by decide +kernel) rfl) pa_nil))))) (pw_or1 (pt_cmpR op_ne (pe_callB b_len (by rfl) T.n_len PySem.boot_len (pa_cons (pv 0) pa_nil)) (pe_callB b_len (by rfl) T.n_len PySem.boot_len (pa_cons (pv 1) pa_nil)) (nomark _))))) (pss_one (ps_ret pe_bl)) pss_nil)
      (pss_one (ps_ret (C8.pe_c c__law_all_equal hr (by first | decide | omega) rfl (pa_cons (pv 0) (pa_cons (pv 1) pa_nil)))))) pss_nil)
      (pss_cons (ps_if (pt_val (pe_callB call_isi (by rfl) T.n_isinstance (by decide +kernel) (pa_cons (pv 1) (pa_cons (pe_bltn (v := .ty "bool") rfl T.n_bool (by decide +kernel) rfl) pa_nil)))) (pss_one (ps_ret (pe_and (pe_callB call_isi (by rfl) T.n_isinstance (by decide +kernel) (pa_cons (pv 0) (pa_cons (pe_bltn (v := .ty "bool") rfl T.n_bool (by decide +kernel) rfl) pa_nil))) (pe_one (pe_cmpR op_eq (pv 0) (pv 1) (nomark _)))))) pss_nil)
      (pss_cons (ps_if (pt_val (pe_callB call_isi (by rfl) T.n_isinstance (by decide +kernel) (pa_cons (pv 1) (pa_cons (pe_bltn (v := .ty "int") rfl T.n_int (by decide +kernel) rfl) pa_nil)))) (pss_one (ps_ret (pe_and (pe_callB call_isi (by rfl) T.n_isinstance (by decide +kernel) (pa_cons (pv 0) (pa_cons (pe_bltn (v := .ty "int") rfl T.n_int (by decide +kernel) rfl) pa_nil))) (pe_and (pe_not (pe_callB call_isi (by rfl) T.n_isinstance (by decide +kernel) (pa_cons (pv 0) (pa_cons (pe_bltn (v := .ty "bool") rfl T.n_bool (by decide +kernel) rfl) pa_nil)))) (pe_one (pe_cmpR op_eq (pv 0) (pv 1) (nomark _))))))) pss_nil)
      (pss_cons (ps_if (pt_val (pe_callB call_isi (by rfl) T.n_isinstance (by decide +kernel) (pa_cons (pv 1) (pa_cons (pe_bltn (v := .ty "str") rfl T.n_str (by decide +kernel) rfl) pa_nil)))) (pss_one (ps_ret (pe_and (pe_callB call_isi (by rfl) T.n_isinstance (by decide +kernel) (pa_cons (pv 0) (pa_cons (pe_bltn (v := .ty "str") rfl T.n_str (by decide +kernel) rfl) pa_nil))) (pe_one (pe_cmpR op_eq (pv 0) (pv 1) (nomark _)))))) pss_nil)
      (pss_one (ps_ret (pe_cmpR op_isN (pv 0) pe_non (nomark _))))))))), ?_⟩
    obtain ⟨d, a, b, rfl, ha, hb, hd, hw, kk⟩ := h
    cases d with
    | i n =>
      cases (show a = _ from ha)
      cases (show b = _ from hb)
      walk_at "rdL5"
      rw [decide_eq_true (rfl : n = n)]
      exact kk
    | s z =>
      cases (show a = _ from ha)
      cases (show b = _ from hb)
      walk_at "rdL5"
      exact q_self kk
    | b z =>
      cases (show a = _ from ha)
      cases (show b = _ from hb)
      walk_at "rdL5"
      exact ⟨rfl, by rw [decide_eq_true (rfl : V.bl z = V.bl z)]; exact kk⟩
    | non =>
      cases (show a = _ from ha)
      cases (show b = _ from hb)
      walk_at "rdL5"
      exact ⟨rfl, by rw [decide_eq_true (rfl : V.non = V.non)]; exact kk⟩
    | t ds =>
      obtain ⟨p, as, rfl, hp, hra⟩ := ha
      obtain ⟨q, bs, rfl, hq, hrb⟩ := hb
      have hal := hra.len
      have hbl := hrb.len
      have hlen : (as.length : Int) = bs.length := by omega
      walk_at "rdL5"
      have h1 : Dt.deps ds + 1 ≤ k := hd
      have h2 : max ds.length (Dt.wids ds) ≤ 1000000 := hw
      exact ⟨ds, p, q, as, bs, rfl, .inr hp, .inr hq, hra, hrb, by omega, by omega, by omega, kk⟩
    | l ds =>
      obtain ⟨p, as, rfl, hp, hra⟩ := ha
      obtain ⟨q, bs, rfl, hq, hrb⟩ := hb
      have hal := hra.len
      have hbl := hrb.len
      have hlen : (as.length : Int) = bs.length := by omega
      walk_at "rdL5"
      have h1 : Dt.deps ds + 1 ≤ k := hd
      have h2 : max ds.length (Dt.wids ds) ≤ 1000000 := hw
      exact ⟨ds, p, q, as, bs, rfl, .inl hp, .inl hq, hra, hrb, by omega, by omega, by omega, kk⟩
theorem cal_both (T : Gs mg) (F : DefAt K mg "_law_equal" s__law_equal) (F2 : DefAt K mg "_law_all_equal" s__law_all_equal) : ∀ k, C8.Cal P w K mg base (2 * k + 1) "_law_all_equal" (spAllEq k) []
  | 0 => cal_all0 T F2
  | k + 1 => cal_allS T (cal_eqS T (cal_both T F F2 k) F) F2
theorem cal__law_equal (T : Gs mg) (F : DefAt K mg "_law_equal" s__law_equal) (F2 : DefAt K mg "_law_all_equal" s__law_all_equal) (k : Nat) : C8.Cal P w K mg base (2 * k + 2) "_law_equal" (spEq k) [] := cal_eqS T (cal_both T F F2 k) F
end
end Bf
local macro_rules | `(tactic| walk_at "pfL6") => `(tactic| first | decide +kernel | omega | assumption | rfl | (simp only [List.length_cons, List.length_nil]; omega))
local macro_rules | `(tactic| walk_at "rd1L6") => `(tactic| first
  | with_reducible refine Bf.r_seq ?_
  | with_reducible refine Bf.r_asg ?_
  | with_reducible refine Bf.r_var (by with_unfolding_all rfl) ?_
  | with_reducible refine Bf.r_c ?_
  | with_reducible refine Bf.r_name ?_
  | with_reducible refine Bf.r_ret ?_
  | with_reducible refine Bf.r_op ?_
  | with_reducible refine Bf.r_I0 ?_
  | ((with_reducible refine Bf.r_I ?c ?_); (case c => first | decide | (show (0 : Int) < _; omega) | (refine Or.inl ⟨?_, ?_⟩ <;> omega) | (refine Or.inr ⟨?_, ?_⟩ <;> omega) | (refine And.intro ?_ ?_ <;> omega)))
  | with_reducible refine Bf.r_ifS ?_
  | with_reducible refine Bf.r_test ?_
  | with_reducible refine Bf.r_isbl ?_
  | with_reducible refine Bf.r_eqI ?_
  | with_reducible refine Bf.r_neI ?_
  | with_reducible refine Bf.r_eqS ?_
  | with_reducible refine Bf.r_neS ?_
  | with_reducible refine Bf.r_cons ?_
  | with_reducible refine Bf.r_nil ?_
  | with_reducible refine Bf.r_CB ?_
  | with_reducible refine Bf.r_call ?_
  | with_reducible refine Bf.i_t ?_
  | with_reducible refine Bf.i_f ?_
  | with_reducible refine Bf.i_nt ?_
  | with_reducible refine Bf.i_nf ?_
  | with_reducible refine Bf.r_ixT (by assumption) (by with_unfolding_all rfl) ?_
  | with_reducible refine Bf.r_ixL (by assumption) (by with_unfolding_all rfl) ?_
  | with_reducible refine Bf.r_fld ?_
  | ((with_reducible refine Bf.r_fat (by assumption) ?c ?n (by with_unfolding_all rfl) ?_); (case c => assumption); (case n => assumption))
  | with_reducible refine Bf.r_par ?_
  | with_reducible refine Bf.r_two ?_
  | with_reducible refine Bf.r_aug (by with_unfolding_all rfl) ?_
  | with_reducible refine Bf.r_ip ?_
  | with_reducible refine Bf.r_app (by with_unfolding_all rfl) (by assumption) ?_
  | with_reducible refine Bf.r_next ?_
  | with_reducible refine Bf.r_cont ?_
  | with_reducible refine Bf.r_drop ?_
  | with_reducible refine Bf.r_and ?_
  | with_reducible refine Bf.r_or ?_
  | with_reducible refine Bf.r_not ?_
  | with_reducible refine Bf.r_andV ?_
  | with_reducible refine Bf.r_orV ?_
  | with_reducible refine Bf.r_notV ?_
  | with_reducible refine Bf.r_chain ?_
  | with_reducible refine Bf.r_B ?_
  | with_reducible refine Bf.r_ifE ?_
  | with_reducible refine Bf.r_un ?_
  | with_reducible refine Bf.r_U ?_
  | with_reducible refine Bf.r_tup ?_
  | with_reducible refine Bf.r_lst ?_
  | with_reducible refine Bf.r_lenT (by assumption) ?_
  | with_reducible refine Bf.r_lenL (by assumption) ?_
  | with_reducible refine Bf.r_int ?_
  | with_reducible refine Bf.r_max2 ?_
  | with_reducible refine Bf.r_min2 ?_
  | with_reducible refine Bf.isi_ Bf.ty_i Bf.kb_ii ?_
  | with_reducible refine Bf.isi_ Bf.ty_i Bf.kb_ib ?_
  | with_reducible refine Bf.isi_ Bf.ty_i Bf.kb_is ?_
  | with_reducible refine Bf.isi_ Bf.ty_i Bf.kb_it ?_
  | with_reducible refine Bf.isi_ Bf.ty_i Bf.kb_il ?_
  | with_reducible refine Bf.isi_ Bf.ty_s Bf.kb_si ?_
  | with_reducible refine Bf.isi_ Bf.ty_s Bf.kb_sb ?_
  | with_reducible refine Bf.isi_ Bf.ty_s Bf.kb_ss ?_
  | with_reducible refine Bf.isi_ Bf.ty_s Bf.kb_st ?_
  | with_reducible refine Bf.isi_ Bf.ty_s Bf.kb_sl ?_
  | with_reducible refine Bf.isi_ (Bf.ty_t (by assumption)) Bf.kb_tt ?_
  | with_reducible refine Bf.isi_ (Bf.ty_l (by assumption)) Bf.kb_ll ?_
  | with_reducible refine Bf.isi_ (Bf.ty_t (by assumption)) Bf.kb_tl ?_
  | with_reducible refine Bf.isi_ (Bf.ty_l (by assumption)) Bf.kb_lt ?_
  | with_reducible refine Bf.isi_ Bf.ty_b Bf.kb_bi ?_
  | with_reducible refine Bf.isi_ Bf.ty_b Bf.kb_bb ?_
  | with_reducible refine Bf.isi_ Bf.ty_b Bf.kb_bs ?_
  | with_reducible refine Bf.isi_ Bf.ty_b Bf.kb_bt ?_
  | with_reducible refine Bf.isi_ Bf.ty_b Bf.kb_bL ?_
  | with_reducible refine Bf.isi_ Bf.ty_n Bf.kb_ni ?_
  | with_reducible refine Bf.isi_ Bf.ty_n Bf.kb_nb ?_
  | with_reducible refine Bf.isi_ Bf.ty_n Bf.kb_ns ?_
  | with_reducible refine Bf.isi_ Bf.ty_n Bf.kb_nt ?_
  | with_reducible refine Bf.isi_ Bf.ty_n Bf.kb_nl ?_
  | with_reducible refine Bf.isi_ (Bf.ty_t (by assumption)) Bf.kb_ti ?_
  | with_reducible refine Bf.isi_ (Bf.ty_l (by assumption)) Bf.kb_li ?_
  | with_reducible refine Bf.isi_ (Bf.ty_t (by assumption)) Bf.kb_tb ?_
  | with_reducible refine Bf.isi_ (Bf.ty_l (by assumption)) Bf.kb_lb ?_
  | with_reducible refine Bf.isi_ (Bf.ty_t (by assumption)) Bf.kb_ts ?_
  | with_reducible refine Bf.isi_ (Bf.ty_l (by assumption)) Bf.kb_ls ?_
  | with_reducible refine Bf.r_gtup (by assumption) (by with_unfolding_all rfl) ?_
  | with_reducible refine Bf.r_gcons ?_
  | with_reducible refine Bf.r_gnil ?_
  | with_reducible refine Bf.r_gsub ?_
  | ((with_reducible refine Bf.n_num ?h ?_); (case h => first | assumption | (refine And.intro ?_ ?_ <;> omega)))
  | with_reducible refine Bf.n_isint ?_
  | with_reducible refine Bf.n_mixed ?_
  | with_reducible refine Bf.r_dget ?_
  | with_reducible refine Bf.n_dgetS (by assumption) (by with_unfolding_all rfl) ?_
  | with_reducible refine Bf.r_pcons ?_
  | with_reducible refine Bf.r_pnil ?_
  | with_reducible refine Bf.r_sl ?_
  | with_reducible refine Bf.r_nopart ?_
  | with_reducible refine Bf.r_part ?_
  | with_reducible refine Bf.r_isint ?_
  | with_reducible refine Bf.r_revL ?_
  | with_reducible refine Bf.r_sfld ?_
  | with_reducible refine Bf.r_meth ?_
  | with_reducible refine Bf.n_meth (by assumption) (by with_unfolding_all rfl) ?_
  | with_reducible refine Bf.r_make ?_
  | with_reducible refine Bf.r_turn ?_
  | with_reducible refine Bf.r_wipe (by with_unfolding_all rfl) ?_
  | with_reducible refine Bf.r_yes ?_
  | with_reducible refine Bf.r_lcL ?_
  | with_reducible refine Bf.r_lcT ?_
  | with_reducible refine Bf.r_lcR ?_
  | with_reducible refine Bf.r_forL ?_
  | with_reducible refine Bf.r_forZ ?_
  | with_reducible refine Bf.r_forT ?_
  | with_reducible refine Bf.r_forR ?_
  | with_reducible refine Bf.r_forR2 ?_
  | ((with_reducible refine Bf.i_d1 ?h ?_); (case h => walk_at "pfL6"))
  | ((with_reducible refine Bf.i_d0 ?h ?_); (case h => walk_at "pfL6"))
  | ((with_reducible refine Bf.i_n1 ?h ?_); (case h => walk_at "pfL6"))
  | ((with_reducible refine Bf.i_n0 ?h ?_); (case h => walk_at "pfL6")))
local macro_rules | `(tactic| walk_at "rdL6") => `(tactic| repeat walk_at "rd1L6")
namespace Bf
open PySem L2
abbrev s__law_is_back : Stmt := topS 47
theorem bi__law_is_back : ∀ (kV doc pm : Value) (an : Option Addr) (cdv ct : Value) (us : List Value), us.length = 2 → bindArgs (PySem.W.fnOf "_law_is_back" "_law_is_back" (defArgs s__law_is_back) (defBody s__law_is_back) (defScope s__law_is_back) .none kV doc pm an cdv ct) ⟨us, []⟩ = pure ((["_law_model", "_law_steps"] : List Str).zip us) := fun _ _ _ _ _ _ us hl => match us, hl with | [_, _], _ => rfl
theorem sc__law_is_back : FnScope ["_law_model", "_law_steps", "_law_modulus_here", "_law_k", "_law_step_here", "_law_due", "_law_number_here"] ["_law_model", "_law_steps"] (defScope s__law_is_back) := C8.fnScope_by (by decide +kernel)
def spIsBack : Sp := fun vs H Q _ => ∃ (p q : Addr) (m c n : Int) (ss : List Step) (ws : List V), vs = [.ref p, .ref q] ∧ Mdl H p m c n ss ∧ H q = some (.lst ws) ∧ RpL H ((Bf.inverse m ss).map Step.d) ws ∧ Vp m c n ss ∧ ss.length ≤ 100 ∧ ∀ H', Same H H' → Q (.bl true) H'
theorem inverse_at {m : Int} {ss : List Step} {i : Nat} (h : i < ss.length) : (Bf.inverse m ss)[i]? = (ss[ss.length - 1 - i]?).map (Step.inv m) := by
  unfold Bf.inverse
  rw [List.getElem?_reverse (by rw [List.length_map]; exact h), List.getElem?_map, List.length_map]
section
variable {P : Program} {w : World} {K : PySem.W.Frag} {mg : Str → Option Value} {base : Heap}
theorem cal__law_is_back (T : Gs mg) (c__law_equal : C8.Cal P w K mg base 10 "_law_equal" (spEq 4) []) (F : DefAt K mg "_law_is_back" s__law_is_back) : C8.Cal P w K mg base 11 "_law_is_back" spIsBack [] := by
  refine cal_of F sc__law_is_back bi__law_is_back (fun vs H Q E h => ?_) (fun f cdv A outer s H vs Q E hr h => ?_)
  · obtain ⟨p, q, m, c, n, ss, ws, rfl, _⟩ := h
    rfl
  · have hu : (A.deeper (PyProof.Rows.envOfC "_law_is_back" (defScope s__law_is_back) s.heap.objs.size f cdv)).units + 1 < cLine := by have := hr.units; omega
    refine ⟨_, (pss_cons (ps_set (i := 2) sc__law_is_back.nd rfl (by first | exact Or.inl rfl | exact Or.inr rfl) (pe_dget hu (pv 0) pe_str (fun _ _ => rfl)))
      (pss_cons (ps_if (PW.pt (pw_or (pt_not (pt_val (pe_callB call_isi (by rfl) T.n_isinstance (by decide +kernel) (pa_cons (pv 1) (pa_cons (pe_bltn (v := .ty "list") rfl T.n_list (by decide +kernel) rfl) pa_nil))))) (pw_or1 (pt_cmpR op_ne (pe_callB b_len (by rfl) T.n_len PySem.boot_len (pa_cons (pv 1) pa_nil)) (pe_callB b_len (by rfl) T.n_len PySem.boot_len (pa_cons (pe_dget hu (pv 0) pe_str (fun _ _ => rfl)) pa_nil)) (nomark _))))) (pss_one (ps_ret pe_bl)) pss_nil)
      (pss_cons (ps_for PassesOwn.never rfl (pi_range1 rfl T.n_range (pa_cons (pe_callB b_len (by rfl) T.n_len PySem.boot_len (pa_cons (pv 1) pa_nil)) pa_nil)) (pg_name (i := 3) sc__law_is_back.nd rfl (by first | exact Or.inl rfl | exact Or.inr rfl)) (pss_cons (ps_set (i := 4) sc__law_is_back.nd rfl (by first | exact Or.inl rfl | exact Or.inr rfl) (pe_ix ix_seq (pe_dget hu (pv 0) pe_str (fun _ _ => rfl)) (pe_op op_sub (pe_op op_sub (pe_callB b_len (by rfl) T.n_len PySem.boot_len (pa_cons (pv 1) pa_nil)) pe_int) (pv 3)) (fun _ _ => rfl)))
      (pss_cons (ps_if (pt_cmpR op_eq (pe_ix ix_seq (pv 4) pe_int (fun _ _ => rfl)) pe_str (nomark _)) (pss_one (ps_set (i := 5) sc__law_is_back.nd rfl (by first | exact Or.inl rfl | exact Or.inr rfl) (pe_tup (pa_cons pe_str (pa_cons (pe_ix ix_seq (pv 4) pe_int (fun _ _ => rfl)) (pa_cons (pe_op op_mod (pe_callTy b_int (by rfl) T.n_int (by decide +kernel) (pa_cons (pe_op op_sub (pv 2) (pe_ix ix_seq (pv 4) pe_int (fun _ _ => rfl))) pa_nil)) (pv 2)) (pa_cons (pe_ix ix_seq (pv 4) pe_int (fun _ _ => rfl)) pa_nil))))))) (pss_one (ps_if (pt_cmpR op_eq (pe_ix ix_seq (pv 4) pe_int (fun _ _ => rfl)) pe_str (nomark _)) (pss_one (ps_set (i := 5) sc__law_is_back.nd rfl (by first | exact Or.inl rfl | exact Or.inr rfl) (pv 4))) (pss_one (ps_if (pt_cmpR op_eq (pe_ix ix_seq (pv 4) pe_int (fun _ _ => rfl)) pe_str (nomark _)) (pss_one (ps_set (i := 5) sc__law_is_back.nd rfl (by first | exact Or.inl rfl | exact Or.inr rfl) (pe_tup (pa_cons pe_str (pa_cons (pe_ix ix_seq (pv 4) pe_int (fun _ _ => rfl)) (pa_cons (pe_op op_sub (pv 2) (pe_ix ix_seq (pv 4) pe_int (fun _ _ => rfl))) (pa_cons (pe_ix ix_seq (pv 4) pe_int (fun _ _ => rfl)) (pa_cons (pe_ix ix_seq (pv 4) pe_int (fun _ _ => rfl)) (pa_cons (pe_ix ix_seq (pv 4) pe_int (fun _ _ => rfl)) pa_nil))))))))) (pss_cons (ps_set (i := 6) sc__law_is_back.nd rfl (by first | exact Or.inl rfl | exact Or.inr rfl) pe_int)
      (pss_cons (ps_if (PW.pt (pw_and (pt_val (pe_callB call_isi (by rfl) T.n_isinstance (by decide +kernel) (pa_cons (pe_ix ix_seq (pv 1) (pv 3) (fun _ _ => rfl)) (pa_cons (pe_bltn (v := .ty "tuple") rfl T.n_tuple (by decide +kernel) rfl) pa_nil)))) (pw_and1 (pt_cmpR op_eq (pe_callB b_len (by rfl) T.n_len PySem.boot_len (pa_cons (pe_ix ix_seq (pv 1) (pv 3) (fun _ _ => rfl)) pa_nil)) pe_int (nomark _))))) (pss_one (ps_set (i := 6) sc__law_is_back.nd rfl (by first | exact Or.inl rfl | exact Or.inr rfl) (pe_ix ix_seq (pe_ix ix_seq (pv 1) (pv 3) (fun _ _ => rfl)) pe_int (fun _ _ => rfl)))) pss_nil)
      (pss_cons (ps_if (PW.pt (pw_or (pt_not (pt_val (pe_callB call_isi (by rfl) T.n_isinstance (by decide +kernel) (pa_cons (pv 6) (pa_cons (pe_bltn (v := .ty "int") rfl T.n_int (by decide +kernel) rfl) pa_nil))))) (pw_or (pt_cmpR op_ne (pe_op op_mod (pe_callTy b_int (by rfl) T.n_int (by decide +kernel) (pa_cons (pe_op op_mul (pv 6) (pe_ix ix_seq (pv 4) pe_int (fun _ _ => rfl))) pa_nil)) (pv 2)) pe_int (nomark _)) (pw_or1 (pt_not (pt_chain op_le op_lt pe_int (pv 6) (pv 2))))))) (pss_one (ps_ret pe_bl)) pss_nil)
      (pss_one (ps_set (i := 5) sc__law_is_back.nd rfl (by first | exact Or.inl rfl | exact Or.inr rfl) (pe_tup (pa_cons pe_str (pa_cons (pe_ix ix_seq (pv 4) pe_int (fun _ _ => rfl)) (pa_cons (pv 6) pa_nil))))))))))))))
      (pss_one (ps_if (pt_not (pt_val (C8.pe_c c__law_equal hr (by first | decide | omega) rfl (pa_cons (pe_ix ix_seq (pv 1) (pv 3) (fun _ _ => rfl)) (pa_cons (pv 5) pa_nil))))) (pss_one (ps_ret pe_bl)) pss_nil)))))
      (pss_one (ps_ret pe_bl))))), ?_⟩
    obtain ⟨p, q, m, c, n, ss, ws, rfl, ⟨qm, wm, hp, hqm, hlm⟩, hq, hl, vp, hlen, k⟩ := h
    have e1 := hl.len
    rw [List.length_map, inverse_len] at e1
    have e2 := hlm.len
    rw [List.length_map] at e2
    have e3 : (ws.length : Int) = wm.length := by omega
    have m2 := vp.m2
    walk_at "rdL6"
    refine n_forR (fun i σ H' => ∃ u4 u5 u6 u7 : Option V, σ = [some (.ref p), some (.ref q), some (.int m), u4, u5, u6, u7] ∧ Same H H') (by omega) ⟨_, _, _, _, rfl, Same.refl H⟩ ?_ ?_
    · rintro i σ H' hi ⟨u4, u5, u6, u7, rfl, s1⟩
      have hi' : i < ss.length := by omega
      have hj : ss.length - 1 - i < ss.length := by omega
      obtain ⟨st, hst⟩ : ∃ st, ss[ss.length - 1 - i]? = some st := ⟨_, List.getElem?_eq_getElem hj⟩
      have hinv : (Bf.inverse m ss)[i]? = some (st.inv m) := by rw [inverse_at hi', hst]; rfl
      have hok := vp.ok st (List.mem_of_getElem? hst)
      obtain ⟨v, hv, rv⟩ := hlm.get (i := ss.length - 1 - i) (d := st.d) (by rw [List.getElem?_map, hst]; rfl)
      obtain ⟨v2, hv2, rv2⟩ := hl.get (i := i) (d := (st.inv m).d) (by rw [List.getElem?_map, hinv]; rfl)
      replace hp := s1 _ _ hp
      replace hqm := s1 _ _ hqm
      replace hq := s1 _ _ hq
      replace rv := rv.same s1
      replace rv2 := rv2.same s1
      have eix : (ws.length : Int) - 1 - i = ((ss.length - 1 - i : Nat) : Int) := by omega
      walk_at "rdL6"
      rw [eix]
      refine r_ixL hqm (atI_nat hv) ?_
      have hdp : (st.inv m).d.dep ≤ 4 := by have := step_dep (st.inv m); omega
      have hwd := step_wid (Step.inv_ok m2 hok)
      cases st with
      | add t co fs =>
        obtain ⟨a, _, rfl, ha, w1, _, rfl, rfl, w2, _, rfl, rfl, w3, _, rfl, rfl, w4, _, rfl, hF, rfl⟩ := rv
        obtain ⟨⟨t0, t1⟩, ⟨k0, k1⟩, hf3, hf⟩ := hok
        walk_at "rdL6"
        refine n_tup (Nat.le_of_ble_eq_true rfl) fun r H2 nr s2 hr2 => ?_
        replace hq := s2 _ _ hq
        walk_at "rdL6"
        refine r_ixL hq (atI_nat hv2) ?_
        walk_at "rdL6"
        refine n_eq (rv2.same s2) ⟨r, _, rfl, hr2, _, _, rfl, rfl, _, _, rfl, rfl, _, _, rfl, by rw [neg_emod' k0 k1]; rfl, _, _, rfl, hF.same s2, rfl⟩ hdp hwd ?_
        walk_at "rdL6"
        exact ⟨_, _, _, _, rfl, s1.trans s2⟩
      | scale t co =>
        obtain ⟨a, _, rfl, ha, w1, _, rfl, rfl, w2, _, rfl, rfl, w3, _, rfl, rfl, rfl⟩ := rv
        have rv20 := rv2
        obtain ⟨a2, _, rfl, ha2, w1, _, rfl, rfl, w2, _, rfl, rfl, w3, _, rfl, rfl, rfl⟩ := rv2
        obtain ⟨⟨t0, t1⟩, ⟨k0, k1⟩, hg⟩ := hok
        have hiv := invOf_unit m2 hg
        obtain ⟨iv0, iv1, iv2⟩ := hiv
        have m9 := vp.m9
        walk_at "rdL6"
        refine r_ixL hq (atI_nat hv2) ?_
        walk_at "rdL6"
        refine r_ixL hq (atI_nat hv2) ?_
        walk_at "rdL6"
        refine r_ixL hq (atI_nat hv2) ?_
        walk_at "rdL6"
        refine n_tup (Nat.le_of_ble_eq_true rfl) fun r H2 nr s2 hr2 => ?_
        replace hq := s2 _ _ hq
        walk_at "rdL6"
        refine r_ixL hq (atI_nat hv2) ?_
        walk_at "rdL6"
        refine n_eq (rv20.same s2) ⟨r, _, rfl, hr2, _, _, rfl, rfl, _, _, rfl, rfl, _, _, rfl, rfl, rfl⟩ hdp hwd ?_
        walk_at "rdL6"
        exact ⟨_, _, _, _, rfl, s1.trans s2⟩
      | swap a b =>
        have rv0 := rv
        obtain ⟨a, _, rfl, ha, w1, _, rfl, rfl, w2, _, rfl, rfl, w3, _, rfl, rfl, rfl⟩ := rv
        walk_at "rdL6"
        refine r_ixL hq (atI_nat hv2) ?_
        walk_at "rdL6"
        refine n_eq rv2 rv0 hdp hwd ?_
        walk_at "rdL6"
        exact ⟨_, _, _, _, rfl, s1⟩
      | table t sg tb a b =>
        obtain ⟨a, _, rfl, ha, w1, _, rfl, rfl, w2, _, rfl, rfl, w3, _, rfl, rfl, w4, _, rfl, hT, w5, _, rfl, rfl, w6, _, rfl, rfl, rfl⟩ := rv
        walk_at "rdL6"
        refine n_tup (Nat.le_of_ble_eq_true rfl) fun r H2 nr s2 hr2 => ?_
        replace hq := s2 _ _ hq
        walk_at "rdL6"
        refine r_ixL hq (atI_nat hv2) ?_
        walk_at "rdL6"
        refine n_eq (rv2.same s2) ⟨r, _, rfl, hr2, _, _, rfl, rfl, _, _, rfl, rfl, _, _, rfl, rfl, _, _, rfl, hT.same s2, _, _, rfl, rfl, _, _, rfl, rfl, rfl⟩ hdp hwd ?_
        walk_at "rdL6"
        exact ⟨_, _, _, _, rfl, s1.trans s2⟩
    · rintro σ H' ⟨u4, u5, u6, u7, rfl, s1⟩
      walk_at "rdL6"
      exact k H' s1
end
end Bf
local macro_rules | `(tactic| walk_at "pfL7") => `(tactic| first | decide +kernel | omega | assumption | rfl | (simp only [List.length_cons, List.length_nil]; omega))
local macro_rules | `(tactic| walk_at "rd1L7") => `(tactic| first
  | with_reducible refine Bf.r_seq ?_
  | with_reducible refine Bf.r_asg ?_
  | with_reducible refine Bf.r_var (by with_unfolding_all rfl) ?_
  | with_reducible refine Bf.r_c ?_
  | with_reducible refine Bf.r_name ?_
  | with_reducible refine Bf.r_ret ?_
  | with_reducible refine Bf.r_op ?_
  | with_reducible refine Bf.r_I0 ?_
  | ((with_reducible refine Bf.r_I ?c ?_); (case c => first | decide | (show (0 : Int) < _; omega) | (refine Or.inl ⟨?_, ?_⟩ <;> omega) | (refine Or.inr ⟨?_, ?_⟩ <;> omega) | (refine And.intro ?_ ?_ <;> omega)))
  | with_reducible refine Bf.r_ifS ?_
  | with_reducible refine Bf.r_test ?_
  | with_reducible refine Bf.r_isbl ?_
  | with_reducible refine Bf.r_eqI ?_
  | with_reducible refine Bf.r_neI ?_
  | with_reducible refine Bf.r_eqS ?_
  | with_reducible refine Bf.r_neS ?_
  | with_reducible refine Bf.r_cons ?_
  | with_reducible refine Bf.r_nil ?_
  | with_reducible refine Bf.r_CB ?_
  | with_reducible refine Bf.r_call ?_
  | with_reducible refine Bf.i_t ?_
  | with_reducible refine Bf.i_f ?_
  | with_reducible refine Bf.i_nt ?_
  | with_reducible refine Bf.i_nf ?_
  | with_reducible refine Bf.r_ixT (by assumption) (by with_unfolding_all rfl) ?_
  | with_reducible refine Bf.r_ixL (by assumption) (by with_unfolding_all rfl) ?_
  | with_reducible refine Bf.r_fld ?_
  | ((with_reducible refine Bf.r_fat (by assumption) ?c ?n (by with_unfolding_all rfl) ?_); (case c => assumption); (case n => assumption))
  | with_reducible refine Bf.r_par ?_
  | with_reducible refine Bf.r_two ?_
  | with_reducible refine Bf.r_aug (by with_unfolding_all rfl) ?_
  | with_reducible refine Bf.r_ip ?_
  | with_reducible refine Bf.r_app (by with_unfolding_all rfl) (by assumption) ?_
  | with_reducible refine Bf.r_next ?_
  | with_reducible refine Bf.r_cont ?_
  | with_reducible refine Bf.r_drop ?_
  | with_reducible refine Bf.r_and ?_
  | with_reducible refine Bf.r_or ?_
  | with_reducible refine Bf.r_not ?_
  | with_reducible refine Bf.r_andV ?_
  | with_reducible refine Bf.r_orV ?_
  | with_reducible refine Bf.r_notV ?_
  | with_reducible refine Bf.r_chain ?_
  | with_reducible refine Bf.r_B ?_
  | with_reducible refine Bf.r_ifE ?_
  | with_reducible refine Bf.r_un ?_
  | with_reducible refine Bf.r_U ?_
  | with_reducible refine Bf.r_tup ?_
  | with_reducible refine Bf.r_lst ?_
  | with_reducible refine Bf.r_lenT (by assumption) ?_
  | with_reducible refine Bf.r_lenL (by assumption) ?_
  | with_reducible refine Bf.r_int ?_
  | with_reducible refine Bf.r_max2 ?_
  | with_reducible refine Bf.r_min2 ?_
  | with_reducible refine Bf.isi_ Bf.ty_i Bf.kb_ii ?_
  | with_reducible refine Bf.isi_ Bf.ty_i Bf.kb_ib ?_
  | with_reducible refine Bf.isi_ Bf.ty_i Bf.kb_is ?_
  | with_reducible refine Bf.isi_ Bf.ty_i Bf.kb_it ?_
  | with_reducible refine Bf.isi_ Bf.ty_i Bf.kb_il ?_
  | with_reducible refine Bf.isi_ Bf.ty_s Bf.kb_si ?_
  | with_reducible refine Bf.isi_ Bf.ty_s Bf.kb_sb ?_
  | with_reducible refine Bf.isi_ Bf.ty_s Bf.kb_ss ?_
  | with_reducible refine Bf.isi_ Bf.ty_s Bf.kb_st ?_
  | with_reducible refine Bf.isi_ Bf.ty_s Bf.kb_sl ?_
  | with_reducible refine Bf.isi_ (Bf.ty_t (by assumption)) Bf.kb_tt ?_
  | with_reducible refine Bf.isi_ (Bf.ty_l (by assumption)) Bf.kb_ll ?_
  | with_reducible refine Bf.isi_ (Bf.ty_t (by assumption)) Bf.kb_tl ?_
  | with_reducible refine Bf.isi_ (Bf.ty_l (by assumption)) Bf.kb_lt ?_
  | with_reducible refine Bf.isi_ Bf.ty_b Bf.kb_bi ?_
  | with_reducible refine Bf.isi_ Bf.ty_b Bf.kb_bb ?_
  | with_reducible refine Bf.isi_ Bf.ty_b Bf.kb_bs ?_
  | with_reducible refine Bf.isi_ Bf.ty_b Bf.kb_bt ?_
  | with_reducible refine Bf.isi_ Bf.ty_b Bf.kb_bL ?_
  | with_reducible refine Bf.isi_ Bf.ty_n Bf.kb_ni ?_
  | with_reducible refine Bf.isi_ Bf.ty_n Bf.kb_nb ?_
  | with_reducible refine Bf.isi_ Bf.ty_n Bf.kb_ns ?_
  | with_reducible refine Bf.isi_ Bf.ty_n Bf.kb_nt ?_
  | with_reducible refine Bf.isi_ Bf.ty_n Bf.kb_nl ?_
  | with_reducible refine Bf.isi_ (Bf.ty_t (by assumption)) Bf.kb_ti ?_
  | with_reducible refine Bf.isi_ (Bf.ty_l (by assumption)) Bf.kb_li ?_
  | with_reducible refine Bf.isi_ (Bf.ty_t (by assumption)) Bf.kb_tb ?_
  | with_reducible refine Bf.isi_ (Bf.ty_l (by assumption)) Bf.kb_lb ?_
  | with_reducible refine Bf.isi_ (Bf.ty_t (by assumption)) Bf.kb_ts ?_
  | with_reducible refine Bf.isi_ (Bf.ty_l (by assumption)) Bf.kb_ls ?_
  | with_reducible refine Bf.r_gtup (by assumption) (by with_unfolding_all rfl) ?_
  | with_reducible refine Bf.r_gcons ?_
  | with_reducible refine Bf.r_gnil ?_
  | with_reducible refine Bf.r_gsub ?_
  | ((with_reducible refine Bf.n_num ?h ?_); (case h => first | assumption | (refine And.intro ?_ ?_ <;> omega)))
  | with_reducible refine Bf.n_isint ?_
  | with_reducible refine Bf.n_mixed ?_
  | with_reducible refine Bf.r_dget ?_
  | with_reducible refine Bf.n_dgetS (by assumption) (by with_unfolding_all rfl) ?_
  | with_reducible refine Bf.r_pcons ?_
  | with_reducible refine Bf.r_pnil ?_
  | with_reducible refine Bf.r_sl ?_
  | with_reducible refine Bf.r_nopart ?_
  | with_reducible refine Bf.r_part ?_
  | with_reducible refine Bf.r_isint ?_
  | with_reducible refine Bf.r_revL ?_
  | with_reducible refine Bf.r_sfld ?_
  | with_reducible refine Bf.r_meth ?_
  | with_reducible refine Bf.n_meth (by assumption) (by with_unfolding_all rfl) ?_
  | with_reducible refine Bf.r_make ?_
  | with_reducible refine Bf.r_turn ?_
  | with_reducible refine Bf.r_wipe (by with_unfolding_all rfl) ?_
  | with_reducible refine Bf.r_yes ?_
  | with_reducible refine Bf.r_lcL ?_
  | with_reducible refine Bf.r_lcT ?_
  | with_reducible refine Bf.r_lcR ?_
  | with_reducible refine Bf.r_forL ?_
  | with_reducible refine Bf.r_forZ ?_
  | with_reducible refine Bf.r_forT ?_
  | with_reducible refine Bf.r_forR ?_
  | with_reducible refine Bf.r_forR2 ?_
  | ((with_reducible refine Bf.i_d1 ?h ?_); (case h => walk_at "pfL7"))
  | ((with_reducible refine Bf.i_d0 ?h ?_); (case h => walk_at "pfL7"))
  | ((with_reducible refine Bf.i_n1 ?h ?_); (case h => walk_at "pfL7"))
  | ((with_reducible refine Bf.i_n0 ?h ?_); (case h => walk_at "pfL7")))
local macro_rules | `(tactic| walk_at "rdL7") => `(tactic| repeat walk_at "rd1L7")
namespace Bf
open PySem L2
abbrev s_law : Stmt := topS 48
theorem bi_law : ∀ (kV doc pm : Value) (an : Option Addr) (cdv ct : Value) (us : List Value), us.length = 1 → bindArgs (PySem.W.fnOf "law" "law" (defArgs s_law) (defBody s_law) (defScope s_law) .none kV doc pm an cdv ct) ⟨us, []⟩ = pure ((["_law_script"] : List Str).zip us) := fun _ _ _ _ _ _ us hl => match us, hl with | [_], _ => rfl
theorem sc_law : FnScope ["_law_script", "_law_draws", "_law_turn", "_law_model", "_law_program_here", "_law_memory_here", "_law_given_here", "_law_back", "_law_after", "_law_before", "_law_many", "_law_middle"] ["_law_script"] (defScope s_law) := C8.fnScope_by (by decide +kernel)
def spLaw (K : PySem.W.Frag) : Sp := fun vs H Q _ => ∃ (xs : List Int) (p : Addr), vs = [.ref p] ∧ SqL K H p (xs.map V.int) ∧ xs.length ≤ 100 ∧ ∀ H', Q (.bl true) H'
section
variable {P : Program} {w : World} {K : PySem.W.Frag} {mg : Str → Option Value} {base : Heap} {C : Addr}
theorem ok_law {f : Addr} {fd : FuncData} (T : Gs mg) (G : PgC K C) (c__law_numbers : C8.Cal P w K mg base 2 "_law_numbers" (spNumbers K) []) (c__law_draw : C8.Cal P w K mg base 2 "_law_draw" spDraw []) (c__law_program : C8.Cal P w K mg base 7 "_law_program" spProgramD []) (c__law_made : C8.Cal P w K mg base 9 "_law_made" (spMade C) [])
    (c__law_memory : C8.Cal P w K mg base 5 "_law_memory" spMemory []) (c__law_given : C8.Cal P w K mg base 5 "_law_given" spGiven []) (c__law_is_back : C8.Cal P w K mg base 11 "_law_is_back" spIsBack []) (c__law_equal : C8.Cal P w K mg base 10 "_law_equal" (spEq 4) [])
    (m___neg__ : C8.Met P w K mg base 9 C "__neg__" (spNeg C) []) (m___len__ : C8.Met P w K mg base 1 C "__len__" (spLen C) []) (m_part : C8.Met P w K mg base 9 C "part" (spPart C) []) (m_called_back : C8.Met P w K mg base 10 C "called_back" (spBack C) []) (m_run : C8.Met P w K mg base 5 C "run" (spRun C) [])
    (F : FunD K "law" "law" (defArgs s_law) (defBody s_law) (defScope s_law) [] [] f fd) : FnOk P w K mg base CX0 12 f fd ["_law_script"] (spLaw K) := by
  refine fn_of F sc_law (fun vs H Q E h => ?_) (fun cdv A outer s H vs Q E hr h => ?_)
  · obtain ⟨xs, p, rfl, _⟩ := h
    rfl
  · have hu : (A.deeper (PyProof.Rows.envOfC "law" (defScope s_law) s.heap.objs.size f cdv)).units + 1 < cLine := by have := hr.units; omega
    refine ⟨_, (pss_cons (ps_set (i := 1) sc_law.nd rfl (by first | exact Or.inl rfl | exact Or.inr rfl) (pe_lst (pa_cons (C8.pe_c c__law_numbers hr (by first | decide | omega) rfl (pa_cons (pv 0) pa_nil)) (pa_cons pe_int pa_nil))))
      (pss_cons (ps_for PassesOwn.never rfl (pi_range1 rfl T.n_range (pa_cons pe_int pa_nil)) (pg_name (i := 2) sc_law.nd rfl (by first | exact Or.inl rfl | exact Or.inr rfl)) (pss_cons (ps_set (i := 3) sc_law.nd rfl (by first | exact Or.inl rfl | exact Or.inr rfl) (C8.pe_c c__law_program hr (by first | decide | omega) rfl (pa_cons (pv 1) (pa_cons pe_int pa_nil))))
      (pss_cons (ps_set (i := 4) sc_law.nd rfl (by first | exact Or.inl rfl | exact Or.inr rfl) (C8.pe_c c__law_made hr (by first | decide | omega) rfl (pa_cons (pv 3) pa_nil)))
      (pss_cons (ps_set (i := 5) sc_law.nd rfl (by first | exact Or.inl rfl | exact Or.inr rfl) (C8.pe_c c__law_memory hr (by first | decide | omega) rfl (pa_cons (pv 1) (pa_cons (pv 3) pa_nil))))
      (pss_cons (ps_set (i := 6) sc_law.nd rfl (by first | exact Or.inl rfl | exact Or.inr rfl) (C8.pe_c c__law_given hr (by first | decide | omega) rfl (pa_cons (pv 1) (pa_cons (pv 3) pa_nil))))
      (pss_cons (ps_set (i := 7) sc_law.nd rfl (by first | exact Or.inl rfl | exact Or.inr rfl) (pe_un (un_own m___neg__ hr (by first | decide | omega)) (pv 4)))
      (pss_cons (ps_if (PW.pt (pw_or (pt_not (pt_val (C8.pe_c c__law_is_back hr (by first | decide | omega) rfl (pa_cons (pv 3) (pa_cons (pe_fld (pv 7) rfl) pa_nil))))) (pw_or1 (pt_not (pt_val (C8.pe_c c__law_equal hr (by first | decide | omega) rfl (pa_cons (pe_fld (pe_un (un_own m___neg__ hr (by first | decide | omega)) (pv 7)) rfl) (pa_cons (pe_dget hu (pv 3) pe_str (fun _ _ => rfl)) pa_nil)))))))) (pss_one (ps_ret pe_bl)) pss_nil)
      (pss_cons (ps_if (pt_not (pt_val (C8.pe_c c__law_equal hr (by first | decide | omega) rfl (pa_cons (pe_callB (call_lenO m___len__ hr (by first | decide | omega)) (by rfl) T.n_len PySem.boot_len (pa_cons (pv 7) pa_nil)) (pa_cons (pe_callB b_len (by rfl) T.n_len PySem.boot_len (pa_cons (pe_dget hu (pv 3) pe_str (fun _ _ => rfl)) pa_nil)) pa_nil))))) (pss_one (ps_ret pe_bl)) pss_nil)
      (pss_cons (ps_set (i := 8) sc_law.nd rfl (by first | exact Or.inl rfl | exact Or.inr rfl) (C8.pe_mt m_run hr (by first | decide | omega) (pv 4) (pa_cons (pe_callTy b_list (by rfl) T.n_list (by decide +kernel) (pa_cons (pv 5) pa_nil)) (pa_cons (pe_callTy b_list (by rfl) T.n_list (by decide +kernel) (pa_cons (pv 6) pa_nil)) pa_nil))))
      (pss_cons (ps_if (pt_not (pt_val (C8.pe_c c__law_equal hr (by first | decide | omega) rfl (pa_cons (C8.pe_mt m_run hr (by first | decide | omega) (pv 7) (pa_cons (pe_callTy b_list (by rfl) T.n_list (by decide +kernel) (pa_cons (pv 8) pa_nil)) (pa_cons (pe_callTy b_list (by rfl) T.n_list (by decide +kernel) (pa_cons (pv 6) pa_nil)) pa_nil))) (pa_cons (pv 5) pa_nil))))) (pss_one (ps_ret pe_bl)) pss_nil)
      (pss_cons (ps_set (i := 9) sc_law.nd rfl (by first | exact Or.inl rfl | exact Or.inr rfl) (C8.pe_mt m_run hr (by first | decide | omega) (pv 7) (pa_cons (pe_callTy b_list (by rfl) T.n_list (by decide +kernel) (pa_cons (pv 5) pa_nil)) (pa_cons (pe_callTy b_list (by rfl) T.n_list (by decide +kernel) (pa_cons (pv 6) pa_nil)) pa_nil))))
      (pss_cons (ps_if (pt_not (pt_val (C8.pe_c c__law_equal hr (by first | decide | omega) rfl (pa_cons (C8.pe_mt m_run hr (by first | decide | omega) (pv 4) (pa_cons (pe_callTy b_list (by rfl) T.n_list (by decide +kernel) (pa_cons (pv 9) pa_nil)) (pa_cons (pe_callTy b_list (by rfl) T.n_list (by decide +kernel) (pa_cons (pv 6) pa_nil)) pa_nil))) (pa_cons (pv 5) pa_nil))))) (pss_one (ps_ret pe_bl)) pss_nil)
      (pss_cons (ps_if (pt_not (pt_val (C8.pe_c c__law_equal hr (by first | decide | omega) rfl (pa_cons (C8.pe_mt m_run hr (by first | decide | omega) (pe_un (un_own m___neg__ hr (by first | decide | omega)) (pv 7)) (pa_cons (pe_callTy b_list (by rfl) T.n_list (by decide +kernel) (pa_cons (pv 5) pa_nil)) (pa_cons (pe_callTy b_list (by rfl) T.n_list (by decide +kernel) (pa_cons (pv 6) pa_nil)) pa_nil))) (pa_cons (pv 8) pa_nil))))) (pss_one (ps_ret pe_bl)) pss_nil)
      (pss_cons (ps_set (i := 10) sc_law.nd rfl (by first | exact Or.inl rfl | exact Or.inr rfl) (pe_op op_mod (C8.pe_c c__law_draw hr (by first | decide | omega) rfl (pa_cons (pv 1) pa_nil)) (pe_op op_add (pe_callB b_len (by rfl) T.n_len PySem.boot_len (pa_cons (pe_dget hu (pv 3) pe_str (fun _ _ => rfl)) pa_nil)) pe_int)))
      (pss_cons (ps_set (i := 11) sc_law.nd rfl (by first | exact Or.inl rfl | exact Or.inr rfl) (C8.pe_mt m_run hr (by first | decide | omega) (C8.pe_mt m_part hr (by first | decide | omega) (pv 4) (pa_cons (pv 10) pa_nil)) (pa_cons (pe_callTy b_list (by rfl) T.n_list (by decide +kernel) (pa_cons (pv 5) pa_nil)) (pa_cons (pe_callTy b_list (by rfl) T.n_list (by decide +kernel) (pa_cons (pv 6) pa_nil)) pa_nil))))
      (pss_cons (ps_if (pt_not (pt_val (C8.pe_c c__law_equal hr (by first | decide | omega) rfl (pa_cons (C8.pe_mt m_run hr (by first | decide | omega) (C8.pe_mt m_called_back hr (by first | decide | omega) (pv 4) (pa_cons (pv 10) pa_nil)) (pa_cons (pe_callTy b_list (by rfl) T.n_list (by decide +kernel) (pa_cons (pv 11) pa_nil)) (pa_cons (pe_callTy b_list (by rfl) T.n_list (by decide +kernel) (pa_cons (pv 6) pa_nil)) pa_nil))) (pa_cons (pv 5) pa_nil))))) (pss_one (ps_ret pe_bl)) pss_nil)
      (pss_one (ps_if (pt_not (pt_val (C8.pe_c c__law_equal hr (by first | decide | omega) rfl (pa_cons (pe_fld (pv 4) rfl) (pa_cons (pe_dget hu (pv 3) pe_str (fun _ _ => rfl)) pa_nil))))) (pss_one (ps_ret pe_bl)) pss_nil))))))))))))))))))
      (pss_one (ps_ret pe_bl)))), ?_⟩
    obtain ⟨xs, p, rfl, hp, hlen, k⟩ := h
    walk_at "rdL7"
    refine ⟨xs, p, rfl, hp, hlen, fun l ns H1 nl s1 hl hns => ?_⟩
    walk_at "rdL7"
    refine n_lst (Nat.le_of_ble_eq_true rfl) fun d H2 nd s2 hd => ?_
    have dr : Drw ⟨d, l, ns⟩ H2 := ⟨⟨0, hd, by decide⟩, s2 _ _ hl, hns⟩
    generalize hDD : (⟨d, l, ns⟩ : DD) = D at dr
    have hDd : d = D.d := by rw [← hDD]
    walk_at "rdL7"
    refine n_forR (fun i σ H' => ∃ u2 u3 u4 u5 u6 u7 u8 u9 u10 u11 : Option V, σ = [some (.ref p), some (.ref D.d), u2, u3, u4, u5, u6, u7, u8, u9, u10, u11] ∧ Drw D H') (by decide)
      ⟨_, _, _, _, _, _, _, _, _, _, by rw [hDd]; rfl, dr⟩ ?_ ?_
    · rintro i σ H0 hi ⟨u2, u3, u4, u5, u6, u7, u8, u9, u10, u11, rfl, dr0⟩
      walk_at "rdL7"
      refine ⟨D, 40, rfl, dr0, by decide, by decide, fun q m c n ss H1 vp le mdl1 ds1 => ?_⟩
      have vi := vp.inverse
      have dr1 := ds1.dr
      walk_at "rdL7"
      refine ⟨q, m, c, n, ss, rfl, mdl1, vp, fun x H2 s2 pr2 => ?_⟩
      have dr2 := dr1.same s2
      walk_at "rdL7"
      refine ⟨D, q, m, c, n, ss, rfl, dr2, mdl1.same s2, vp, fun qm mem H3 nqm ds3 hqm hM => ?_⟩
      have dr3 := ds3.dr
      have mdl3 := (mdl1.same s2).ds dr2 ds3
      have pr3 := pr2.ds dr2 ds3
      walk_at "rdL7"
      refine ⟨D, q, m, c, n, ss, rfl, dr3, mdl3, vp, fun qg giv H4 nqg ds4 hqg hG => ?_⟩
      have dr4 := ds4.dr
      have mdl4 := mdl3.ds dr3 ds4
      have pr4 := pr3.ds dr3 ds4
      replace hqm := ints_ds dr3 ds4 hqm
      walk_at "rdL7"
      refine n_neg pr4 vp fun y H5 s5 prb5 => ?_
      walk_at "rdL7"
      refine n_steps G prb5 fun qb wb hqb hlb => ?_
      walk_at "rdL7"
      refine ⟨q, qb, m, c, n, ss, wb, rfl, mdl4.same s5, hqb, hlb, vp, by omega, fun H6 s56 => ?_⟩
      have s6 := s5.trans s56
      obtain ⟨qs, ws, hpm, hqs, hls⟩ := mdl4
      have hlw := hls.len
      rw [List.length_map] at hlw
      have hpm6 := s6 _ _ hpm
      walk_at "rdL7"
      refine n_neg (prb5.same s56) vi fun z H7 s7 prz7 => ?_
      have s57 := s56.trans s7
      replace s7 := s6.trans s7
      rw [inverse_inverse vp.m2 vp.ok] at prz7
      have hpm7 := s7 _ _ hpm
      walk_at "rdL7"
      refine n_steps G prz7 fun qz wz hqz hlz => ?_
      walk_at "rdL7"
      refine n_eqP vp hqz (s7 _ _ hqs) hlz (hls.same s7) ?_
      walk_at "rdL7"
      have hqs7 := s7 _ _ hqs
      refine n_lenP (prb5.same s57) (by rw [inverse_len]; omega) ?_
      walk_at "rdL7"
      refine n_eq (d := .i ss.length) (by rw [inverse_len]; rfl) (by rw [hlw]; rfl) (Nat.zero_le _) (Nat.zero_le _) ?_
      walk_at "rdL7"
      refine n_run (pr4.same s7) vp (by with_unfolding_all rfl) (by with_unfolding_all rfl) (s7 _ _ hqm) (s7 _ _ hqg) hM hG fun qa H8 s8 hqa hMa => ?_
      have s58 := s57.trans s8
      replace s8 := s7.trans s8
      walk_at "rdL7"
      refine n_run (prb5.same s58) vi (by with_unfolding_all rfl) (by with_unfolding_all rfl) hqa (s8 _ _ hqg) hMa hG fun qx H9 s9 hqx hMx => ?_
      have s89 := s9
      have s59 := s58.trans s9
      replace s9 := s8.trans s9
      rw [runs_undo vp.m2 hM vp.ok] at hqx
      walk_at "rdL7"
      refine n_eqI hqx (s9 _ _ hqm) (by have := hM.1; have := vp.c9; omega) ?_
      walk_at "rdL7"
      refine n_run (prb5.same s59) vi (by with_unfolding_all rfl) (by with_unfolding_all rfl) (s9 _ _ hqm) (s9 _ _ hqg) hM hG fun qe H10 s10 hqe hMe => ?_
      have s8a := s89.trans s10
      have s5a := s59.trans s10
      replace s10 := s9.trans s10
      walk_at "rdL7"
      refine n_run (pr4.same s10) vp (by with_unfolding_all rfl) (by with_unfolding_all rfl) hqe (s10 _ _ hqg) hMe hG fun qf H11 s11 hqf hMf => ?_
      have s8b := s8a.trans s11
      have s5b := s5a.trans s11
      replace s11 := s10.trans s11
      rw [runs_undo' vp.m2 hM vp.ok] at hqf
      walk_at "rdL7"
      refine n_eqI hqf (s11 _ _ hqm) (by have := hM.1; have := vp.c9; omega) ?_
      walk_at "rdL7"
      refine n_neg (prb5.same s5b) vi fun z2 H12 s12 prz12 => ?_
      rw [inverse_inverse vp.m2 vp.ok] at prz12
      have s8c := s8b.trans s12
      replace s12 := s11.trans s12
      walk_at "rdL7"
      refine n_run prz12 vp (by with_unfolding_all rfl) (by with_unfolding_all rfl) (s12 _ _ hqm) (s12 _ _ hqg) hM hG fun qh H13 s13 hqh hMh => ?_
      have s8d := s8c.trans s13
      replace s13 := s12.trans s13
      walk_at "rdL7"
      refine n_eqI hqh (s8d _ _ hqa) (by have := hMh.1; have := vp.c9; omega) ?_
      walk_at "rdL7"
      have dr13 := dr4.same s13
      have pr13 := pr4.same s13
      have hqm13 := s13 _ _ hqm
      have hqg13 := s13 _ _ hqg
      have hpm13 := s13 _ _ hpm
      have hqs13 := s13 _ _ hqs
      have mdl13 : Mdl H13 q m c n ss := ⟨qs, ws, hpm13, hqs13, hls.same s13⟩
      refine ⟨D, rfl, dr13, fun v14 H14 a14 b14 ds14 => ?_⟩
      have dr14 := ds14.dr
      have pr14 := pr13.ds dr13 ds14
      have hqm14 := ints_ds dr13 ds14 hqm13
      have hqg14 := ints_ds dr13 ds14 hqg13
      have mdl14 := mdl13.ds dr13 ds14
      obtain ⟨qs2, ws2, hpm14, hqs14, hls14⟩ := mdl14
      have hlw2 := hls14.len
      rw [List.length_map] at hlw2
      have p14 := mod_bd v14 (b := (ws2.length : Int) + 1) (by omega)
      walk_at "rdL7"
      refine n_part pr14 vp (by with_unfolding_all rfl) ⟨p14.1, by omega⟩ fun y2 H15 s15 pry15 => ?_
      walk_at "rdL7"
      refine n_run pry15 (vp.take _) (by with_unfolding_all rfl) (by with_unfolding_all rfl) (s15 _ _ hqm14) (s15 _ _ hqg14) hM hG fun qi H16 s16 hqi hMi => ?_
      replace s16 := s15.trans s16
      walk_at "rdL7"
      refine n_back (pr14.same s16) vp (by with_unfolding_all rfl) ⟨p14.1, by omega⟩ fun y3 H17 s17 pry17 => ?_
      have hqi17 := s17 _ _ hqi
      replace s17 := s16.trans s17
      walk_at "rdL7"
      refine n_run pry17 (vp.take _).inverse (by with_unfolding_all rfl) (by with_unfolding_all rfl) hqi17 (s17 _ _ hqg14) hMi hG fun qj H18 s18 hqj hMj => ?_
      replace s18 := s17.trans s18
      rw [runs_undo vp.m2 hM (vp.take _).ok] at hqj
      walk_at "rdL7"
      refine n_eqI hqj (s18 _ _ hqm14) (by have := hM.1; have := vp.c9; omega) ?_
      have hpm18 := s18 _ _ hpm14
      walk_at "rdL7"
      refine n_steps G (pr14.same s18) fun qk wk hqk hlk => ?_
      walk_at "rdL7"
      refine n_eqP vp hqk (s18 _ _ hqs14) hlk (hls14.same s18) ?_
      walk_at "rdL7"
      exact ⟨_, _, _, _, _, _, _, _, _, _, rfl, dr14.same s18⟩
    · rintro σ H0 ⟨u2, u3, u4, u5, u6, u7, u8, u9, u10, u11, rfl, dr0⟩
      walk_at "rdL7"
      exact k _
end
end Bf
namespace Bf
open PySem L2
abbrev s_Program___add__ : Stmt := inClass (topS 27) 2
def d0 : He.DefD := ⟨("is_integer", none), "is_integer", "is_integer", defArgs s_is_integer, defBody s_is_integer, defScope s_is_integer, [], []⟩
def d1 : He.DefD := ⟨("is_number", none), "is_number", "is_number", defArgs s_is_number, defBody s_is_number, defScope s_is_number, [], []⟩
def d2 : He.DefD := ⟨("is_prime", none), "is_prime", "is_prime", defArgs s_is_prime, defBody s_is_prime, defScope s_is_prime, [], []⟩
def d3 : He.DefD := ⟨("inverse_of", none), "inverse_of", "inverse_of", defArgs s_inverse_of, defBody s_inverse_of, defScope s_inverse_of, [], []⟩
def d4 : He.DefD := ⟨("weights", none), "weights", "weights", defArgs s_weights, defBody s_weights, defScope s_weights, [], []⟩
def d5 : He.DefD := ⟨("interpolate", none), "interpolate", "interpolate", defArgs s_interpolate, defBody s_interpolate, defScope s_interpolate, [], []⟩
def d6 : He.DefD := ⟨("is_factor", none), "is_factor", "is_factor", defArgs s_is_factor, defBody s_is_factor, defScope s_is_factor, [], []⟩
def d7 : He.DefD := ⟨("is_table", none), "is_table", "is_table", defArgs s_is_table, defBody s_is_table, defScope s_is_table, [], []⟩
def d8 : He.DefD := ⟨("is_add", none), "is_add", "is_add", defArgs s_is_add, defBody s_is_add, defScope s_is_add, [], []⟩
def d9 : He.DefD := ⟨("is_look", none), "is_look", "is_look", defArgs s_is_look, defBody s_is_look, defScope s_is_look, [], []⟩
def d10 : He.DefD := ⟨("is_step", none), "is_step", "is_step", defArgs s_is_step, defBody s_is_step, defScope s_is_step, [], []⟩
def d11 : He.DefD := ⟨("inverse_step", none), "inverse_step", "inverse_step", defArgs s_inverse_step, defBody s_inverse_step, defScope s_inverse_step, [], []⟩
def d12 : He.DefD := ⟨("perform", none), "perform", "perform", defArgs s_perform, defBody s_perform, defScope s_perform, [], []⟩
def d13 : He.DefD := ⟨("check_steps", none), "check_steps", "check_steps", defArgs s_check_steps, defBody s_check_steps, defScope s_check_steps, [], []⟩
def d14 : He.DefD := ⟨("check_numbers", none), "check_numbers", "check_numbers", defArgs s_check_numbers, defBody s_check_numbers, defScope s_check_numbers, [], []⟩
def d15 : He.DefD := ⟨("Program", some "__init__"), "__init__", "Program.__init__", defArgs s_Program___init__, defBody s_Program___init__, defScope s_Program___init__, [], []⟩
def d16 : He.DefD := ⟨("Program", some "__len__"), "__len__", "Program.__len__", defArgs s_Program___len__, defBody s_Program___len__, defScope s_Program___len__, [], []⟩
def d17 : He.DefD := ⟨("Program", some "__add__"), "__add__", "Program.__add__", defArgs s_Program___add__, defBody s_Program___add__, defScope s_Program___add__, [], []⟩
def d18 : He.DefD := ⟨("Program", some "__neg__"), "__neg__", "Program.__neg__", defArgs s_Program___neg__, defBody s_Program___neg__, defScope s_Program___neg__, [], []⟩
def d19 : He.DefD := ⟨("Program", some "run"), "run", "Program.run", defArgs s_Program_run, defBody s_Program_run, defScope s_Program_run, [], []⟩
def d20 : He.DefD := ⟨("Program", some "part"), "part", "Program.part", defArgs s_Program_part, defBody s_Program_part, defScope s_Program_part, [], []⟩
def d21 : He.DefD := ⟨("Program", some "called_back"), "called_back", "Program.called_back", defArgs s_Program_called_back, defBody s_Program_called_back, defScope s_Program_called_back, [], []⟩
def d22 : He.DefD := ⟨("_law_mixed", none), "_law_mixed", "_law_mixed", defArgs s__law_mixed, defBody s__law_mixed, defScope s__law_mixed, [], []⟩
def d23 : He.DefD := ⟨("_law_numbers", none), "_law_numbers", "_law_numbers", defArgs s__law_numbers, defBody s__law_numbers, defScope s__law_numbers, [], []⟩
def d24 : He.DefD := ⟨("_law_draw", none), "_law_draw", "_law_draw", defArgs s__law_draw, defBody s__law_draw, defScope s__law_draw, [], []⟩
def d25 : He.DefD := ⟨("_law_equal", none), "_law_equal", "_law_equal", defArgs s__law_equal, defBody s__law_equal, defScope s__law_equal, [], []⟩
def d26 : He.DefD := ⟨("_law_all_equal", none), "_law_all_equal", "_law_all_equal", defArgs s__law_all_equal, defBody s__law_all_equal, defScope s__law_all_equal, [], []⟩
def d27 : He.DefD := ⟨("_law_large", none), "_law_large", "_law_large", defArgs s__law_large, defBody s__law_large, defScope s__law_large, [], []⟩
def d28 : He.DefD := ⟨("_law_modulus", none), "_law_modulus", "_law_modulus", defArgs s__law_modulus, defBody s__law_modulus, defScope s__law_modulus, [], []⟩
def d29 : He.DefD := ⟨("_law_number", none), "_law_number", "_law_number", defArgs s__law_number, defBody s__law_number, defScope s__law_number, [], []⟩
def d30 : He.DefD := ⟨("_law_gcd", none), "_law_gcd", "_law_gcd", defArgs s__law_gcd, defBody s__law_gcd, defScope s__law_gcd, [], []⟩
def d31 : He.DefD := ⟨("_law_unit", none), "_law_unit", "_law_unit", defArgs s__law_unit, defBody s__law_unit, defScope s__law_unit, [], []⟩
def d32 : He.DefD := ⟨("_law_prime", none), "_law_prime", "_law_prime", defArgs s__law_prime, defBody s__law_prime, defScope s__law_prime, [], []⟩
def d33 : He.DefD := ⟨("_law_table", none), "_law_table", "_law_table", defArgs s__law_table, defBody s__law_table, defScope s__law_table, [], []⟩
def d34 : He.DefD := ⟨("_law_factor", none), "_law_factor", "_law_factor", defArgs s__law_factor, defBody s__law_factor, defScope s__law_factor, [], []⟩
def d35 : He.DefD := ⟨("_law_step", none), "_law_step", "_law_step", defArgs s__law_step, defBody s__law_step, defScope s__law_step, [], []⟩
def d36 : He.DefD := ⟨("_law_program", none), "_law_program", "_law_program", defArgs s__law_program, defBody s__law_program, defScope s__law_program, [], []⟩
def d37 : He.DefD := ⟨("_law_made", none), "_law_made", "_law_made", defArgs s__law_made, defBody s__law_made, defScope s__law_made, [], []⟩
def d38 : He.DefD := ⟨("_law_memory", none), "_law_memory", "_law_memory", defArgs s__law_memory, defBody s__law_memory, defScope s__law_memory, [], []⟩
def d39 : He.DefD := ⟨("_law_given", none), "_law_given", "_law_given", defArgs s__law_given, defBody s__law_given, defScope s__law_given, [], []⟩
def d40 : He.DefD := ⟨("_law_is_back", none), "_law_is_back", "_law_is_back", defArgs s__law_is_back, defBody s__law_is_back, defScope s__law_is_back, [], []⟩
def d41 : He.DefD := ⟨("law", none), "law", "law", defArgs s_law, defBody s_law, defScope s_law, [], []⟩
def fn0 : List He.DefD := [d0, d1, d2, d3, d4, d5, d6, d7, d8, d9, d10, d11, d12, d13, d14, d15, d16, d17, d18, d19, d20, d21, d22, d23, d24, d25, d26, d27, d28, d29, d30, d31, d32, d33, d34, d35, d36, d37, d38, d39, d40, d41]
def fn : List He.DefD := fn0
def fa0 : List He.Fa := [.glo "BrimfulError", .glo "BadStep", .glo "BadMemory", .glo "is_integer", .glo "is_number", .glo "is_prime", .glo "inverse_of", .glo "weights", .glo "interpolate", .int "FACTORS" 3, .glo "is_factor", .glo "is_table", .glo "is_add", .glo "is_look", .glo "is_step", .glo "inverse_step", .glo "perform", .glo "check_steps", .int "MODULUS" 1000000000, .int "CELLS" 60, .int "INPUTS" 60, .int "STEPS" 20000, .glo "check_numbers", .glo "Program", .cls "Program", .mkr "Program", .meth "Program" "__init__", .meth "Program" "__len__", .meth "Program" "__add__", .meth "Program" "__neg__"]
def fa1 : List He.Fa := [.meth "Program" "run", .meth "Program" "part", .meth "Program" "called_back", .noat "Program" "modulus", .noat "Program" "cells", .noat "Program" "inputs", .noat "Program" "steps", .glo "_law_mixed", .glo "_law_numbers", .glo "_law_draw", .glo "_law_equal", .glo "_law_all_equal", .glo "_law_large", .glo "_law_modulus", .glo "_law_number", .glo "_law_gcd", .glo "_law_unit", .glo "_law_prime", .glo "_law_table", .glo "_law_factor", .glo "_law_step", .glo "_law_program", .glo "_law_made", .glo "_law_memory", .glo "_law_given", .glo "_law_is_back", .glo "law", .free "bool", .free "int", .free "isinstance"]
def fa2 : List He.Fa := [.free "len", .free "list", .free "max", .free "min", .free "range", .free "str", .free "tuple", .free "zip"]
def fa : List He.Fa := fa0 ++ fa1 ++ fa2
def loose0 : List PySem.Str := ["BrimfulError", "BadStep", "BadMemory", "is_integer", "is_number", "is_prime", "inverse_of", "weights", "interpolate", "FACTORS", "is_factor", "is_table", "is_add", "is_look", "is_step", "inverse_step", "perform", "check_steps", "MODULUS", "CELLS", "INPUTS", "STEPS", "check_numbers", "Program", "_law_mixed", "_law_numbers", "_law_draw", "_law_equal", "_law_all_equal", "_law_large"]
def loose1 : List PySem.Str := ["_law_modulus", "_law_number", "_law_gcd", "_law_unit", "_law_prime", "_law_table", "_law_factor", "_law_step", "_law_program", "_law_made", "_law_memory", "_law_given", "_law_is_back"]
def loose : List PySem.Str := loose0 ++ loose1
abbrev R : PySem.W.OpenRow := PySem.W.OpenLaw.row PySem.Challenge.rw_brimful_k07_whole_programs_are_undone
abbrev hk : PySem.W.Hook := He.hookD 5 fa fn
def ob (s : PySem.W.SharedT) : He.AlD := He.obsDG 5 fa fn (HandSHeadRun.getT s)
theorem ob_eq (s : PySem.W.SharedT) : ob s = hk.obs s.abs := He.obsDG_eq (HandSHeadRun.getT_eq s)
theorem run (w : World) : HandSHeadRun.RunEq R (PySem.W.view R.prog [48]) hk ob 3000 loose w := by
  intro os
  kernel_rfl
theorem facts {P : Program} {w : World} {K : PySem.W.Frag} {h : Heap} {mg : Str → Option Value} {f : Addr} (X : K.In h) (G : h.Ns mainGlobals mg) (hfa : mg ("law" : Str) = some (.ref f)) (c : He.SaysD fa fn K) :
    ∃ fd : FuncData, (∀ (s : Shared) (v : Value), BindsTo s fd ⟨[v], []⟩ [("_law_script", v)]) ∧ ∀ base : Heap, K.In base → base.Ns mainGlobals mg → FnOk P w K mg base CX0 12 f fd ["_law_script"] (spLaw K) := by
  have T : Gs mg := {
      c_FACTORS := by obtain ⟨t, e⟩ := He.int_ok X G (c.fact 9 (f := .int "FACTORS" 3) rfl); exact ⟨_, e, ⟨t, rfl⟩⟩
      c_MODULUS := by obtain ⟨t, e⟩ := He.int_ok X G (c.fact 18 (f := .int "MODULUS" 1000000000) rfl); exact ⟨_, e, ⟨t, rfl⟩⟩
      c_CELLS := by obtain ⟨t, e⟩ := He.int_ok X G (c.fact 19 (f := .int "CELLS" 60) rfl); exact ⟨_, e, ⟨t, rfl⟩⟩
      c_INPUTS := by obtain ⟨t, e⟩ := He.int_ok X G (c.fact 20 (f := .int "INPUTS" 60) rfl); exact ⟨_, e, ⟨t, rfl⟩⟩
      c_STEPS := by obtain ⟨t, e⟩ := He.int_ok X G (c.fact 21 (f := .int "STEPS" 20000) rfl); exact ⟨_, e, ⟨t, rfl⟩⟩
      n_bool := He.free_ok X G (c.fact 57 (f := .free "bool") rfl)
      n_int := He.free_ok X G (c.fact 58 (f := .free "int") rfl)
      n_isinstance := He.free_ok X G (c.fact 59 (f := .free "isinstance") rfl)
      n_len := He.free_ok X G (c.fact 60 (f := .free "len") rfl)
      n_list := He.free_ok X G (c.fact 61 (f := .free "list") rfl)
      n_max := He.free_ok X G (c.fact 62 (f := .free "max") rfl)
      n_min := He.free_ok X G (c.fact 63 (f := .free "min") rfl)
      n_range := He.free_ok X G (c.fact 64 (f := .free "range") rfl)
      n_str := He.free_ok X G (c.fact 65 (f := .free "str") rfl)
      n_tuple := He.free_ok X G (c.fact 66 (f := .free "tuple") rfl)
      n_zip := He.free_ok X G (c.fact 67 (f := .free "zip") rfl) }
  have F_is_integer : DefAt K mg "is_integer" s_is_integer := by
    obtain ⟨fd, F⟩ := c.def_ 0 (d := d0) rfl
    exact ⟨⟨_, fd, F, He.glo_ok X G (c.fact 3 (f := .glo "is_integer") rfl)⟩⟩
  have F_is_number : DefAt K mg "is_number" s_is_number := by
    obtain ⟨fd, F⟩ := c.def_ 1 (d := d1) rfl
    exact ⟨⟨_, fd, F, He.glo_ok X G (c.fact 4 (f := .glo "is_number") rfl)⟩⟩
  have F_is_prime : DefAt K mg "is_prime" s_is_prime := by
    obtain ⟨fd, F⟩ := c.def_ 2 (d := d2) rfl
    exact ⟨⟨_, fd, F, He.glo_ok X G (c.fact 5 (f := .glo "is_prime") rfl)⟩⟩
  have F_inverse_of : DefAt K mg "inverse_of" s_inverse_of := by
    obtain ⟨fd, F⟩ := c.def_ 3 (d := d3) rfl
    exact ⟨⟨_, fd, F, He.glo_ok X G (c.fact 6 (f := .glo "inverse_of") rfl)⟩⟩
  have F_weights : DefAt K mg "weights" s_weights := by
    obtain ⟨fd, F⟩ := c.def_ 4 (d := d4) rfl
    exact ⟨⟨_, fd, F, He.glo_ok X G (c.fact 7 (f := .glo "weights") rfl)⟩⟩
  have F_interpolate : DefAt K mg "interpolate" s_interpolate := by
    obtain ⟨fd, F⟩ := c.def_ 5 (d := d5) rfl
    exact ⟨⟨_, fd, F, He.glo_ok X G (c.fact 8 (f := .glo "interpolate") rfl)⟩⟩
  have F_is_factor : DefAt K mg "is_factor" s_is_factor := by
    obtain ⟨fd, F⟩ := c.def_ 6 (d := d6) rfl
    exact ⟨⟨_, fd, F, He.glo_ok X G (c.fact 10 (f := .glo "is_factor") rfl)⟩⟩
  have F_is_table : DefAt K mg "is_table" s_is_table := by
    obtain ⟨fd, F⟩ := c.def_ 7 (d := d7) rfl
    exact ⟨⟨_, fd, F, He.glo_ok X G (c.fact 11 (f := .glo "is_table") rfl)⟩⟩
  have F_is_add : DefAt K mg "is_add" s_is_add := by
    obtain ⟨fd, F⟩ := c.def_ 8 (d := d8) rfl
    exact ⟨⟨_, fd, F, He.glo_ok X G (c.fact 12 (f := .glo "is_add") rfl)⟩⟩
  have F_is_look : DefAt K mg "is_look" s_is_look := by
    obtain ⟨fd, F⟩ := c.def_ 9 (d := d9) rfl
    exact ⟨⟨_, fd, F, He.glo_ok X G (c.fact 13 (f := .glo "is_look") rfl)⟩⟩
  have F_is_step : DefAt K mg "is_step" s_is_step := by
    obtain ⟨fd, F⟩ := c.def_ 10 (d := d10) rfl
    exact ⟨⟨_, fd, F, He.glo_ok X G (c.fact 14 (f := .glo "is_step") rfl)⟩⟩
  have F_inverse_step : DefAt K mg "inverse_step" s_inverse_step := by
    obtain ⟨fd, F⟩ := c.def_ 11 (d := d11) rfl
    exact ⟨⟨_, fd, F, He.glo_ok X G (c.fact 15 (f := .glo "inverse_step") rfl)⟩⟩
  have F_perform : DefAt K mg "perform" s_perform := by
    obtain ⟨fd, F⟩ := c.def_ 12 (d := d12) rfl
    exact ⟨⟨_, fd, F, He.glo_ok X G (c.fact 16 (f := .glo "perform") rfl)⟩⟩
  have F_check_steps : DefAt K mg "check_steps" s_check_steps := by
    obtain ⟨fd, F⟩ := c.def_ 13 (d := d13) rfl
    exact ⟨⟨_, fd, F, He.glo_ok X G (c.fact 17 (f := .glo "check_steps") rfl)⟩⟩
  have F_check_numbers : DefAt K mg "check_numbers" s_check_numbers := by
    obtain ⟨fd, F⟩ := c.def_ 14 (d := d14) rfl
    exact ⟨⟨_, fd, F, He.glo_ok X G (c.fact 22 (f := .glo "check_numbers") rfl)⟩⟩
  have M_Program : MakAt K mg "Program" (He.ga K "Program") "Program.__init__" s_Program___init__ := by
    obtain ⟨fd, F⟩ := c.def_ 15 (d := d15) rfl
    exact ⟨⟨_, fd, F, He.mkr_ok (c.fact 25 (f := .mkr "Program") rfl), He.glo_ok X G (c.fact 23 (f := .glo "Program") rfl)⟩⟩
  have F_Program___len__ : MetAt K (He.ga K "Program") "__len__" "Program.__len__" s_Program___len__ := by
    obtain ⟨fd, F⟩ := c.def_ 16 (d := d16) rfl
    exact ⟨⟨_, fd, F, He.meth_ok (c.fact 27 (f := .meth "Program" "__len__") rfl)⟩⟩
  have F_Program___add__ : MetAt K (He.ga K "Program") "__add__" "Program.__add__" s_Program___add__ := by
    obtain ⟨fd, F⟩ := c.def_ 17 (d := d17) rfl
    exact ⟨⟨_, fd, F, He.meth_ok (c.fact 28 (f := .meth "Program" "__add__") rfl)⟩⟩
  have F_Program___neg__ : MetAt K (He.ga K "Program") "__neg__" "Program.__neg__" s_Program___neg__ := by
    obtain ⟨fd, F⟩ := c.def_ 18 (d := d18) rfl
    exact ⟨⟨_, fd, F, He.meth_ok (c.fact 29 (f := .meth "Program" "__neg__") rfl)⟩⟩
  have F_Program_run : MetAt K (He.ga K "Program") "run" "Program.run" s_Program_run := by
    obtain ⟨fd, F⟩ := c.def_ 19 (d := d19) rfl
    exact ⟨⟨_, fd, F, He.meth_ok (c.fact 30 (f := .meth "Program" "run") rfl)⟩⟩
  have F_Program_part : MetAt K (He.ga K "Program") "part" "Program.part" s_Program_part := by
    obtain ⟨fd, F⟩ := c.def_ 20 (d := d20) rfl
    exact ⟨⟨_, fd, F, He.meth_ok (c.fact 31 (f := .meth "Program" "part") rfl)⟩⟩
  have F_Program_called_back : MetAt K (He.ga K "Program") "called_back" "Program.called_back" s_Program_called_back := by
    obtain ⟨fd, F⟩ := c.def_ 21 (d := d21) rfl
    exact ⟨⟨_, fd, F, He.meth_ok (c.fact 32 (f := .meth "Program" "called_back") rfl)⟩⟩
  have F__law_mixed : DefAt K mg "_law_mixed" s__law_mixed := by
    obtain ⟨fd, F⟩ := c.def_ 22 (d := d22) rfl
    exact ⟨⟨_, fd, F, He.glo_ok X G (c.fact 37 (f := .glo "_law_mixed") rfl)⟩⟩
  have F__law_numbers : DefAt K mg "_law_numbers" s__law_numbers := by
    obtain ⟨fd, F⟩ := c.def_ 23 (d := d23) rfl
    exact ⟨⟨_, fd, F, He.glo_ok X G (c.fact 38 (f := .glo "_law_numbers") rfl)⟩⟩
  have F__law_draw : DefAt K mg "_law_draw" s__law_draw := by
    obtain ⟨fd, F⟩ := c.def_ 24 (d := d24) rfl
    exact ⟨⟨_, fd, F, He.glo_ok X G (c.fact 39 (f := .glo "_law_draw") rfl)⟩⟩
  have F__law_equal : DefAt K mg "_law_equal" s__law_equal := by
    obtain ⟨fd, F⟩ := c.def_ 25 (d := d25) rfl
    exact ⟨⟨_, fd, F, He.glo_ok X G (c.fact 40 (f := .glo "_law_equal") rfl)⟩⟩
  have F__law_all_equal : DefAt K mg "_law_all_equal" s__law_all_equal := by
    obtain ⟨fd, F⟩ := c.def_ 26 (d := d26) rfl
    exact ⟨⟨_, fd, F, He.glo_ok X G (c.fact 41 (f := .glo "_law_all_equal") rfl)⟩⟩
  have F__law_large : DefAt K mg "_law_large" s__law_large := by
    obtain ⟨fd, F⟩ := c.def_ 27 (d := d27) rfl
    exact ⟨⟨_, fd, F, He.glo_ok X G (c.fact 42 (f := .glo "_law_large") rfl)⟩⟩
  have F__law_modulus : DefAt K mg "_law_modulus" s__law_modulus := by
    obtain ⟨fd, F⟩ := c.def_ 28 (d := d28) rfl
    exact ⟨⟨_, fd, F, He.glo_ok X G (c.fact 43 (f := .glo "_law_modulus") rfl)⟩⟩
  have F__law_number : DefAt K mg "_law_number" s__law_number := by
    obtain ⟨fd, F⟩ := c.def_ 29 (d := d29) rfl
    exact ⟨⟨_, fd, F, He.glo_ok X G (c.fact 44 (f := .glo "_law_number") rfl)⟩⟩
  have F__law_gcd : DefAt K mg "_law_gcd" s__law_gcd := by
    obtain ⟨fd, F⟩ := c.def_ 30 (d := d30) rfl
    exact ⟨⟨_, fd, F, He.glo_ok X G (c.fact 45 (f := .glo "_law_gcd") rfl)⟩⟩
  have F__law_unit : DefAt K mg "_law_unit" s__law_unit := by
    obtain ⟨fd, F⟩ := c.def_ 31 (d := d31) rfl
    exact ⟨⟨_, fd, F, He.glo_ok X G (c.fact 46 (f := .glo "_law_unit") rfl)⟩⟩
  have F__law_prime : DefAt K mg "_law_prime" s__law_prime := by
    obtain ⟨fd, F⟩ := c.def_ 32 (d := d32) rfl
    exact ⟨⟨_, fd, F, He.glo_ok X G (c.fact 47 (f := .glo "_law_prime") rfl)⟩⟩
  have F__law_table : DefAt K mg "_law_table" s__law_table := by
    obtain ⟨fd, F⟩ := c.def_ 33 (d := d33) rfl
    exact ⟨⟨_, fd, F, He.glo_ok X G (c.fact 48 (f := .glo "_law_table") rfl)⟩⟩
  have F__law_factor : DefAt K mg "_law_factor" s__law_factor := by
    obtain ⟨fd, F⟩ := c.def_ 34 (d := d34) rfl
    exact ⟨⟨_, fd, F, He.glo_ok X G (c.fact 49 (f := .glo "_law_factor") rfl)⟩⟩
  have F__law_step : DefAt K mg "_law_step" s__law_step := by
    obtain ⟨fd, F⟩ := c.def_ 35 (d := d35) rfl
    exact ⟨⟨_, fd, F, He.glo_ok X G (c.fact 50 (f := .glo "_law_step") rfl)⟩⟩
  have F__law_program : DefAt K mg "_law_program" s__law_program := by
    obtain ⟨fd, F⟩ := c.def_ 36 (d := d36) rfl
    exact ⟨⟨_, fd, F, He.glo_ok X G (c.fact 51 (f := .glo "_law_program") rfl)⟩⟩
  have F__law_made : DefAt K mg "_law_made" s__law_made := by
    obtain ⟨fd, F⟩ := c.def_ 37 (d := d37) rfl
    exact ⟨⟨_, fd, F, He.glo_ok X G (c.fact 52 (f := .glo "_law_made") rfl)⟩⟩
  have F__law_memory : DefAt K mg "_law_memory" s__law_memory := by
    obtain ⟨fd, F⟩ := c.def_ 38 (d := d38) rfl
    exact ⟨⟨_, fd, F, He.glo_ok X G (c.fact 53 (f := .glo "_law_memory") rfl)⟩⟩
  have F__law_given : DefAt K mg "_law_given" s__law_given := by
    obtain ⟨fd, F⟩ := c.def_ 39 (d := d39) rfl
    exact ⟨⟨_, fd, F, He.glo_ok X G (c.fact 54 (f := .glo "_law_given") rfl)⟩⟩
  have F__law_is_back : DefAt K mg "_law_is_back" s__law_is_back := by
    obtain ⟨fd, F⟩ := c.def_ 40 (d := d40) rfl
    exact ⟨⟨_, fd, F, He.glo_ok X G (c.fact 55 (f := .glo "_law_is_back") rfl)⟩⟩
  have C_Program := He.cls_ok (c.fact 24 (f := .cls "Program") rfl)
  have A_Program_modulus := He.noat_ok (c.fact 33 (f := .noat "Program" "modulus") rfl)
  have A_Program_cells := He.noat_ok (c.fact 34 (f := .noat "Program" "cells") rfl)
  have A_Program_inputs := He.noat_ok (c.fact 35 (f := .noat "Program" "inputs") rfl)
  have A_Program_steps := He.noat_ok (c.fact 36 (f := .noat "Program" "steps") rfl)
  obtain ⟨fdl, Fl⟩ := c.def_ 41 (d := d41) rfl
  have el := hfa.symm.trans (He.glo_ok X G (c.fact 56 (f := .glo "law") rfl))
  cases el
  have GP : PgC K (He.ga K "Program") := ⟨C_Program, A_Program_modulus, A_Program_cells, A_Program_inputs, A_Program_steps⟩
  have b := FunD.bindsA (ps := ["_law_script"]) Fl fun _ _ _ _ _ _ us hl => match us, hl with | [_], _ => rfl
  refine ⟨fdl, fun s v => b s [v] rfl, fun base _ _ => ?_⟩
  have c_is_integer := cal_is_integer (P := P) (w := w) (base := base) T F_is_integer
  have c_is_number := cal_is_number (P := P) (w := w) (base := base) T c_is_integer F_is_number
  have c_is_prime := cal_is_prime (P := P) (w := w) (base := base) T F_is_prime
  have c_inverse_of := cal_inverse_of (P := P) (w := w) (base := base) T F_inverse_of
  have c_weights := cal_weights (P := P) (w := w) (base := base) T c_inverse_of F_weights
  have c_interpolate := cal_interpolate (P := P) (w := w) (base := base) T c_weights F_interpolate
  have c_is_factor := cal_is_factor (P := P) (w := w) (base := base) T c_is_number F_is_factor
  have c_is_table := cal_is_table (P := P) (w := w) (base := base) T c_is_number F_is_table
  have c_is_add := cal_is_add (P := P) (w := w) (base := base) T c_is_number c_is_factor F_is_add
  have c_is_look := cal_is_look (P := P) (w := w) (base := base) T c_is_number c_is_integer c_is_table F_is_look
  have c_is_step := cal_is_step (P := P) (w := w) (base := base) T c_is_number c_inverse_of c_is_add c_is_look F_is_step
  have c_inverse_step := cal_inverse_step (P := P) (w := w) (base := base) T c_inverse_of F_inverse_step
  have c_check_numbers := cal_check_numbers (P := P) (w := w) (base := base) T c_is_number F_check_numbers
  have c_check_steps := cal_check_steps (P := P) (w := w) (base := base) T c_is_prime c_is_step F_check_steps
  have c_perform := cal_perform (P := P) (w := w) (base := base) T c_interpolate F_perform
  have c_Program := mak_Program (P := P) (w := w) (base := base) T GP c_is_integer c_check_steps M_Program
  have m_len := met_len (P := P) (w := w) (mg := mg) (base := base) T GP F_Program___len__
  have m_part := met_part (P := P) (w := w) (base := base) T GP c_is_integer c_Program F_Program_part
  have m_neg := met_neg (P := P) (w := w) (base := base) T GP c_inverse_step c_Program F_Program___neg__
  have m_back := met_back (P := P) (w := w) (base := base) T GP m_part m_neg F_Program_called_back
  have m_run := met_run (P := P) (w := w) (base := base) T GP c_check_numbers c_perform F_Program_run
  have c_mixed := cal__law_mixed (P := P) (w := w) (base := base) T F__law_mixed
  have c_numbers := cal__law_numbers (P := P) (w := w) (base := base) T c_mixed F__law_numbers
  have c_draw := cal__law_draw (P := P) (w := w) (base := base) T c_mixed F__law_draw
  have c_large := cal__law_large (P := P) (w := w) (base := base) T c_draw F__law_large
  have c_modulus := cal__law_modulus (P := P) (w := w) (base := base) T c_draw c_large F__law_modulus
  have c_number := cal__law_number (P := P) (w := w) (base := base) T c_draw c_large F__law_number
  have c_gcd := cal__law_gcd (P := P) (w := w) (base := base) T F__law_gcd
  have c_unit := cal__law_unit (P := P) (w := w) (base := base) T c_number c_gcd F__law_unit
  have c_prime := cal__law_prime (P := P) (w := w) (base := base) T c_draw F__law_prime
  have c_factor := cal__law_factor (P := P) (w := w) (base := base) T c_draw F__law_factor
  have c_table := cal__law_table (P := P) (w := w) (base := base) T c_draw c_number F__law_table
  have c_step := cal__law_step (P := P) (w := w) (base := base) T c_draw c_unit c_table c_factor c_number F__law_step
  have c_program := cal__law_program (P := P) (w := w) (base := base) T c_draw c_modulus c_prime c_step F__law_program
  have c_made := cal__law_made (P := P) (w := w) (base := base) T GP c_Program F__law_made
  have c_memory := cal__law_memory (P := P) (w := w) (base := base) T c_number F__law_memory
  have c_given := cal__law_given (P := P) (w := w) (base := base) T c_number F__law_given
  have c_equal := cal__law_equal (P := P) (w := w) (base := base) T F__law_equal F__law_all_equal 4
  have c_is_back := cal__law_is_back (P := P) (w := w) (base := base) T c_equal F__law_is_back
  exact ok_law T GP c_numbers c_draw c_program c_made c_memory c_given c_is_back c_equal m_neg m_len m_part m_back m_run Fl
end Bf
open PySem PySem.W PySem.Calls PyProof.Rows
theorem PySem.Challenge.cw_brimful_k07_whole_programs_are_undone_holds : PySem.Challenge.rw_brimful_k07_whole_programs_are_undone.Holds := by
  w_on; o_law
  refine HandSHeadRun.head_any (r := OpenLaw.row PySem.Challenge.rw_brimful_k07_whole_programs_are_undone) (q := view (OpenLaw.row PySem.Challenge.rw_brimful_k07_whole_programs_are_undone).prog [48]) (H := Bf.hk) (ob := Bf.ob) (M := 3000) (loose := Bf.loose) (d := HandSHeadRun.topDef (OpenLaw.row PySem.Challenge.rw_brimful_k07_whole_programs_are_undone).prog 48) (kwd := []) Bf.ob_eq
    (by kernel_rfl) (fun s => by kernel_rfl) Bf.run (by kernel_rfl) (by kernel_rfl) (by kernel_rfl) (by rfl) (by first | assumption | decide +kernel) (by decide +kernel) ⟨rfl, rfl, rfl, rfl, rfl, by decide +kernel⟩ ?hw ?hc
  case hw => w_witness2
  case hc =>
    refine L2.walk_ofE (l := PySem.Challenge.rw_brimful_k07_whole_programs_are_undone) (n := 63) (k := 12) (x := "_law_script") (CX := L2.CX0) rfl (by decide) (by kernel_rfl) ⟨rfl, by decide, by decide⟩ ?F (fun _ _ _ _ z => z)
    intro w mg fa h Y G hmg0
    obtain ⟨K, KX, c⟩ := Y
    have hmg : mg ("law" : PySem.Str) = some (.ref fa) := by
      have e : (HandSHeadRun.topDef (OpenLaw.row PySem.Challenge.rw_brimful_k07_whole_programs_are_undone).prog 48).name = ("law" : PySem.Str) := by kernel_rfl
      rw [← e]
      exact hmg0
    obtain ⟨fd, hb, hF⟩ := Bf.facts (P := (PySem.Challenge.rw_brimful_k07_whole_programs_are_undone).prog) (w := w) KX G hmg c
    exact ⟨K, fd, Bf.spLaw K, KX, hb, fun H a ns hl _ hS => ⟨ns, a, rfl, hS, by omega, fun _ => rfl⟩, hF⟩
