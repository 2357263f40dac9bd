import PyProof.Rows.All
import Wide.All
import OpenK.AllK
import Wide.FinOn
import KE.KStateDown
import HandS.ForMost
import HandS.Codes
import HandS.Defaults
import HandS.IsInst
import HandS.Style
import HandS.TupAny
import HandS.More
import HandS.NoneIn
import HandS.Zip
import KE.GoesEnum
import KE.KOpsOwn
import HandS.Head0
import HandS.Head1
import HandS.Head2
import HandS.HeadEnd
import HandS.HeadHook1
import HandS.HeadHook2
import HandS.HeadHook3
import HandS.TryOnly
import HandS.FStr
import PySem.Challenge.RW_brimful_k58_whole_desk
set_option Elab.async false
set_option linter.all false
set_option maxRecDepth 100000
set_option maxHeartbeats 4000000
/-! reading lemmas: one for each word of a derivation -/
namespace Bf
open PySem L2
/-! ### heaps -/
theorem same_new {H : Hp} {p : Addr} {o : HO} (n : H p = none) : Same H (upd H p o) := fun b u e => by
  rw [upd_ne (ne_of_none e n)]
  exact e
/-- all but the object at d is kept -/
def Kp (d : Addr) (H H' : Hp) : Prop := ∀ b o, b ≠ d → H b = some o → H' b = some o
theorem Kp.refl (d : Addr) (H : Hp) : Kp d H H := fun _ _ _ h => h
theorem Kp.trans {d : Addr} {H H1 H2 : Hp} (a : Kp d H H1) (b : Kp d H1 H2) : Kp d H H2 := fun x o n h => b x o n (a x o n h)
theorem Kp.of {d : Addr} {H H' : Hp} (s : Same H H') : Kp d H H' := fun b o _ h => s b o h
theorem Kp.upd (d : Addr) (H : Hp) (o : HO) : Kp d H (L2.upd H d o) := fun b u n h => by rw [upd_ne n]; exact h
/-- a tuple is kept -/
def TK (H H' : Hp) : Prop := ∀ b xs, H b = some (.tup xs) → H' b = some (.tup xs)
theorem TK.refl (H : Hp) : TK H H := fun _ _ h => h
theorem TK.trans {H H1 H2 : Hp} (a : TK H H1) (b : TK H1 H2) : TK H H2 := fun x o h => b x o (a x o h)
theorem TK.of {H H' : Hp} (s : Same H H') : TK H H' := fun b xs h => s b _ h
theorem TK.kp {d : Addr} {H H' : Hp} {xs : List V} (h : H d = some (.lst xs)) (k : Kp d H H') : TK H H' := fun b ys e => k b _ (ne_of e h (by intro z; cases z)) e
/-! ### data: what a value is, by the heap -/
inductive Dt where
  | i (n : Int) | s (x : Str) | b (k : Bool) | non | t (l : List Dt) | l (l : List Dt)
mutual
def Rp (H : Hp) : Dt → V → Prop
  | .i n, v => v = .int n
  | .s x, v => v = .str x
  | .b k, v => v = .bl k
  | .non, v => v = .non
  | .t l, v => ∃ a vs, v = .ref a ∧ H a = some (.tup vs) ∧ RpL H l vs
  | .l l, v => ∃ a vs, v = .ref a ∧ H a = some (.lst vs) ∧ RpL H l vs
def RpL (H : Hp) : List Dt → List V → Prop
  | [], vs => vs = []
  | d :: r, vs => ∃ v ws, vs = v :: ws ∧ Rp H d v ∧ RpL H r ws
end
mutual
def Dt.flat : Dt → Bool
  | .t ls => Dt.flats ls
  | .l _ => false
  | _ => true
def Dt.flats : List Dt → Bool
  | [] => true
  | d :: r => d.flat && Dt.flats r
end
mutual
def Dt.dep : Dt → Nat
  | .t ls => Dt.deps ls + 1
  | .l ls => Dt.deps ls + 1
  | _ => 0
def Dt.deps : List Dt → Nat
  | [] => 0
  | d :: r => max d.dep (Dt.deps r)
end
mutual
theorem Rp.same {H H' : Hp} (s : Same H H') : ∀ {d : Dt} {v : V}, Rp H d v → Rp H' d v
  | .i _, _, h => h
  | .s _, _, h => h
  | .b _, _, h => h
  | .non, _, h => h
  | .t l, _, h => by
    obtain ⟨a, vs, e, ha, hl⟩ := h
    exact ⟨a, vs, e, s _ _ ha, RpL.same s hl⟩
  | .l l, _, h => by
    obtain ⟨a, vs, e, ha, hl⟩ := h
    exact ⟨a, vs, e, s _ _ ha, RpL.same s hl⟩
theorem RpL.same {H H' : Hp} (s : Same H H') : ∀ {l : List Dt} {vs : List V}, RpL H l vs → RpL H' l vs
  | [], _, h => h
  | _ :: _, _, h => by
    obtain ⟨v, ws, e, hv, hw⟩ := h
    exact ⟨v, ws, e, Rp.same s hv, RpL.same s hw⟩
end
mutual
theorem Rp.tk {H H' : Hp} (s : TK H H') : ∀ {d : Dt} {v : V}, d.flat = true → Rp H d v → Rp H' d v
  | .i _, _, _, h => h
  | .s _, _, _, h => h
  | .b _, _, _, h => h
  | .non, _, _, h => h
  | .t l, _, f, h => by
    obtain ⟨a, vs, e, ha, hl⟩ := h
    exact ⟨a, vs, e, s _ _ ha, RpL.tk s f hl⟩
  | .l ls, _, f, _ => by simp [Dt.flat] at f
theorem RpL.tk {H H' : Hp} (s : TK H H') : ∀ {l : List Dt} {vs : List V}, Dt.flats l = true → RpL H l vs → RpL H' l vs
  | [], _, _, h => h
  | _ :: _, _, f, h => by
    obtain ⟨v, ws, e, hv, hw⟩ := h
    simp only [Dt.flats, Bool.and_eq_true] at f
    exact ⟨v, ws, e, Rp.tk s f.1 hv, RpL.tk s f.2 hw⟩
end
theorem RpL.len {H : Hp} : ∀ {l : List Dt} {vs : List V}, RpL H l vs → vs.length = l.length
  | [], _, h => by rw [show _ = _ from h]; rfl
  | _ :: _, _, h => by
    obtain ⟨v, ws, e, _, hw⟩ := h
    rw [e, List.length_cons, List.length_cons, RpL.len hw]
theorem RpL.at {H : Hp} : ∀ {l : List Dt} {vs : List V} {i : Nat} {v : V}, RpL H l vs → vs[i]? = some v → ∃ d, l[i]? = some d ∧ Rp H d v
  | [], _, _, _, h, e => by rw [show _ = _ from h] at e; simp at e
  | d :: _, _, 0, _, h, e => by
    obtain ⟨w, ws, e1, hv, hw⟩ := h
    subst e1
    simp at e
    subst e
    exact ⟨d, rfl, hv⟩
  | _ :: _, _, i + 1, _, h, e => by
    obtain ⟨w, ws, e1, hv, hw⟩ := h
    subst e1
    obtain ⟨d, h1, h2⟩ := RpL.at (i := i) hw (by simpa using e)
    exact ⟨d, by simpa using h1, h2⟩
theorem RpL.get {H : Hp} : ∀ {l : List Dt} {vs : List V} {i : Nat} {d : Dt}, RpL H l vs → l[i]? = some d → ∃ v, vs[i]? = some v ∧ Rp H d v
  | [], _, _, _, _, e => by simp at e
  | d :: _, _, 0, _, h, e => by
    obtain ⟨w, ws, e1, hv, hw⟩ := h
    subst e1
    simp at e
    subst e
    exact ⟨w, rfl, hv⟩
  | _ :: _, _, i + 1, _, h, e => by
    obtain ⟨w, ws, e1, hv, hw⟩ := h
    subst e1
    obtain ⟨v, h1, h2⟩ := RpL.get (i := i) hw (by simpa using e)
    exact ⟨v, by simpa using h1, h2⟩
theorem RpL.snoc {H : Hp} {d : Dt} {v : V} (hv : Rp H d v) : ∀ {l : List Dt} {vs : List V}, RpL H l vs → RpL H (l ++ [d]) (vs ++ [v])
  | [], _, h => by
    rw [show _ = _ from h]
    exact ⟨v, [], rfl, hv, rfl⟩
  | _ :: _, _, h => by
    obtain ⟨w, ws, e, h1, h2⟩ := h
    subst e
    exact ⟨w, ws ++ [v], rfl, h1, RpL.snoc hv h2⟩
theorem RpL.app {H : Hp} {m : List Dt} {us : List V} (hm : RpL H m us) : ∀ {l : List Dt} {vs : List V}, RpL H l vs → RpL H (l ++ m) (vs ++ us)
  | [], _, h => by
    rw [show _ = _ from h]
    exact hm
  | _ :: _, _, h => by
    obtain ⟨w, ws, e, h1, h2⟩ := h
    subst e
    exact ⟨w, ws ++ us, rfl, h1, RpL.app hm h2⟩
theorem RpL.take {H : Hp} : ∀ {l : List Dt} {vs : List V} (n : Nat), RpL H l vs → RpL H (l.take n) (vs.take n)
  | _, _, 0, _ => by simp [RpL]
  | [], _, n + 1, h => by rw [show _ = _ from h]; rfl
  | _ :: _, _, n + 1, h => by
    obtain ⟨w, ws, e, h1, h2⟩ := h
    subst e
    exact ⟨w, ws.take n, rfl, h1, RpL.take n h2⟩
theorem RpL.drop {H : Hp} : ∀ {l : List Dt} {vs : List V} (n : Nat), RpL H l vs → RpL H (l.drop n) (vs.drop n)
  | _, _, 0, h => h
  | [], _, n + 1, h => by rw [show _ = _ from h]; rfl
  | _ :: _, _, n + 1, h => by
    obtain ⟨w, ws, e, h1, h2⟩ := h
    subst e
    exact RpL.drop n h2
theorem RpL.rev {H : Hp} : ∀ {l : List Dt} {vs : List V}, RpL H l vs → RpL H l.reverse vs.reverse
  | [], _, h => by rw [show _ = _ from h]; rfl
  | _ :: _, _, h => by
    obtain ⟨w, ws, e, h1, h2⟩ := h
    subst e
    rw [List.reverse_cons, List.reverse_cons]
    exact (RpL.rev h2).snoc h1
theorem RpL.ints {H : Hp} : ∀ (ns : List Int), RpL H (ns.map Dt.i) (ns.map V.int)
  | [] => rfl
  | n :: r => ⟨.int n, r.map V.int, rfl, rfl, RpL.ints r⟩
theorem RpL.eq_ints {H : Hp} : ∀ {ns : List Int} {vs : List V}, RpL H (ns.map Dt.i) vs → vs = ns.map V.int
  | [], _, h => h
  | n :: r, _, h => by
    obtain ⟨w, ws, e, h1, h2⟩ := h
    subst e
    rw [List.map_cons, RpL.eq_ints h2, show w = V.int n from h1]
/-! ### statements -/
section
variable {K : PySem.W.Frag} {σ : St} {H H1 : Hp} {D : Ends} {t u : TS} {te ta tb tc : TE} {tt tu : TT} {g : TG} {gs : TGs} {v x y : V} {Q : VK} {R : Bool → Hp → Prop} {S : St → Hp → Prop} {i j : Nat} {a c d : St → Hp → Prop} {b : VK}
theorem r_seq (h : t ⟨u ⟨a, b, c, d⟩, b, c, d⟩ σ H) : tSeq t u ⟨a, b, c, d⟩ σ H := h
theorem r_next (h : a σ H) : tNext ⟨a, b, c, d⟩ σ H := h
theorem r_cont (h : d σ H) : tCont ⟨a, b, c, d⟩ σ H := h
theorem r_break (h : c σ H) : tBreak ⟨a, b, c, d⟩ σ H := h
theorem r_asg (h : te σ H fun x H1 => g x σ H1 a) : tAsg te g ⟨a, b, c, d⟩ σ H := h
theorem r_ret (h : te σ H b) : tRet te ⟨a, b, c, d⟩ σ H := h
theorem r_retN (h : b .non H) : tRetN ⟨a, b, c, d⟩ σ H := h
theorem r_drop (h : te σ H fun _ H1 => a σ H1) : tDrop te ⟨a, b, c, d⟩ σ H := h
theorem r_ifS (h : tt σ H fun k H1 => if k = true then t ⟨a, b, c, d⟩ σ H1 else u ⟨a, b, c, d⟩ σ H1) : tIfS tt t u ⟨a, b, c, d⟩ σ H := h
theorem r_par {ta : TA} (h : ta σ H fun vs H1 => ∃ v w, vs = [v, w] ∧ a ((σ.set i (some v)).set j (some w)) H1) : tPar i j ta ⟨a, b, c, d⟩ σ H := h
theorem r_two {P : V → V → Prop} (h : P x y) : ∃ v w, [x, y] = [v, w] ∧ P v w := ⟨x, y, rfl, h⟩
theorem r_aug {ti : TIp} (h : σ[i]? = some (some x)) (k : te σ H fun y H1 => ti x y H1 fun z H2 => a (σ.set i (some z)) H2) : tAug i te ti ⟨a, b, c, d⟩ σ H := ⟨x, h, k⟩
/-! ### targets -/
theorem r_name (h : S (σ.set i (some v)) H) : gName i v σ H S := h
theorem r_gtup {a : Addr} {xs : List V} {n : Nat} (h : H a = some (.tup xs)) (l : xs.length = n) (k : gs xs σ H S) : gTup K n gs (.ref a) σ H S := ⟨a, xs, rfl, SqT.of h, l, k⟩
theorem r_gcons {r : List V} (k : g v σ H fun σ' H' => gs r σ' H' S) : gCons g gs (v :: r) σ H S := ⟨v, r, rfl, k⟩
theorem r_gnil (k : S σ H) : gNil [] σ H S := ⟨rfl, k⟩
theorem r_gsub {t : TSet} (k : ta σ H fun o H1 => tb σ H1 fun i H2 => t o i v H2 fun H3 => S σ H3) : gSub ta tb t v σ H S := k
/-! ### expressions -/
theorem r_var (h : σ[i]? = some (some v)) (k : Q v H) : tVar i σ H Q := ⟨v, h, k⟩
theorem r_c (k : Q v H) : tC v σ H Q := k
theorem r_op {r : R2} (k : ta σ H fun x H1 => tb σ H1 fun y H2 => r x y H2 Q) : tOp r ta tb σ H Q := k
theorem r_un {r : V → Hp → VK → Prop} (k : ta σ H fun x H1 => r x H1 Q) : tUn r ta σ H Q := k
theorem r_I0 {f : Int → Int → V} {a b : Int} (k : Q (f a b) H) : rI0 f (.int a) (.int b) H Q := ⟨a, b, rfl, rfl, k⟩
theorem r_I {C : Int → Int → Prop} {f : Int → Int → V} {a b : Int} (c : C a b) (k : Q (f a b) H) : rI C f (.int a) (.int b) H Q := ⟨a, b, rfl, rfl, c, k⟩
theorem r_U {f : Int → V} {a : Int} (k : Q (f a) H) : rU f (.int a) H Q := ⟨a, rfl, k⟩
theorem r_ip {f : Int → Int → Int} {a b : Int} (k : Q (.int (f a b)) H) : ipI f (.int a) (.int b) H Q := ⟨a, b, rfl, rfl, k⟩
theorem r_eq (s : scal x y = true) (k : Q (.bl (decide (x = y))) H) : rEq x y H Q := ⟨s, k⟩
theorem r_ne (s : scal x y = true) (k : Q (.bl (!decide (x = y))) H) : rNe x y H Q := ⟨s, k⟩
theorem r_eqI {a b : Int} (k : Q (.bl (decide (a = b))) H) : rEq (.int a) (.int b) H Q := ⟨rfl, by
  rw [show decide (V.int a = V.int b) = decide (a = b) by simp]
  exact k⟩
theorem r_neI {a b : Int} (k : Q (.bl (!decide (a = b))) H) : rNe (.int a) (.int b) H Q := ⟨rfl, by
  rw [show decide (V.int a = V.int b) = decide (a = b) by simp]
  exact k⟩
theorem r_eqS {a b : Str} (k : Q (.bl (decide (a = b))) H) : rEq (.str a) (.str b) H Q := ⟨rfl, by
  rw [show decide (V.str a = V.str b) = decide (a = b) by simp]
  exact k⟩
theorem r_neS {a b : Str} (k : Q (.bl (!decide (a = b))) H) : rNe (.str a) (.str b) H Q := ⟨rfl, by
  rw [show decide (V.str a = V.str b) = decide (a = b) by simp]
  exact k⟩
theorem r_chain {r r' : R2} (k : ta σ H fun x H1 => tb σ H1 fun y H2 => r x y H2 fun z H3 => ∃ k, z = .bl k ∧ (if k = true then tc σ H3 fun w H4 => r' y w H4 Q else Q (.bl false) H3)) : tChain r r' ta tb tc σ H Q := k
theorem r_isbl {P : Bool → Prop} {c : Bool} (k : P c) : ∃ b, V.bl c = .bl b ∧ P b := ⟨c, rfl, k⟩
theorem r_test (k : te σ H fun x H' => ∃ b, x = .bl b ∧ R b H') : tTest te σ H R := k
theorem r_B (k : te σ H fun x H' => ∃ b, x = .bl b ∧ R b H') : tB te σ H R := k
theorem r_and (k : tt σ H fun c H1 => if c = true then tu σ H1 R else R false H1) : tAnd tt tu σ H R := k
theorem r_or (k : tt σ H fun c H1 => if c = true then R true H1 else tu σ H1 R) : tOr tt tu σ H R := k
theorem r_not (k : tt σ H fun c H1 => R (!c) H1) : tNot tt σ H R := k
theorem r_andV (k : ta σ H fun x H1 => ∃ c, x = .bl c ∧ if c = true then tb σ H1 Q else Q (.bl false) H1) : tAndV ta tb σ H Q := k
theorem r_orV (k : ta σ H fun x H1 => ∃ c, x = .bl c ∧ if c = true then Q (.bl true) H1 else tb σ H1 Q) : tOrV ta tb σ H Q := k
theorem r_notV (k : ta σ H fun x H1 => ∃ c, x = .bl c ∧ Q (.bl (!c)) H1) : tNotV ta σ H Q := k
theorem r_ifE (k : tt σ H fun c H1 => if c = true then ta σ H1 Q else tb σ H1 Q) : tIf tt ta tb σ H Q := k
theorem r_cons {tr : TA} {P : List V → Hp → Prop} (k : ta σ H fun x H1 => tr σ H1 fun xs H2 => P (x :: xs) H2) : tCons ta tr σ H P := k
theorem r_nil {P : List V → Hp → Prop} (k : P [] H) : tNil σ H P := k
theorem r_CB {r : List V → Hp → VK → Prop} {ta : TA} (k : ta σ H fun vs H1 => r vs H1 Q) : tCB r ta σ H Q := k
theorem r_call {sp : Sp} {dvs : List V} {E : XK} {ta : TA} (k : ta σ H fun vs H1 => sp (vs ++ dvs) H1 Q E) : tCall sp dvs E ta σ H Q := k
/-! ### tests whose answer is known -/
section
variable {A B : Prop} {c : Prop} [Decidable c]
theorem i_t (h : A) : if true = true then A else B := iteT h
theorem i_f (h : B) : if false = true then A else B := iteF h
theorem i_nt (h : B) : if (!true) = true then A else B := iteF h
theorem i_nf (h : A) : if (!false) = true then A else B := iteT h
theorem i_d1 (hc : c) (h : A) : if decide c = true then A else B := by rw [decide_eq_true hc]; exact iteT h
theorem i_d0 (hc : ¬ c) (h : B) : if decide c = true then A else B := by rw [decide_eq_false hc]; exact iteF h
theorem i_n1 (hc : c) (h : B) : if (!decide c) = true then A else B := by rw [decide_eq_true hc]; exact iteF h
theorem i_n0 (hc : ¬ c) (h : A) : if (!decide c) = true then A else B := by rw [decide_eq_false hc]; exact iteT h
theorem i_d2 (h1 : c → A) (h2 : ¬ c → B) : if decide c = true then A else B := by
  by_cases hc : c
  · exact i_d1 hc (h1 hc)
  · exact i_d0 hc (h2 hc)
theorem i_n2 (h1 : ¬ c → A) (h2 : c → B) : if (!decide c) = true then A else B := by
  by_cases hc : c
  · exact i_n1 hc (h2 hc)
  · exact i_n0 hc (h1 hc)
end
theorem q_t {c : Prop} [Decidable c] {P : Bool → Prop} (hc : c) (h : P true) : P (decide c) := by rw [decide_eq_true hc]; exact h
theorem q_d {c : Prop} [Decidable c] {P : Bool → Prop} (h1 : c → P true) (h2 : ¬ c → P false) : P (decide c) := by
  by_cases h : c
  · exact q_t h (h1 h)
  · exact (by rw [decide_eq_false h]; exact h2 h)
theorem q_f {c : Prop} [Decidable c] {P : Bool → Prop} (hc : ¬ c) (h : P false) : P (decide c) := by rw [decide_eq_false hc]; exact h
/-! ### new objects -/
def rTup (xs : List V) (H : Hp) (Q : VK) : Prop := xs.length ≤ sizeLine ∧ ∀ p, H p = none → Q (.ref p) (upd H p (.tup xs))
def rLst (xs : List V) (H : Hp) (Q : VK) : Prop := xs.length ≤ sizeLine ∧ ∀ p, H p = none → Q (.ref p) (upd H p (.lst xs))
theorem r_tup {ta : TA} (k : ta σ H fun xs H1 => rTup xs H1 Q) : tTup ta σ H Q := k
theorem r_lst {ta : TA} (k : ta σ H fun xs H1 => rLst xs H1 Q) : tLst ta σ H Q := k
theorem n_tup {xs : List V} (hl : xs.length ≤ sizeLine) (k : ∀ p H', H p = none → Same H H' → H' p = some (.tup xs) → Q (.ref p) H') : rTup xs H Q := ⟨hl, fun p n => k p _ n (same_new n) upd_same⟩
theorem n_lst {xs : List V} (hl : xs.length ≤ sizeLine) (k : ∀ p H', H p = none → Same H H' → H' p = some (.lst xs) → Q (.ref p) H') : rLst xs H Q := ⟨hl, fun p n => k p _ n (same_new n) upd_same⟩
theorem n_new {Q : VK} {o : HO} (k : ∀ p H', H p = none → Same H H' → H' p = some o → Q (.ref p) H') : ∀ p, H p = none → Q (.ref p) (upd H p o) := fun p n => k p _ n (same_new n) upd_same
/-! ### places -/
theorem r_ixL {p : Addr} {xs : List V} {n : Int} (h : H p = some (.lst xs)) (a : atI xs n = some v) (k : Q v H) : rIx K (.ref p) (.int n) H Q := .inl ⟨p, xs, n, v, rfl, rfl, SqL.of h, a, k⟩
theorem r_ixSL {p : Addr} {xs : List V} {n : Int} (h : SqL K H p xs) (a : atI xs n = some v) (k : Q v H) : rIx K (.ref p) (.int n) H Q := .inl ⟨p, xs, n, v, rfl, rfl, h, a, k⟩
theorem r_ixT {p : Addr} {xs : List V} {n : Int} (h : H p = some (.tup xs)) (a : atI xs n = some v) (k : Q v H) : rIx K (.ref p) (.int n) H Q := .inr (.inl ⟨p, xs, n, v, rfl, rfl, SqT.of h, a, k⟩)
theorem at_nat {α : Type} {xs : List α} {n : Int} {w : α} (h0 : 0 ≤ n) (h : xs[n.toNat]? = some w) : atI xs n = some w := by
  have e : n = ((n.toNat : Nat) : Int) := by omega
  rw [e]
  exact atI_nat h
theorem n_setL {p : Addr} {xs : List V} {n : Int} {P : Hp → Prop} (h : H p = some (.lst xs)) (h0 : 0 ≤ n) (h1 : n < xs.length) (k : ∀ H', Kp p H H' → H' p = some (.lst (xs.set n.toNat v)) → P H') : rSetL (.ref p) (.int n) v H P :=
  ⟨p, xs, n, n.toNat, rfl, rfl, h, by unfold ixN; rw [if_pos h0, if_pos h1], k _ (Kp.upd p H _) upd_same⟩
/-! ### kinds -/
theorem isi_ {a b : String} {r : Bool} {u : V} (ty : TyX K H u (.type a)) (e : kitB a b = some r) (k : Q (.bl r) H) : rIsi K [u, .ty b] H Q := ⟨u, .ty b, .type a, .type b, r, rfl, .ty b, ty, kit_ty e, k⟩
theorem ty_i {n : Int} : TyX K H (.int n) (.type "int") := .base (.int n)
theorem ty_s {z : Str} : TyX K H (.str z) (.type "str") := .base (.str z)
theorem ty_b {z : Bool} : TyX K H (.bl z) (.type "bool") := .base (.bl z)
theorem ty_n : TyX K H .non (.type "NoneType") := .base .non
theorem ty_t {a : Addr} {xs : List V} (h : H a = some (.tup xs)) : TyX K H (.ref a) (.type "tuple") := .base (.tup h)
theorem ty_l {a : Addr} {xs : List V} (h : H a = some (.lst xs)) : TyX K H (.ref a) (.type "list") := .base (.lst h)
theorem kb_ii : kitB "int" "int" = some true := by decide +kernel
theorem kb_ib : kitB "int" "bool" = some false := by decide +kernel
theorem kb_is : kitB "int" "str" = some false := by decide +kernel
theorem kb_it : kitB "int" "tuple" = some false := by decide +kernel
theorem kb_il : kitB "int" "list" = some false := by decide +kernel
theorem kb_si : kitB "str" "int" = some false := by decide +kernel
theorem kb_sb : kitB "str" "bool" = some false := by decide +kernel
theorem kb_ss : kitB "str" "str" = some true := by decide +kernel
theorem kb_st : kitB "str" "tuple" = some false := by decide +kernel
theorem kb_sl : kitB "str" "list" = some false := by decide +kernel
theorem kb_bi : kitB "bool" "int" = some true := by decide +kernel
theorem kb_bb : kitB "bool" "bool" = some true := by decide +kernel
theorem kb_bs : kitB "bool" "str" = some false := by decide +kernel
theorem kb_bt : kitB "bool" "tuple" = some false := by decide +kernel
theorem kb_bL : kitB "bool" "list" = some false := by decide +kernel
theorem kb_ni : kitB "NoneType" "int" = some false := by decide +kernel
theorem kb_nb : kitB "NoneType" "bool" = some false := by decide +kernel
theorem kb_ns : kitB "NoneType" "str" = some false := by decide +kernel
theorem kb_nt : kitB "NoneType" "tuple" = some false := by decide +kernel
theorem kb_nl : kitB "NoneType" "list" = some false := by decide +kernel
theorem kb_ti : kitB "tuple" "int" = some false := by decide +kernel
theorem kb_tb : kitB "tuple" "bool" = some false := by decide +kernel
theorem kb_ts : kitB "tuple" "str" = some false := by decide +kernel
theorem kb_tt : kitB "tuple" "tuple" = some true := by decide +kernel
theorem kb_tl : kitB "tuple" "list" = some false := by decide +kernel
theorem kb_li : kitB "list" "int" = some false := by decide +kernel
theorem kb_lb : kitB "list" "bool" = some false := by decide +kernel
theorem kb_ls : kitB "list" "str" = some false := by decide +kernel
theorem kb_lt : kitB "list" "tuple" = some false := by decide +kernel
theorem kb_ll : kitB "list" "list" = some true := by decide +kernel
/-! ### built-ins by name -/
theorem b_len {X : Cx} : CallR X (.builtin "len") (rLen X.K) := call_len
theorem r_lenL {p : Addr} {xs : List V} (h : H p = some (.lst xs)) (k : Q (.int xs.length) H) : rLen K [.ref p] H Q := ⟨.ref p, xs.length, rfl, .inl ⟨xs, SqL.of h, rfl⟩, k⟩
theorem r_lenSL {p : Addr} {xs : List V} (h : SqL K H p xs) (k : Q (.int xs.length) H) : rLen K [.ref p] H Q := ⟨.ref p, xs.length, rfl, .inl ⟨xs, h, rfl⟩, k⟩
theorem r_lenT {p : Addr} {xs : List V} (h : H p = some (.tup xs)) (k : Q (.int xs.length) H) : rLen K [.ref p] H Q := ⟨.ref p, xs.length, rfl, .inr ⟨xs, SqT.of h, rfl⟩, k⟩
theorem r_lenS {z : Str} (h : z.length ≤ sizeLine) (k : Q (.int z.length) H) : rLen K [.str z] H Q := ⟨.str z, z.length, rfl, ⟨h, rfl⟩, k⟩
def rIntT : List V → Hp → VK → Prop := fun xs H Q => (∃ i, xs = [.int i] ∧ Q (.int i) H) ∨ ∃ k, xs = [.bl k] ∧ Q (.int (if k then 1 else 0)) H
theorem b_int {X : Cx} : CallR X (.type "int") rIntT := call_int1
theorem r_int {n : Int} (k : Q (.int n) H) : rIntT [.int n] H Q := .inl ⟨n, rfl, k⟩
def rMax2 : List V → Hp → VK → Prop := fun xs H Q => ∃ i j, xs = [.int i, .int j] ∧ Q (.int (if j > i then j else i)) H
def rMin2 : List V → Hp → VK → Prop := fun xs H Q => ∃ i j, xs = [.int i, .int j] ∧ Q (.int (if j < i then j else i)) H
theorem b_max2 {X : Cx} (hc : X.calm = true) : CallR X (.builtin "max") rMax2 := call_max2 hc
theorem b_min2 {X : Cx} (hc : X.calm = true) : CallR X (.builtin "min") rMin2 := call_min2 hc
theorem r_max2 {a b : Int} (k : Q (.int (max a b)) H) : rMax2 [.int a, .int b] H Q := ⟨a, b, rfl, by
  rw [show (if b > a then b else a) = max a b by omega]
  exact k⟩
theorem r_min2 {a b : Int} (k : Q (.int (min a b)) H) : rMin2 [.int a, .int b] H Q := ⟨a, b, rfl, by
  rw [show (if b < a then b else a) = min a b by omega]
  exact k⟩
def rListOf (K : PySem.W.Frag) : List V → Hp → VK → Prop := fun xs H Q => ∃ p ys, xs = [.ref p] ∧ (SqL K H p ys ∨ SqT K H p ys) ∧ ∀ l, H l = none → Q (.ref l) (upd H l (.lst ys))
theorem b_list {X : Cx} : CallR X (.type "list") (rListOf X.K) := call_list_of
theorem n_listL {p : Addr} {xs : List V} (h : H p = some (.lst xs)) (k : ∀ q H', H q = none → Same H H' → H' q = some (.lst xs) → Q (.ref q) H') : rListOf K [.ref p] H Q := ⟨p, xs, rfl, .inl (SqL.of h), n_new k⟩
theorem n_listT {p : Addr} {xs : List V} (h : H p = some (.tup xs)) (k : ∀ q H', H q = none → Same H H' → H' q = some (.lst xs) → Q (.ref q) H') : rListOf K [.ref p] H Q := ⟨p, xs, rfl, .inr (SqT.of h), n_new k⟩
def rTupOf (K : PySem.W.Frag) : List V → Hp → VK → Prop := fun xs H Q => ∃ p ys, xs = [.ref p] ∧ ((SqL K H p ys ∧ ∀ l, H l = none → Q (.ref l) (upd H l (.tup ys))) ∨ (SqT K H p ys ∧ Q (.ref p) H))
theorem b_tuple {X : Cx} : CallR X (.type "tuple") (rTupOf X.K) := call_tuple_of
theorem n_tupL {p : Addr} {xs : List V} (h : H p = some (.lst xs)) (k : ∀ q H', H q = none → Same H H' → H' q = some (.tup xs) → Q (.ref q) H') : rTupOf K [.ref p] H Q := ⟨p, xs, rfl, .inl ⟨SqL.of h, n_new k⟩⟩
/-! ### methods of lists -/
def rApp (l : Addr) (y : V) (H : Hp) (Q : VK) : Prop := ∃ xs, H l = some (.lst xs) ∧ xs.length < sizeLine ∧ Q .non (upd H l (.lst (xs ++ [y])))
theorem r_app {l : Addr} {xs : List V} (hv : σ[i]? = some (some (.ref l))) (h : H l = some (.lst xs)) (k : te σ H fun y H1 => rApp l y H1 Q) : tBM K "list" rAppend (tVar i) (tCons te tNil) σ H Q := by
  refine ⟨_, hv, .inl ⟨rfl, _, SqL.of h⟩, ?_⟩
  have e : (fun y H1 => rApp l y H1 Q) = fun y H1 => tNil σ H1 fun xs H2 => rAppend (.ref l) (y :: xs) H2 Q := by
    funext y H1
    refine propext ⟨fun ⟨xs, h1, h2, h3⟩ => ⟨l, xs, y, rfl, rfl, h1, h2, h3⟩, fun ⟨l', xs, y', e1, e2, h1, h2, h3⟩ => ?_⟩
    cases e1
    cases e2
    exact ⟨xs, h1, h2, h3⟩
  rw [e] at k
  exact k
theorem n_app {l : Addr} {xs : List V} (h : H l = some (.lst xs)) (hl : xs.length < sizeLine) (k : ∀ H', Kp l H H' → H' l = some (.lst (xs ++ [y])) → Q .non H') : rApp l y H Q := ⟨xs, h, hl, k _ (Kp.upd l H _) upd_same⟩
/-! ### fields -/
theorem r_fld {f : Str} (k : ta σ H fun x H1 => ∃ a C dx fs v, x = .ref a ∧ H1 a = some (.ins C dx fs) ∧ Cls K C ∧ NoAttr K C f ∧ fs.lookup f = some v ∧ Q v H1) : tFld K ta f σ H Q := k
theorem r_fat {a C dx : Addr} {fs : List (Str × V)} {f : Str} {P : V → Prop} (h : H a = some (.ins C dx fs)) (c : Cls K C) (n : NoAttr K C f) (l : fs.lookup f = some v) (k : P v) :
    ∃ a' C dx fs w, V.ref a = .ref a' ∧ H a' = some (.ins C dx fs) ∧ Cls K C ∧ NoAttr K C f ∧ fs.lookup f = some w ∧ P w := ⟨a, C, dx, fs, v, rfl, h, c, n, l, k⟩
/-! ### loops -/
/-- for x in a list -/
def rForL (K : PySem.W.Frag) (g : TG) (tb : TS) (D : Ends) (σ : St) (x : V) (H : Hp) : Prop := ∃ a, x = .ref a ∧ (∃ xs, SqL K H a xs) ∧ ∃ W : Nat → Nat → St → Hp → Prop, (∃ m, W 0 m σ H) ∧ ∀ i m σ H, W i m σ H →
  ((Itl K a).stop i H ∧ D.nx σ H) ∨ ((Itl K a).go i H ∧ ∃ N : St → Hp → Prop, (∀ σ' H', N σ' H' → ∃ m', m' < m ∧ W (i + 1) m' σ' H') ∧ ∀ x H', (Itl K a).yld i H x H' → g x σ H' fun σ2 H2 => tb { D with nx := N, ct := N, bk := D.nx } σ2 H2)
theorem r_forL {tb : TS} (k : te σ H fun x H1 => rForL K g tb D σ x H1) : tFor (iList K te) g tb D σ H := k
theorem n_forL {p : Addr} {xs : List V} {tb : TS} (Pv : Nat → St → Hp → Prop) (hx : H p = some (.lst xs)) (h0 : Pv 0 σ H) (hl : ∀ i σ H, i ≤ xs.length → Pv i σ H → SqL K H p xs)
    (hs : ∀ i x σ H, xs[i]? = some x → Pv i σ H → g x σ H fun σ2 H2 => tb ⟨Pv (i + 1), b, a, Pv (i + 1)⟩ σ2 H2) (hd : ∀ σ H, Pv xs.length σ H → a σ H)  : rForL K g tb ⟨a, b, c, d⟩ σ (.ref p) H :=
  ⟨p, rfl, ⟨xs, SqL.of hx⟩, for_list (K := K) (a := p) (xs := xs) Pv h0 hl hs hd⟩
theorem n_forSL {p : Addr} {xs : List V} {tb : TS} (Pv : Nat → St → Hp → Prop) (hx : SqL K H p xs) (h0 : Pv 0 σ H) (hl : ∀ i σ H, i ≤ xs.length → Pv i σ H → SqL K H p xs)
    (hs : ∀ i x σ H, xs[i]? = some x → Pv i σ H → g x σ H fun σ2 H2 => tb ⟨Pv (i + 1), b, a, Pv (i + 1)⟩ σ2 H2) (hd : ∀ σ H, Pv xs.length σ H → a σ H)  : rForL K g tb ⟨a, b, c, d⟩ σ (.ref p) H :=
  ⟨p, rfl, ⟨xs, hx⟩, for_list (K := K) (a := p) (xs := xs) Pv h0 hl hs hd⟩
/-- for x in a tuple -/
def rForT (K : PySem.W.Frag) (g : TG) (tb : TS) (D : Ends) (σ : St) (x : V) (H : Hp) : Prop := ∃ a, x = .ref a ∧ (∃ xs, SqT K H a xs) ∧ ∃ W : Nat → Nat → St → Hp → Prop, (∃ m, W 0 m σ H) ∧ ∀ i m σ H, W i m σ H →
  ((Itt K a).stop i H ∧ D.nx σ H) ∨ ((Itt K a).go i H ∧ ∃ N : St → Hp → Prop, (∀ σ' H', N σ' H' → ∃ m', m' < m ∧ W (i + 1) m' σ' H') ∧ ∀ x H', (Itt K a).yld i H x H' → g x σ H' fun σ2 H2 => tb { D with nx := N, ct := N, bk := D.nx } σ2 H2)
theorem r_forT {tb : TS} (k : te σ H fun x H1 => rForT K g tb D σ x H1) : tFor (iTup K te) g tb D σ H := k
theorem n_forT {p : Addr} {xs : List V} {tb : TS} (Pv : Nat → St → Hp → Prop) (hx : H p = some (.tup xs)) (h0 : Pv 0 σ H) (hl : ∀ i σ H, i ≤ xs.length → Pv i σ H → H p = some (.tup xs))
    (hs : ∀ i x σ H, xs[i]? = some x → Pv i σ H → g x σ H fun σ2 H2 => tb ⟨Pv (i + 1), b, a, Pv (i + 1)⟩ σ2 H2) (hd : ∀ σ H, Pv xs.length σ H → a σ H)  : rForT K g tb ⟨a, b, c, d⟩ σ (.ref p) H :=
  ⟨p, rfl, ⟨xs, SqT.of hx⟩, for_tup (K := K) (a := p) (xs := xs) Pv h0 (fun i σ H hi p => SqT.of (hl i σ H hi p)) hs hd⟩
/-- for x in range(n), range(a, b) -/
def rForR (g : TG) (tb : TS) (D : Ends) (σ : St) (vs : List V) (H : Hp) : Prop := ∃ j : Int, vs = [.int j] ∧ -(2 ^ 62) ≤ j ∧ j < 2 ^ 62 ∧ ∃ W : Nat → Nat → St → Hp → Prop, (∃ m, W 0 m σ H) ∧ ∀ i m σ H, W i m σ H →
  ((Itr 0 j.toNat).stop i H ∧ D.nx σ H) ∨ ((Itr 0 j.toNat).go i H ∧ ∃ N : St → Hp → Prop, (∀ σ' H', N σ' H' → ∃ m', m' < m ∧ W (i + 1) m' σ' H') ∧ ∀ x H', (Itr 0 j.toNat).yld i H x H' → g x σ H' fun σ2 H2 => tb { D with nx := N, ct := N, bk := D.nx } σ2 H2)
theorem r_forR {tb : TS} {ta : TA} (k : ta σ H fun vs H1 => rForR g tb D σ vs H1) : tFor (iRng1 ta) g tb D σ H := k
theorem n_forR {n : Int} {tb : TS} (Pv : Nat → St → Hp → Prop) (hn : -(2 ^ 62) ≤ n ∧ n < 2 ^ 62) (h0 : Pv 0 σ H)
    (hs : ∀ i σ H, i < n.toNat → Pv i σ H → g (.int i) σ H fun σ2 H2 => tb ⟨Pv (i + 1), b, a, Pv (i + 1)⟩ σ2 H2) (hd : ∀ σ H, Pv n.toNat σ H → a σ H) : rForR g tb ⟨a, b, c, d⟩ σ [.int n] H :=
  ⟨n, rfl, hn.1, hn.2, for_range (lo := 0) (n := n.toNat) Pv h0 (fun i σ H hi p => by rw [Int.zero_add]; exact hs i σ H hi p) hd⟩
def rForR2 (g : TG) (tb : TS) (D : Ends) (σ : St) (vs : List V) (H : Hp) : Prop := ∃ i j : Int, vs = [.int i, .int j] ∧ (-(2 ^ 62) ≤ i ∧ i < 2 ^ 62 ∧ -(2 ^ 62) ≤ j ∧ j < 2 ^ 62) ∧ ∃ W : Nat → Nat → St → Hp → Prop, (∃ m, W 0 m σ H) ∧ ∀ k m σ H, W k m σ H →
  ((Itr i (j - i).toNat).stop k H ∧ D.nx σ H) ∨ ((Itr i (j - i).toNat).go k H ∧ ∃ N : St → Hp → Prop, (∀ σ' H', N σ' H' → ∃ m', m' < m ∧ W (k + 1) m' σ' H') ∧ ∀ x H', (Itr i (j - i).toNat).yld k H x H' → g x σ H' fun σ2 H2 => tb { D with nx := N, ct := N, bk := D.nx } σ2 H2)
theorem r_forR2 {tb : TS} {ta : TA} (k : ta σ H fun vs H1 => rForR2 g tb D σ vs H1) : tFor (iRng2 ta) g tb D σ H := k
theorem n_forR2 {lo n : Int} {tb : TS} (Pv : Nat → St → Hp → Prop) (hn : -(2 ^ 62) ≤ lo ∧ lo < 2 ^ 62 ∧ -(2 ^ 62) ≤ n ∧ n < 2 ^ 62) (h0 : Pv 0 σ H)
    (hs : ∀ i σ H, i < (n - lo).toNat → Pv i σ H → g (.int (lo + i)) σ H fun σ2 H2 => tb ⟨Pv (i + 1), b, a, Pv (i + 1)⟩ σ2 H2) (hd : ∀ σ H, Pv (n - lo).toNat σ H → a σ H) : rForR2 g tb ⟨a, b, c, d⟩ σ [.int lo, .int n] H :=
  ⟨lo, n, rfl, hn, for_range (lo := lo) (n := (n - lo).toNat) Pv h0 hs hd⟩
/-- while: what the test's answer asks; P: what must hold ahead of the next turn -/
def rWb (P : St → Hp → Prop) (tb : TS) (D : Ends) (σ : St) (b : Bool) (H : Hp) : Prop := if b = true then ∃ N : St → Hp → Prop, (∀ σ' H', N σ' H' → P σ' H') ∧ tb { D with nx := N, ct := N, bk := D.nx } σ H else D.nx σ H
theorem n_while {tb : TS} (Pv : Nat → St → Hp → Prop) (m0 : Nat) (h0 : Pv m0 σ H) (hs : ∀ m σ H, Pv m σ H → tt σ H (rWb (fun σ' H' => ∃ m', m' < m ∧ Pv m' σ' H') tb D σ)) : tWhile tt tb D σ H := ⟨Pv, ⟨m0, h0⟩, hs⟩
theorem w_t {P : St → Hp → Prop} {tb : TS} (k : tb ⟨P, b, a, P⟩ σ H) : rWb P tb ⟨a, b, c, d⟩ σ true H := iteT ⟨P, fun _ _ h => h, k⟩
theorem w_f {P : St → Hp → Prop} {tb : TS} (k : a σ H) : rWb P tb ⟨a, b, c, d⟩ σ false H := iteF k
theorem w_d {P : St → Hp → Prop} {tb : TS} {q : Prop} [Decidable q] (k1 : q → tb ⟨P, b, a, P⟩ σ H) (k0 : ¬ q → a σ H) : rWb P tb ⟨a, b, c, d⟩ σ (decide q) H := by
  by_cases h : q
  · rw [decide_eq_true h]
    exact w_t (k1 h)
  · rw [decide_eq_false h]
    exact w_f (k0 h)
end
end Bf
namespace Bf
open PySem L2
theorem same_kp {q : Addr} {H H1 H2 : Hp} (n : H q = none) (s : Same H H1) (k : Kp q H1 H2) : Same H H2 := fun b o e => k b o (ne_of_none e n) (s b o e)
theorem map_at {α : Type} {f : α → V} {l : List α} {i : Nat} {x : V} (h : (l.map f)[i]? = some x) : ∃ y, l[i]? = some y ∧ x = f y := by
  rw [List.getElem?_map] at h
  cases e : l[i]? with
  | none => rw [e] at h; cases h
  | some y => rw [e] at h; exact ⟨y, rfl, (Option.some.inj h).symm⟩
theorem take_snoc {α : Type} {l : List α} {i : Nat} {x : α} (h : l[i]? = some x) : l.take (i + 1) = l.take i ++ [x] := by
  rw [List.take_add_one, h]
  rfl
theorem foldl_take {α β : Type} (f : β → α → β) (b : β) {l : List α} {i : Nat} {x : α} (h : l[i]? = some x) : (l.take (i + 1)).foldl f b = f ((l.take i).foldl f b) x := by
  rw [take_snoc h, List.foldl_append]
  rfl
theorem range_at {n i : Nat} (h : i < n) : (List.range n)[i]? = some i := by simp [h]
theorem sql_same {K : PySem.W.Frag} {H H' : Hp} {a : Addr} {xs : List V} (h : SqL K H a xs) (s : Same H H') : SqL K H' a xs :=
  h.elim (fun h => .inl (h.elim (fun h => .inl (s _ _ h)) fun ⟨o, h⟩ => .inr ⟨o, s _ _ h⟩)) fun h => .inr h
end Bf
/-! rules of our own: zip of a tuple and a list; -o, len(o) of an own instance -/
namespace Bf
open PySem L2
/-- the tuple at a and the list at b, of one length, the items in new pairs -/
def ItzM (K : PySem.W.Frag) (a b : Addr) : It :=
  ⟨fun i H => ∃ (xs ys : List V) (x y : V), SqT K H a xs ∧ SqL K H b ys ∧ xs[i]? = some x ∧ ys[i]? = some y,
    fun i H v H' => ∃ T x y, v = .ref T ∧ H T = none ∧ H' = upd H T (.tup [x, y]) ∧ (∀ xs, SqT K H a xs → xs[i]? = some x) ∧ ∀ ys, SqL K H b ys → ys[i]? = some y,
    fun i H => ∃ xs ys : List V, SqT K H a xs ∧ SqL K H b ys ∧ i = xs.length ∧ i = ys.length⟩
theorem sep_of {z TI TO i1 i2 a b : Addr} (D : ZipApart z TI TO i1 i2 a b) : ZipSep2 z TI TO i1 i2 [i1, a] [i2, b] :=
  { TIz := D.TIz, TOz := D.TOz, TITO := D.TITO, TIi1 := D.TIi1, mem1 := by simp,
    zf1 := fun h => by
      rcases List.mem_cons.mp h with e | h
      · exact D.i1z e.symm
      · exact D.l1z (List.mem_singleton.mp h).symm,
    Tf1 := fun h => by
      rcases List.mem_cons.mp h with e | h
      · exact D.TOi1 e
      · exact D.l1TO (List.mem_singleton.mp h).symm,
    TIi2 := D.TIi2, mem2 := by simp,
    zf2 := fun h => by
      rcases List.mem_cons.mp h with e | h
      · exact D.i2z e.symm
      · exact D.l2z (List.mem_singleton.mp h).symm,
    Tf2 := fun h => by
      rcases List.mem_cons.mp h with e | h
      · exact D.TOi2 e
      · exact D.l2TO (List.mem_singleton.mp h).symm,
    sep1_2 := fun h => by
      rcases List.mem_cons.mp h with e | h
      · exact D.i12 e
      · exact D.l2i1 (List.mem_singleton.mp h).symm,
    sep2_1 := fun h => by
      rcases List.mem_cons.mp h with e | h
      · exact D.i12 e.symm
      · exact D.l1i2 (List.mem_singleton.mp h).symm }
theorem turn_zipM {P : Program} {w : World} {K : PySem.W.Frag} {elts : List Expr} {kk : Nat} {tpos : Pos} {a b z TI TO i1 i2 : Addr} (D : ZipApart z TI TO i1 i2 a b) :
    Turn P w K (.Tuple elts kk tpos) (ItzM K a b) [z, TI, TO, i1, i2] z (fun i h => IsZip h z TI TO .none ∧ IsPair h TI (.ref i1) (.ref i2) ∧ (∃ x y, IsPair h TO x y) ∧ h.IsTupleIter i1 a i ∧ h.IsListIter i2 b i) where
  mem := by simp
  obj := fun i h st c hc => by
    obtain ⟨hz, hTI, ⟨x, y, hTO⟩, ⟨o1, e1, _, d1⟩, ⟨o2, e2, _, d2⟩⟩ := st
    have e' : c = z ∨ c = TI ∨ c = TO ∨ c = i1 ∨ c = i2 := by simpa using hc
    rcases e' with q | q | q | q | q
    · rw [q]; exact ⟨_, hz, fun v q => nomatch q⟩
    · rw [q]; exact ⟨_, hTI, fun v q => nomatch q⟩
    · rw [q]; exact ⟨_, hTO, fun v q => nomatch q⟩
    · rw [q]; exact ⟨o1, e1, fun v q => by rw [d1] at q; cases q⟩
    · rw [q]; exact ⟨o2, e2, fun v q => by rw [d2] at q; cases q⟩
  keep := fun i h h' st k => by
    obtain ⟨hz, hTI, ⟨x, y, hTO⟩, h1, h2⟩ := st
    exact ⟨k z (by simp) _ hz, k TI (by simp) _ hTI, ⟨x, y, k TO (by simp) _ hTO⟩, h1.at fun o q => k i1 (by simp) o q, h2.at fun o q => k i2 (by simp) o q⟩
  item := by
    intro X hP hw hK hc i pins s σ H E I hf st hg
    subst hP hw hK
    obtain ⟨hz, hTI, ⟨x0, y0, hTO⟩, h1, h2⟩ := st
    obtain ⟨xs, ys, x, y, hqx, hqy, hx, hy⟩ := hg
    obtain ⟨its, rv, p, _⟩ := I.tuple hqx
    obtain ⟨its2, rv2, p2, _⟩ := I.list hqy
    obtain ⟨u, hu, ru⟩ := rv.get hx
    obtain ⟨u2, hu2, ru2⟩ := rv2.get hy
    have hzl : z < s.heap.objs.size := Heap.lt_size hz
    have hh : X.A.in1.handled = none := I.ok.hd hc
    have D1 := Draws.tuple (prog := X.prog) (w := X.w) hh i1 a D.l1i1 its.toArray
    have D2 := Draws.list (prog := X.prog) (w := X.w) hh i2 b D.l2i2 its2.toArray
    have lt1 : i < its.toArray.size := by simpa using (List.getElem?_eq_some_iff.mp hu).1
    have lt2 : i < its2.toArray.size := by simpa using (List.getElem?_eq_some_iff.mp hu2).1
    refine wpAny_pyNext_zipD2_item (sep_of D) D1 D2 hz hTI hTO ⟨h1, p⟩ ⟨h2, p2.isList⟩ lt1 lt2 fun w1 w2 h' tk e1 e2 z' TO' g1 g2 hT hsz hk => ?_
    obtain rfl : u = w1 := by
      have q : its.toArray[i]? = some u := by simpa using hu
      rw [q] at e1
      exact Option.some.inj e1
    obtain rfl : u2 = w2 := by
      have q : its2.toArray[i]? = some u2 := by simpa using hu2
      rw [q] at e2
      exact Option.some.inj e2
    have h1' := g1.1
    have h2' := g2.1
    refine ⟨_, rfl, wpAny_letOwnedTupleGo_zip (s := { s with heap := h', toks := tk }) z' fun h'' z'' sb => ?_⟩
    have hT2 : h''.get? s.heap.objs.size = some { cls := .type "tuple", data := .seq #[u, u2] } := (sb.2 _ (Nat.ne_of_gt hzl)).trans hT
    have new : ObjOk X.prog X.w (upd H s.heap.objs.size (.tup [x, y])) h'' s.heap.objs.size (.tup [x, y]) :=
      ⟨by show 2 ≤ sizeLine; decide, [u, u2], .cons ru (.cons ru2 .nil), ⟨_, hT2, rfl, _, rfl⟩⟩
    have I1 : Inv X pins σ (upd H s.heap.objs.size (.tup [x, y])) { s with heap := h'', toks := tk } :=
      I.turnedNew (t' := tk) (ch := [z, TI, TO, i1, i2]) (fun c o hb q => (sb.2 c (fun q' => hb (by simp [q']))).trans (hk c o (fun q' => hb (by simp [q'])) (fun q' => hb (by simp [q'])) (fun q' => hb (by simp [q'])) (fun q' => hb (by simp [q'])) q)) hf (Nat.le_refl _) new
    refine ⟨.ref s.heap.objs.size, _, I1, rfl, ⟨_, x, y, rfl, I.hok.fresh (Nat.le_refl _), rfl, fun l hl => by rw [I.tuple_inj hl hqx]; exact hx, fun l hl => by rw [I.list_inj hl hqy]; exact hy⟩, ⟨z'', ?_, ⟨u, u2, ?_⟩, ?_, ?_⟩, fun c hcm => ?_⟩
    · exact (sb.2 _ D.TIz).trans (hk _ _ D.TIz D.TITO D.TIi1 D.TIi2 hTI)
    · exact (sb.2 _ D.TOz).trans TO'
    · exact h1'.at fun o q => (sb.2 _ D.i1z).trans q
    · exact h2'.at fun o q => (sb.2 _ D.i2z).trans q
    · have hlt : c < s.heap.objs.size := by
        have e' : c = z ∨ c = TI ∨ c = TO ∨ c = i1 ∨ c = i2 := by simpa using hcm
        rcases e' with q | q | q | q | q
        · rw [q]; exact hzl
        · rw [q]; exact Heap.lt_size hTI
        · rw [q]; exact Heap.lt_size hTO
        · rw [q]; obtain ⟨_, e1, _⟩ := h1; exact Heap.lt_size e1
        · rw [q]; obtain ⟨_, e2, _⟩ := h2; exact Heap.lt_size e2
      rw [upd_ne (Nat.ne_of_lt hlt)]
      exact (hf c hcm).1
  done := by
    intro X hP hw hK hc i pins s σ H E I hf st hg
    subst hP hw hK
    obtain ⟨hz, hTI, ⟨x0, y0, hTO⟩, h1, h2⟩ := st
    obtain ⟨xs, ys, hqx, hqy, e1, e2⟩ := hg
    obtain ⟨its, rv, p, _⟩ := I.tuple hqx
    obtain ⟨its2, rv2, p2, _⟩ := I.list hqy
    have l1 := rv.length
    have l2 := rv2.length
    have hh : X.A.in1.handled = none := I.ok.hd hc
    have D1 := Draws.tuple (prog := X.prog) (w := X.w) hh i1 a D.l1i1 its.toArray
    have D2 := Draws.list (prog := X.prog) (w := X.w) hh i2 b D.l2i2 its2.toArray
    refine wpAny_pyNext_zipD2_end (sep_of D) D1 D2 hz hTI hTO ⟨h1, p⟩ ⟨h2, p2.isList⟩ (by simp; omega) (by simp; omega) (.inl (by simp; omega)) fun h' tk hk => ⟨rfl, I.turnedL (t' := tk) (ch := [z, TI, TO, i1, i2]) (fun c o hb q =>
      hk c o (fun q' => hb (by simp [q'])) (fun q' => hb (by simp [q'])) (fun q' => hb (by simp [q'])) (fun q' => hb (by simp [q'])) q) hf⟩
  self := fun A i s Q E st h => wpAny_pyIter_zip st.1 h
def iZipM (K : PySem.W.Frag) (ta : TA) : TI := fun σ H R => ta σ H fun vs H1 => ∃ a b xs ys, vs = [.ref a, .ref b] ∧ SqT K H1 a xs ∧ SqL K H1 b ys ∧ R (ItzM K a b) H1
theorem pi_zipTL {X : Cx} {e e2 : Expr} {ta : TA} {p pos tpos : Pos} {elts : List Expr} {kk : Nat} (hg : Gl X "zip") (hm : X.mg "zip" = none) (ha : PA X [e, e2] ta)
    (hs : starEach [e, e2] X.env = (false, eval e X.env) :: starEach [e2] X.env := by rfl) (hpl : (backTo pos (starEach [e2] X.env)).any (·.1) = false := by rfl) :
    PI X (.Tuple elts kk tpos) (.Call (.Name "zip" p) [e, e2] [] pos) (iZipM X.K ta) := by
  refine ⟨fun pins s σ H R I h => ?_⟩
  refine PyProof.Rows.Call_ (ld_blt I hg hm PyProof.Rows.boot_zip (PyProof.Rows.callWith_type1 (thn (ha.run pos pins s σ H _ I h) fun us s1 ⟨vs, H1, I1, r1, q1⟩ => ?_) hs hpl))
  obtain ⟨a, b, xs, ys, ex, hqx, hqy, q⟩ := q1
  subst ex
  cases r1 with
  | cons r rr =>
    cases rr with
    | cons r' rr =>
      cases rr
      cases r
      cases r'
      obtain ⟨its, rv, p1, _⟩ := I1.tuple hqx
      obtain ⟨its2, rv2, p2, _⟩ := I1.list hqy
      obtain ⟨o1, ho1, _⟩ := id p1
      have la : a < s1.heap.objs.size := Heap.lt_size ho1
      have lb : b < s1.heap.objs.size := p2.lt
      refine zip_begins2 (begins_tuple a its.toArray) (begins_list b its2.toArray) p1 p2.isList fun h' hz hTI hTO h1 h2 hsz hk => wpAny_pyIter_zip hz ?_
      have I2 : Inv X pins σ H1 { s1 with heap := h' } := I1.kept (t' := s1.toks) hk
      refine ⟨s1.heap.objs.size + 4, [s1.heap.objs.size + 4, s1.heap.objs.size + 2, s1.heap.objs.size + 3, s1.heap.objs.size, s1.heap.objs.size + 1], _, _, H1, rfl, I2, turn_zipM (PySem.W.ktu_apart s1.heap.objs.size a b la lb), ⟨hz, hTI, ⟨_, _, hTO⟩, ⟨_, h1, rfl, rfl⟩, ⟨_, h2, rfl, rfl⟩⟩, fun c hcm => ?_, q⟩
      have e' : c = s1.heap.objs.size + 4 ∨ c = s1.heap.objs.size + 2 ∨ c = s1.heap.objs.size + 3 ∨ c = s1.heap.objs.size ∨ c = s1.heap.objs.size + 1 := by simpa using hcm
      have hle : s1.heap.objs.size ≤ c := by
        rcases e' with z | z | z | z | z
        · rw [z]; exact Nat.le_add_right _ _
        · rw [z]; exact Nat.le_add_right _ _
        · rw [z]; exact Nat.le_add_right _ _
        · rw [z]; exact Nat.le_refl _
        · rw [z]; exact Nat.le_add_right _ _
      exact I1.fpOk hle (I1.hok.fresh hle)
/-- the loop's reading -/
def rForZ (K : PySem.W.Frag) (g : TG) (tb : TS) (D : Ends) (σ : St) (vs : List V) (H : Hp) : Prop := ∃ a b xs ys, vs = [.ref a, .ref b] ∧ SqT K H a xs ∧ SqL K H b ys ∧ ∃ W : Nat → Nat → St → Hp → Prop, (∃ m, W 0 m σ H) ∧ ∀ i m σ H, W i m σ H →
  ((ItzM K a b).stop i H ∧ D.nx σ H) ∨ ((ItzM K a b).go i H ∧ ∃ N : St → Hp → Prop, (∀ σ' H', N σ' H' → ∃ m', m' < m ∧ W (i + 1) m' σ' H') ∧ ∀ x H', (ItzM K a b).yld i H x H' → g x σ H' fun σ2 H2 => tb { D with nx := N, ct := N, bk := D.nx } σ2 H2)
section
variable {K : PySem.W.Frag} {σ : St} {H : Hp} {D : Ends} {tb : TS} {ta : TA} {g : TG} {a c d : St → Hp → Prop} {b : VK}
theorem r_forZ (k : ta σ H fun vs H1 => rForZ K g tb D σ vs H1) : tFor (iZipM K ta) g tb D σ H := k
theorem n_forZ {p q : Addr} {xs ys : List V} (Pv : Nat → St → Hp → Prop) (hp : H p = some (.tup xs)) (hq : H q = some (.lst ys)) (hl : xs.length = ys.length) (h0 : Pv 0 σ H) (hk : ∀ i σ H, Pv i σ H → H p = some (.tup xs) ∧ H q = some (.lst ys))
    (hs : ∀ (i : Nat) x y T σ H H', xs[i]? = some x → ys[i]? = some y → Pv i σ H → H T = none → Same H H' → H' T = some (.tup [x, y]) → g (.ref T) σ H' fun σ2 H2 => tb ⟨Pv (i + 1), b, a, Pv (i + 1)⟩ σ2 H2) (hd : ∀ σ H, Pv xs.length σ H → a σ H) : rForZ K g tb ⟨a, b, c, d⟩ σ [.ref p, .ref q] H := by
  refine ⟨p, q, xs, ys, rfl, SqT.of hp, SqL.of hq, fun i m σ H => m = xs.length - i ∧ i ≤ xs.length ∧ Pv i σ H, ⟨xs.length, rfl, Nat.zero_le _, h0⟩, ?_⟩
  rintro i m σ H ⟨rfl, hi, v⟩
  obtain ⟨k1, k2⟩ := hk i σ H v
  by_cases hlt : i < xs.length
  · have hx : xs[i]? = some xs[i] := List.getElem?_eq_getElem hlt
    have hlt2 : i < ys.length := by omega
    have hy : ys[i]? = some ys[i] := List.getElem?_eq_getElem hlt2
    refine .inr ⟨⟨xs, ys, xs[i], ys[i], SqT.of k1, SqL.of k2, hx, hy⟩, Pv (i + 1), fun σ' H' v' => ⟨xs.length - (i + 1), by omega, rfl, hlt, v'⟩, fun x H' y => ?_⟩
    obtain ⟨T, x', y', rfl, nT, rfl, e1, e2⟩ := y
    have f1 := e1 xs (SqT.of k1)
    have f2 := e2 ys (SqL.of k2)
    exact hs i x' y' T σ H _ f1 f2 v nT (same_new nT) upd_same
  · have e : i = xs.length := by omega
    subst e
    exact .inl ⟨⟨xs, ys, SqT.of k1, SqL.of k2, rfl, hl⟩, hd σ H v⟩
end
/-! ### -o and len(o) -/
section
variable {X : Cx} {k : Nat} {C : Addr} {sp : Sp}
def rNegO (C : Addr) (sp : Sp) : V → Hp → VK → Prop := fun x H Q => ∃ a dx fs, x = .ref a ∧ H a = some (.ins C dx fs) ∧ sp [.ref a] H Q E0
theorem un_own (c : C8.Met X.prog X.w X.K X.mg X.base k C "__neg__" sp []) {j : Nat} (hr : Room j X.A) (hk : k ≤ j) : UnR X (unaryOp .USub) (rNegO C sp) := by
  intro pins s σ H x v Q I rx h
  obtain ⟨a, dx, fs, rfl, ha, q⟩ := h
  obtain ⟨f, fd, ps, ds, hc, hm, F, b, d⟩ := c.ex
  cases (show v = Value.ref a from rx)
  obtain ⟨mA, O, _⟩ := ins_get I.hok ha
  obtain ⟨od, J, _⟩ := O.look
  obtain ⟨m, hF⟩ := I.fr
  refine PySem.W.ksp_neg hF I.ok.mod.kin J hm.at_ hm.fn ?_
  exact run_fn (us := [.ref a]) (vs := [.ref a]) F (hr.mono hk) b d pass0 I (.cons rfl .nil) q
def rLenO (C : Addr) (sp : Sp) : List V → Hp → VK → Prop := fun xs H Q => ∃ a dx fs, xs = [.ref a] ∧ H a = some (.ins C dx fs) ∧ sp [.ref a] H (fun v H' => ∃ n : Int, v = .int n ∧ (0 ≤ n ∧ n < 2 ^ 63) ∧ Q (.int n) H') E0
theorem call_lenO (c : C8.Met X.prog X.w X.K X.mg X.base k C "__len__" sp []) {j : Nat} (hr : Room j X.A) (hk : k + 1 ≤ j) : CallR X (.builtin "len") (rLenO C sp) := by
  intro pins s σ H xs us Q I r h
  obtain ⟨a, dx, fs, rfl, ha, q⟩ := h
  obtain ⟨f, fd, ps, ds, hc, hm, F, b, d⟩ := c.ex
  obtain ⟨u, rfl, ru⟩ := r.one
  cases (show u = Value.ref a from ru)
  obtain ⟨mA, O, _⟩ := ins_get I.hok ha
  obtain ⟨od, J, _⟩ := O.look
  obtain ⟨m, hF⟩ := I.fr
  refine PySem.W.len_K hF I.ok.mod.kin J hm.at_ hm.fn ?_
  have hr1 : Room k X.A.in1 := Room.in1 (hr.mono hk)
  have r2 : Vals ([V.ref a] ++ []) ([Value.ref a] ++ ds) := (show Vals [V.ref a] [Value.ref a] from .cons rfl .nil).append d
  have hl : ([Value.ref a] ++ ds).length = ps.length := by rw [← r2.length]; exact F.len _ _ _ _ q
  refine wpAny_call (codeAny_mono (F.run X.A.in1 X.stack s H ⟨[Value.ref a], []⟩ ([Value.ref a] ++ ds) ([V.ref a] ++ []) _ E0 hr1 I.env0.in1 (b s [Value.ref a] I.kIn hl) r2 q) fun r s' hq => ?_)
  cases r with
  | error e => exact pass0 pins σ H s e s' I hq
  | ok fl =>
    cases fl with
    | ret u =>
      obtain ⟨v, H', I', rv, n, e, hn, qn⟩ := I.after hq
      subst e
      obtain ⟨t, e⟩ := (show ∃ t, u = Value.int n t from rv)
      subst e
      exact ⟨hn, .int n, H', I'.tok _, ⟨_, rfl⟩, qn⟩
    | next => exact False.elim hq
    | brk => exact False.elim hq
    | cont => exact False.elim hq
end
end Bf
/-! reading lemmas, second part: slices, fields, methods, comprehensions -/
namespace Bf
open PySem L2
section
variable {K : PySem.W.Frag} {σ : St} {H H1 : Hp} {D : Ends} {t u : TS} {te ta tb tc tv : TE} {ts : TA} {tt tu : TT} {g : TG} {gs : TGs} {v x y : V} {Q : VK} {R : Bool → Hp → Prop} {S : St → Hp → Prop} {i j : Nat} {a c d : St → Hp → Prop} {b : VK}
/-! ### slices, sums of lists and tuples -/
theorem r_sl {r : V → Option Int → Option Int → Hp → VK → Prop} {tl th : TO} (k : te σ H fun x H1 => tl σ H1 fun l H2 => th σ H2 fun u H3 => r x l u H3 Q) : tSl r te tl th σ H Q := k
theorem r_nopart {R : Option Int → Hp → Prop} (k : R none H) : tNoPart σ H R := k
theorem r_part {R : Option Int → Hp → Prop} (k : te σ H fun x H1 => ∃ i, x = .int i ∧ R (some i) H1) : tPart te σ H R := k
theorem r_isint {P : Int → Prop} {n : Int} (k : P n) : ∃ i, V.int n = .int i ∧ P i := ⟨n, rfl, k⟩
theorem cut_to {xs : List V} {n : Int} (h : 0 ≤ n) : cutV xs none (some n) = xs.take n.toNat := by
  have e : n = ((n.toNat : Nat) : Int) := by omega
  unfold cutV
  rw [HT.sIx_none, List.drop_zero, Nat.sub_zero, e, HT.sIx_nat, Int.toNat_natCast]
  rcases Nat.le_total n.toNat xs.length with h1 | h1
  · rw [Nat.min_eq_left h1]
  · rw [Nat.min_eq_right h1, List.take_length, List.take_of_length_le h1]
theorem cut_from {xs : List V} {n : Int} (h : 0 ≤ n) : cutV xs (some n) none = xs.drop n.toNat := by
  have e : n = ((n.toNat : Nat) : Int) := by omega
  unfold cutV
  rw [HT.sIx_none, e, HT.sIx_nat, Int.toNat_natCast]
  rcases Nat.le_total n.toNat xs.length with h1 | h1
  · rw [Nat.min_eq_left h1, List.take_of_length_le (by rw [List.length_drop]; exact Nat.le_refl _)]
  · rw [Nat.min_eq_right h1, Nat.sub_self, List.take_zero, List.drop_eq_nil_of_le h1]
theorem n_slL {p : Addr} {xs ys : List V} {lo hi : Option Int} (h : H p = some (.lst xs)) (e : cutV xs lo hi = ys) (k : ∀ q H', H q = none → Same H H' → H' q = some (.lst ys) → Q (.ref q) H') : rSlL K (.ref p) lo hi H Q :=
  ⟨p, xs, rfl, SqL.of h, by subst e; exact n_new k⟩
theorem n_slT {p : Addr} {xs ys : List V} {lo hi : Option Int} (h : H p = some (.tup xs)) (w : ¬ (HT.sIx xs.length 0 lo = 0 ∧ HT.sIx xs.length xs.length hi = xs.length)) (e : cutV xs lo hi = ys) (k : ∀ q H', H q = none → Same H H' → H' q = some (.tup ys) → Q (.ref q) H') : rSlT K (.ref p) lo hi H Q :=
  ⟨p, xs, rfl, SqT.of h, w, by subst e; exact n_new k⟩
theorem n_catT {p q : Addr} {xs ys : List V} (h : H p = some (.tup xs)) (h2 : H q = some (.tup ys)) (e1 : xs ≠ []) (e2 : ys ≠ []) (hl : xs.length + ys.length ≤ sizeLine) (k : ∀ q H', H q = none → Same H H' → H' q = some (.tup (xs ++ ys)) → Q (.ref q) H') : rCatT K (.ref p) (.ref q) H Q :=
  ⟨p, q, xs, ys, rfl, rfl, SqT.of h, SqT.of h2, e1, hl, fun z => absurd z e2, fun _ => n_new k⟩
theorem n_cat {p q : Addr} {xs ys : List V} (h : H p = some (.lst xs)) (h2 : H q = some (.lst ys)) (hl : xs.length + ys.length ≤ sizeLine) (k : ∀ q H', H q = none → Same H H' → H' q = some (.lst (xs ++ ys)) → Q (.ref q) H') : rCat (.ref p) (.ref q) H Q :=
  ⟨p, q, xs, ys, rfl, rfl, h, h2, hl, n_new k⟩
def rRevL (K : PySem.W.Frag) (x : V) (H1 : Hp) (Q : VK) : Prop := ∃ a xs, x = .ref a ∧ SqL K H1 a xs ∧ ∀ p, H1 p = none → Q (.ref p) (upd H1 p (.lst xs.reverse))
theorem r_revL (k : te σ H fun x H1 => rRevL K x H1 Q) : tRevL K te σ H Q := k
theorem n_revL {p : Addr} {xs : List V} (h : H p = some (.lst xs)) (k : ∀ q H', H q = none → Same H H' → H' q = some (.lst xs.reverse) → Q (.ref q) H') : rRevL K (.ref p) H Q := ⟨p, xs, rfl, SqL.of h, n_new k⟩
/-! ### fields, methods, new instances -/
def rSFld (K : PySem.W.Frag) (f : Str) (D : Ends) (σ : St) (y x : V) (H2 : Hp) : Prop := ∃ a C dx fs, x = .ref a ∧ H2 a = some (.ins C dx fs) ∧ Cls K C ∧ NoAttr K C f ∧ fs.length < 1000 ∧ D.nx σ (upd H2 a (.ins C dx (putF f y fs)))
theorem r_sfld {f : Str} (k : tv σ H fun y H1 => ta σ H1 fun x H2 => rSFld K f ⟨a, b, c, d⟩ σ y x H2) : sFld K ta tv f ⟨a, b, c, d⟩ σ H := k
theorem n_sfld {p C dx : Addr} {fs : List (Str × V)} {f : Str} (h : H p = some (.ins C dx fs)) (k1 : Cls K C) (k2 : NoAttr K C f) (l : fs.length < 1000) (k : ∀ H', Kp p H H' → H' p = some (.ins C dx (putF f y fs)) → a σ H') : rSFld K f ⟨a, b, c, d⟩ σ y (.ref p) H :=
  ⟨p, C, dx, fs, rfl, h, k1, k2, l, k _ (Kp.upd p H _) upd_same⟩
def rMeth (C : Addr) (m : Str) (sp : Sp) (dvs : List V) (E : XK) (t : TA) (σ : St) (x : V) (H1 : Hp) (Q : VK) : Prop := ∃ a dx fs, x = .ref a ∧ H1 a = some (.ins C dx fs) ∧ fs.lookup m = none ∧ t σ H1 fun vs H2 => sp (x :: (vs ++ dvs)) H2 Q E
theorem r_meth {C : Addr} {m : Str} {sp : Sp} {dvs : List V} {E : XK} (k : ta σ H fun x H1 => rMeth C m sp dvs E ts σ x H1 Q) : tMeth C m sp dvs E ta ts σ H Q := k
theorem n_meth {C p dx : Addr} {m : Str} {sp : Sp} {dvs : List V} {E : XK} {fs : List (Str × V)} (h : H p = some (.ins C dx fs)) (l : fs.lookup m = none) (k : ts σ H fun vs H2 => sp (.ref p :: (vs ++ dvs)) H2 Q E) : rMeth C m sp dvs E ts σ (.ref p) H Q := ⟨p, dx, fs, rfl, h, l, k⟩
def rMake (C : Addr) (sp : Sp) (dvs : List V) (E : XK) (vs : List V) (H1 : Hp) (Q : VK) : Prop := ∀ x dx, H1 x = none → H1 dx = none → dx ≠ x → sp (.ref x :: (vs ++ dvs)) (upd (upd H1 dx (.own x)) x (.ins C dx [])) (fun v H2 => v = .non ∧ Q (.ref x) H2) E
theorem r_make {C : Addr} {sp : Sp} {dvs : List V} {E : XK} (k : ts σ H fun vs H1 => rMake C sp dvs E vs H1 Q) : tMake C sp dvs E ts σ H Q := k
theorem n_make {C : Addr} {sp : Sp} {dvs : List V} {E : XK} {vs : List V} (k : ∀ x dx H', H x = none → Same H H' → H' x = some (.ins C dx []) → sp (.ref x :: (vs ++ dvs)) H' (fun v H2 => v = .non ∧ Q (.ref x) H2) E) : rMake C sp dvs E vs H Q :=
  fun x dx nx nd hne => k x dx _ nx (fun p o e => by
    rw [upd_ne (ne_of_none e nx), upd_ne (ne_of_none e nd)]
    exact e) upd_same
/-! ### list comprehensions -/
/-- what an element's value is handed to -/
def rAcc (D : Addr) (N : Hp → Prop) : VK := fun y H4 => ∃ acc, H4 D = some (.lst acc) ∧ acc.length < sizeLine ∧ N (upd H4 D (.lst (acc ++ [y])))
theorem n_acc {D : Addr} {N : Hp → Prop} {acc : List V} (h : H D = some (.lst acc)) (l : acc.length < sizeLine) (k : ∀ H5, Kp D H H5 → H5 D = some (.lst (acc ++ [y])) → N H5) : rAcc D N y H := ⟨acc, h, l, k _ (Kp.upd D H _) upd_same⟩
/-- the loop, its source being J -/
def rLc (J : It) (g : TG) (tt : TT) (te : TE) (vs : List Nat) (σ : St) (H1 : Hp) (Q : VK) : Prop := ∀ D, H1 D = none → ∃ W : Nat → Nat → Hp → Prop, (∃ m, W 0 m (upd H1 D (.lst []))) ∧ ∀ i m H, W i m H →
  (J.stop i H ∧ Q (.ref D) H) ∨ (J.go i H ∧ ∃ Nx : Hp → Prop, (∀ H', Nx H' → ∃ m', m' < m ∧ W (i + 1) m' H') ∧ ∀ x H', J.yld i H x H' → g x (wipe σ vs) H' fun σ2 H2 => wipe σ2 vs = wipe σ vs ∧ tt σ2 H2 fun b H3 =>
    if b = true then te σ2 H3 (rAcc D Nx) else Nx H3)
/-- one turn -/
def rTurn (g : TG) (tt : TT) (te : TE) (vs : List Nat) (σ : St) (D : Addr) (N : Hp → Prop) (x : V) (H : Hp) : Prop := g x (wipe σ vs) H fun σ2 H2 => wipe σ2 vs = wipe σ vs ∧ tt σ2 H2 fun b H3 => if b = true then te σ2 H3 (rAcc D N) else N H3
theorem r_turn {vs : List Nat} {D : Addr} {N : Hp → Prop} (k : g x (wipe σ vs) H fun σ2 H2 => wipe σ2 vs = wipe σ vs ∧ tt σ2 H2 fun b H3 => if b = true then te σ2 H3 (rAcc D N) else N H3) : rTurn g tt te vs σ D N x H := k
theorem r_wipe {σ2 : St} {vs : List Nat} {P : Prop} (h : wipe σ2 vs = wipe σ vs) (k : P) : wipe σ2 vs = wipe σ vs ∧ P := ⟨h, k⟩
theorem r_yes (k : R true H) : tYes σ H R := k
def rLcL (K : PySem.W.Frag) (g : TG) (tt : TT) (te : TE) (vs : List Nat) (σ : St) (x : V) (H1 : Hp) (Q : VK) : Prop := ∃ a, x = .ref a ∧ (∃ xs, SqL K H1 a xs) ∧ rLc (Itl K a) g tt te vs σ H1 Q
theorem r_lcL {vs : List Nat} (k : ta σ H fun x H1 => rLcL K g tt te vs σ x H1 Q) : tLc (iList K ta) g tt te vs σ H Q := k
theorem n_lcL {p : Addr} {xs : List V} {vs : List Nat} (hx : H p = some (.lst xs))
    (k : ∀ D H0, H D = none → Same H H0 → H0 D = some (.lst []) → ∃ Pv : Nat → Hp → Prop, Pv 0 H0 ∧ (∀ i H, Pv i H → H p = some (.lst xs)) ∧
      (∀ i x H, xs[i]? = some x → Pv i H → rTurn g tt te vs σ D (Pv (i + 1)) x H) ∧ ∀ H', Pv xs.length H' → Q (.ref D) H') : rLcL K g tt te vs σ (.ref p) H Q := by
  refine ⟨p, rfl, ⟨xs, SqL.of hx⟩, fun D hD => ?_⟩
  obtain ⟨Pv, h0, hk, hs, hd⟩ := k D _ hD (same_new hD) upd_same
  exact lc_list (K := K) (a := p) (xs := xs) Pv h0 (fun i H _ p => SqL.of (hk i H p)) hs hd
def rLcT (K : PySem.W.Frag) (g : TG) (tt : TT) (te : TE) (vs : List Nat) (σ : St) (x : V) (H1 : Hp) (Q : VK) : Prop := ∃ a, x = .ref a ∧ (∃ xs, SqT K H1 a xs) ∧ rLc (Itt K a) g tt te vs σ H1 Q
theorem r_lcT {vs : List Nat} (k : ta σ H fun x H1 => rLcT K g tt te vs σ x H1 Q) : tLc (iTup K ta) g tt te vs σ H Q := k
theorem n_lcT {p : Addr} {xs : List V} {vs : List Nat} (hx : H p = some (.tup xs))
    (k : ∀ D H0, H D = none → Same H H0 → H0 D = some (.lst []) → ∃ Pv : Nat → Hp → Prop, Pv 0 H0 ∧ (∀ i H, Pv i H → H p = some (.tup xs)) ∧
      (∀ i x H, xs[i]? = some x → Pv i H → rTurn g tt te vs σ D (Pv (i + 1)) x H) ∧ ∀ H', Pv xs.length H' → Q (.ref D) H') : rLcT K g tt te vs σ (.ref p) H Q := by
  refine ⟨p, rfl, ⟨xs, SqT.of hx⟩, fun D hD => ?_⟩
  obtain ⟨Pv, h0, hk, hs, hd⟩ := k D _ hD (same_new hD) upd_same
  exact lc_tup (K := K) (a := p) (xs := xs) Pv h0 (fun i H _ p => SqT.of (hk i H p)) hs hd
def rLcR (g : TG) (tt : TT) (te : TE) (vs : List Nat) (σ : St) (us : List V) (H1 : Hp) (Q : VK) : Prop := ∃ j : Int, us = [.int j] ∧ -(2 ^ 62) ≤ j ∧ j < 2 ^ 62 ∧ rLc (Itr 0 j.toNat) g tt te vs σ H1 Q
theorem r_lcR {vs : List Nat} (k : ts σ H fun us H1 => rLcR g tt te vs σ us H1 Q) : tLc (iRng1 ts) g tt te vs σ H Q := k
theorem n_lcR {n : Int} {vs : List Nat} (hn : -(2 ^ 62) ≤ n ∧ n < 2 ^ 62)
    (k : ∀ D H0, H D = none → Same H H0 → H0 D = some (.lst []) → ∃ Pv : Nat → Hp → Prop, Pv 0 H0 ∧
      (∀ i H, i < n.toNat → Pv i H → rTurn g tt te vs σ D (Pv (i + 1)) (.int i) H) ∧ ∀ H', Pv n.toNat H' → Q (.ref D) H') : rLcR g tt te vs σ [.int n] H Q := by
  refine ⟨n, rfl, hn.1, hn.2, fun D hD => ?_⟩
  obtain ⟨Pv, h0, hs, hd⟩ := k D _ hD (same_new hD) upd_same
  exact lc_range (lo := 0) (n := n.toNat) Pv h0 (fun i H hi p => by rw [Int.zero_add]; exact hs i H hi p) hd
/-! ### the same rules in a comprehension's block: K is named -/
theorem pe_fldK {X : Cx} {o : Expr} {f : Str} {pos : Pos} (hK : X.K = K) (he : PE X o ta) (hb : attributeBase o f X.env (eval o X.env) = eval o X.env) : PE X (.Attribute o f pos) (tFld K ta f) := by
  subst hK
  exact pe_fld he hb
theorem ix_seqK {X : Cx} (hK : X.K = K) : IxR X (rIx K) := by
  subst hK
  exact ix_seq
theorem b_tupleK {X : Cx} (hK : X.K = K) : CallR X (.type "tuple") (rTupOf K) := by
  subst hK
  exact b_tuple
theorem b_lenK {X : Cx} (hK : X.K = K) : CallR X (.builtin "len") (rLen K) := by
  subst hK
  exact b_len
theorem pi_listK {X : Cx} {tg o : Expr} (hK : X.K = K) (he : PE X o te) : PI X tg o (iList K te) := by
  subst hK
  exact pi_list he
theorem pi_tupK {X : Cx} {tg o : Expr} (hK : X.K = K) (he : PE X o te) : PI X tg o (iTup K te) := by
  subst hK
  exact pi_tup he
/-! ### dicts -/
def rDGet (x y : V) (H2 : Hp) (Q : VK) : Prop := ∃ a v, x = .ref a ∧ DGet H2 a y (some v) ∧ Q v H2
theorem r_dget {td ty : TE} (k : td σ H fun x H1 => ty σ H1 fun y H2 => rDGet x y H2 Q) : tDGet td ty σ H Q := k
theorem n_dgetS {p : Addr} {kvs : List (Key × V)} {z : Str} (h : H p = some (.dK kvs)) (e : valV kvs (.inr z) = some v) (k : Q v H) : rDGet (.ref p) (.str z) H Q :=
  ⟨p, v, rfl, by rw [← e]; exact DGet.k (k := .inr z) h, k⟩
def rDisp (p : Addr) (Q : VK) (ps : List (V × V)) (H2 : Hp) : Prop := H2 p = some (.dK []) ∧ ∃ kvs : List (Key × V), ps = kvs.map (fun kv => (kV kv.1, kv.2)) ∧ kvs.length ≤ 15 ∧ Q (.ref p) (upd H2 p (.dK (mergeK [] kvs)))
theorem r_disp {trs : List (TE × TE)} (k : ∀ p H1, H p = none → Same H H1 → H1 p = some (.dK []) → tPairs trs σ H1 (rDisp p Q)) : tDisp trs σ H Q := fun p n => k p _ n (same_new n) upd_same
theorem r_pcons {tk tv : TE} {trs : List (TE × TE)} {R : List (V × V) → Hp → Prop} (k : tk σ H fun x H1 => tv σ H1 fun y H2 => tPairs trs σ H2 fun ps H3 => R ((x, y) :: ps) H3) : tPairs ((tk, tv) :: trs) σ H R := k
theorem r_pnil {R : List (V × V) → Hp → Prop} (k : R [] H) : tPairs [] σ H R := k
theorem n_disp {p : Addr} {ps : List (V × V)} {kvs kvs' : List (Key × V)} (h : H p = some (.dK [])) (e : ps = kvs.map (fun kv => (kV kv.1, kv.2))) (l : kvs.length ≤ 15) (m : mergeK [] kvs = kvs') (k : ∀ H3, Kp p H H3 → H3 p = some (.dK kvs') → Q (.ref p) H3) : rDisp p Q ps H :=
  ⟨h, kvs, e, l, by rw [m]; exact k _ (Kp.upd p H _) upd_same⟩
end
end Bf
/-! reading lemmas, third part: truth of lists, pop, extend, unpacked lists, ranges of three -/
namespace Bf
open PySem L2
section
variable {K : PySem.W.Frag} {σ : St} {H H1 : Hp} {D : Ends} {t u : TS} {te ta tb tc tv : TE} {ts : TA} {tt tu : TT} {g : TG} {gs : TGs} {v x y : V} {Q : VK} {R : Bool → Hp → Prop} {S : St → Hp → Prop} {i j : Nat} {a c d : St → Hp → Prop} {b : VK}
def rTru (K : PySem.W.Frag) (x : V) (H : Hp) (R : Bool → Hp → Prop) : Prop := ∃ k, TruV K x H k ∧ R k H
def tTru (K : PySem.W.Frag) (te : TE) : TT := fun σ H R => te σ H fun x H' => rTru K x H' R
theorem pt_tru {X : Cx} {o : Expr} (ha : PE X o ta) (he : ∀ whole, isTrue o X.env whole = (do let v ← whole; standAt o.pos; holding [v] (truthy v))) : PT X o (tTru X.K ta) := pt_truth ha he
theorem r_tru (k : te σ H fun x H' => rTru K x H' R) : tTru K te σ H R := k
theorem n_truL {p : Addr} {xs : List V} (h : H p = some (.lst xs)) (k : R (!xs.isEmpty) H) : rTru K (.ref p) H R := ⟨_, .inl ⟨xs, SqL.of h, rfl⟩, k⟩
theorem n_truT {p : Addr} {xs : List V} (h : H p = some (.tup xs)) (k : R (!xs.isEmpty) H) : rTru K (.ref p) H R := ⟨_, .inr (.inl ⟨xs, SqT.of h, rfl⟩), k⟩
theorem r_pop {l : Addr} {xs : List V} (hv : σ[i]? = some (some (.ref l))) (h : H l = some (.lst (xs ++ [y]))) (k : ∀ H', Kp l H H' → H' l = some (.lst xs) → Q y H') : tBM0 K "list" rPop (tVar i) σ H Q :=
  ⟨_, hv, .inl ⟨rfl, _, SqL.of h⟩, l, _, y, rfl, rfl, h, by simp, by rw [List.dropLast_concat]; exact k _ (Kp.upd l H _) upd_same⟩
def rExt (l : Addr) (y : V) (H : Hp) (Q : VK) : Prop := ∃ b xs zs, y = .ref b ∧ H l = some (.lst xs) ∧ H b = some (.lst zs) ∧ xs.length + zs.length ≤ sizeLine ∧ Q .non (upd H l (.lst (xs ++ zs)))
theorem r_ext {l : Addr} {xs : List V} (hv : σ[i]? = some (some (.ref l))) (h : H l = some (.lst xs)) (k : te σ H fun y H1 => rExt l y H1 Q) : tBM K "list" rExtend (tVar i) (tCons te tNil) σ H Q := by
  refine ⟨_, hv, .inl ⟨rfl, _, SqL.of h⟩, ?_⟩
  have e : (fun y H1 => rExt l y H1 Q) = fun y H1 => tNil σ H1 fun xs H2 => rExtend (.ref l) (y :: xs) H2 Q := by
    funext y H1
    refine propext ⟨fun ⟨b, xs, zs, e, h1, h2, h3, h4⟩ => ⟨l, b, xs, zs, rfl, by rw [e], h1, h2, h3, h4⟩, fun ⟨l', b, xs, zs, e1, e2, h1, h2, h3, h4⟩ => ?_⟩
    cases e1
    cases e2
    exact ⟨b, xs, zs, rfl, h1, h2, h3, h4⟩
  rw [e] at k
  exact k
theorem n_ext {l p : Addr} {xs zs : List V} (h : H l = some (.lst xs)) (h2 : H p = some (.lst zs)) (hl : xs.length + zs.length ≤ sizeLine) (k : ∀ H', Kp l H H' → H' l = some (.lst (xs ++ zs)) → Q .non H') : rExt l (.ref p) H Q := ⟨p, xs, zs, rfl, h, h2, hl, k _ (Kp.upd l H _) upd_same⟩
theorem r_glst {p : Addr} {xs : List V} {n : Nat} (h : H p = some (.lst xs)) (l : xs.length = n) (k : gs xs σ H S) : gLst K n gs (.ref p) σ H S := ⟨p, xs, rfl, SqL.of h, l, k⟩
def rForR3 (g : TG) (tb : TS) (D : Ends) (σ : St) (vs : List V) (H : Hp) : Prop := ∃ (i j c : Int) (n : Nat), vs = [.int i, .int j, .int c] ∧ RgC i j c n ∧ ∃ W : Nat → Nat → St → Hp → Prop, (∃ m, W 0 m σ H) ∧ ∀ k m σ H, W k m σ H →
  ((Itc i c n).stop k H ∧ D.nx σ H) ∨ ((Itc i c n).go k H ∧ ∃ N : St → Hp → Prop, (∀ σ' H', N σ' H' → ∃ m', m' < m ∧ W (k + 1) m' σ' H') ∧ ∀ x H', (Itc i c n).yld k H x H' → g x σ H' fun σ2 H2 => tb { D with nx := N, ct := N, bk := D.nx } σ2 H2)
theorem r_forR3 {tb : TS} {ta : TA} (k : ta σ H fun vs H1 => rForR3 g tb D σ vs H1) : tFor (iRng3 ta) g tb D σ H := k
theorem n_forDown {hi lo : Int} {tb : TS} (Pv : Nat → St → Hp → Prop) (hn : -(2 ^ 62) ≤ lo ∧ lo < 2 ^ 62 ∧ -(2 ^ 62) ≤ hi ∧ hi < 2 ^ 62) (h0 : Pv 0 σ H)
    (hs : ∀ i σ H, i < (hi - lo).toNat → Pv i σ H → g (.int (hi - i)) σ H fun σ2 H2 => tb ⟨Pv (i + 1), b, a, Pv (i + 1)⟩ σ2 H2) (hd : ∀ σ H, Pv (hi - lo).toNat σ H → a σ H) : rForR3 g tb ⟨a, b, c, d⟩ σ [.int hi, .int lo, .int (-1)] H :=
  ⟨hi, lo, -1, (hi - lo).toNat, rfl, RgC.neg hn.2.2.1 hn.2.2.2 hn.1 hn.2.1, for_rangeC (lo := hi) (c := -1) (n := (hi - lo).toNat) Pv h0 (fun i σ H h p => by
    rw [show hi + (i : Nat) * (-1 : Int) = hi - i by omega]
    exact hs i σ H h p) hd⟩
def rLcR2 (g : TG) (tt : TT) (te : TE) (vs : List Nat) (σ : St) (us : List V) (H1 : Hp) (Q : VK) : Prop := ∃ i j : Int, us = [.int i, .int j] ∧ (-(2 ^ 62) ≤ i ∧ i < 2 ^ 62 ∧ -(2 ^ 62) ≤ j ∧ j < 2 ^ 62) ∧ rLc (Itr i (j - i).toNat) g tt te vs σ H1 Q
theorem r_lcR2 {vs : List Nat} (k : ts σ H fun us H1 => rLcR2 g tt te vs σ us H1 Q) : tLc (iRng2 ts) g tt te vs σ H Q := k
theorem n_lcR2 {lo n : Int} {vs : List Nat} (hn : -(2 ^ 62) ≤ lo ∧ lo < 2 ^ 62 ∧ -(2 ^ 62) ≤ n ∧ n < 2 ^ 62)
    (k : ∀ D H0, H D = none → Same H H0 → H0 D = some (.lst []) → ∃ Pv : Nat → Hp → Prop, Pv 0 H0 ∧
      (∀ i H, i < (n - lo).toNat → Pv i H → rTurn g tt te vs σ D (Pv (i + 1)) (.int (lo + i)) H) ∧ ∀ H', Pv (n - lo).toNat H' → Q (.ref D) H') : rLcR2 g tt te vs σ [.int lo, .int n] H Q := by
  refine ⟨lo, n, rfl, hn, fun D hD => ?_⟩
  obtain ⟨Pv, h0, hs, hd⟩ := k D _ hD (same_new hD) upd_same
  exact lc_range (lo := lo) (n := (n - lo).toNat) Pv h0 hs hd
theorem r_isN {Q : VK} (e : y = .non) (k : Q (.bl (decide (x = .non))) H) : y = .non ∧ Q (.bl (decide (x = .non))) H := ⟨e, k⟩
end
end Bf
/-! own rule: enumerate of a tuple -/
namespace PySem
open Sem (wp)
set_option maxHeartbeats 1000000 in
theorem meets_enum_of {v : Value} {o : Obj} {H : Heap → Prop} (B : Begins v o H) :
    Meets (Builtin.«enumerate.__new__» ⟨[.type "enumerate", v], []⟩) (fun _ R s => H s.heap ∧
      R (.ok (.ret (.ref (s.heap.push o).objs.size))) { s with heap := (s.heap.push o).push { cls := .type "enumerate", data := .fields #[.none, .bool false, .ref s.heap.objs.size, rawInt 0, .none, .none] } }) :=
  .of_wp fun prog w A R s h => by
    obtain ⟨hp, g, d, tk, os⟩ := s; obtain ⟨h1, h⟩ := h
    have hsub := sub_enumerate
    have q1 : ∀ {A' : Around} {E : Value → Shared → Prop} {Q : Value → Shared → Prop}, Q (.ref hp.objs.size) ⟨hp.push o, g, d, tk, os⟩ → wpAny (model prog w) A' (pyIter v) Q E ⟨hp, g, d, tk, os⟩ :=
      fun q => B.iter prog w _ _ ⟨hp, g, d, tk, os⟩ _ h1 q
    wp_walk using q1
    refine wpAny_stack_any fun st => wpAny_pure ?_
    split
    · rename_i c _ _ _ _ _
      cases (c == Value.type "enumerate")
      · wp_walk using q1
        exact ⟨_, rfl, h⟩
      · wp_walk using q1
        exact ⟨_, rfl, h⟩
    · wp_walk using q1
      exact ⟨_, rfl, h⟩
section
variable {prog : Program} {w : World} {A : Around} {E : Value → Shared → Prop} {s : Shared}
theorem enum_of {v : Value} {o : Obj} {H : Heap → Prop} {Q : Value → Shared → Prop} (B : Begins v o H) (h1 : H s.heap)
    (h : ∀ h', IsEnum h' (s.heap.objs.size + 1) s.heap.objs.size 0 .none → h'.get? s.heap.objs.size = some o → h'.objs.size = s.heap.objs.size + 2 →
      (∀ b o, s.heap.get? b = some o → h'.get? b = some o) → Q (.ref (s.heap.objs.size + 1)) { s with heap := h' }) :
    wpAny (model prog w) A (call (.type "enumerate") [v]) Q E s := by
  refine callType_new F.called_enumerate (by decide) (F.typeCall_enumerate_1 _) (F.newCall_enumerate_1 _) (fun obj => F.args_object_init_2 obj _) F.entry_enumerate_new
    (meets_enum_of B) ⟨h1, ?_⟩
  have hz : (s.heap.push o).objs.size = s.heap.objs.size + 1 := Heap.size_push ..
  show _ ∧ _
  rw [hz]
  have he : IsEnum ((s.heap.push o).push { cls := .type "enumerate", data := .fields #[.none, .bool false, .ref s.heap.objs.size, rawInt 0, .none, .none] }) (s.heap.objs.size + 1) s.heap.objs.size 0 .none := by
    have := Heap.get?_push_size (s.heap.push o) (o := { cls := .type "enumerate", data := .fields #[.none, .bool false, .ref s.heap.objs.size, rawInt 0, .none, .none] }) rfl
    rw [hz] at this; exact this
  refine ⟨⟨_, he, rfl⟩, h _ he (Heap.get?_push_of_some _ (Heap.get?_push_size _ B.free)) (by rw [Heap.size_push, hz]) fun b o x => Heap.get?_push_of_some _ (Heap.get?_push_of_some _ x)⟩
end
end PySem
namespace Bf
open PySem L2
/-- the tuple at a, each item in a new pair -/
def IteT (K : PySem.W.Frag) (a : Addr) : It :=
  ⟨fun i H => ∃ (xs : List V) (x : V), SqT K H a xs ∧ xs[i]? = some x, fun i H v H' => ∃ T x, v = .ref T ∧ H T = none ∧ H' = upd H T (.tup [.int (i : Nat), x]) ∧ ∀ xs, SqT K H a xs → xs[i]? = some x, fun i H => ∃ xs : List V, SqT K H a xs ∧ i = xs.length⟩
theorem turn_enumT {P : Program} {w : World} {K : PySem.W.Frag} {elts : List Expr} {kk : Nat} {tpos : Pos} (a e it : Addr) :
    Turn P w K (.Tuple elts kk tpos) (IteT K a) [e, it] e (fun i h => (∃ old, IsEnum h e it ((i : Nat) : Int) old) ∧ h.IsTupleIter it a i ∧ e ≠ it ∧ e ≠ a ∧ it ≠ a) where
  mem := by simp
  obj := fun i h st b hb => by
    obtain ⟨⟨old, he⟩, ⟨o, ho, hc, hd⟩, _⟩ := st
    have e' : b = e ∨ b = it := by simpa using hb
    rcases e' with z | z
    · rw [z]; exact ⟨_, he, fun v q => nomatch q⟩
    · rw [z]; exact ⟨o, ho, fun v q => by rw [hd] at q; cases q⟩
  keep := fun i h h' st k => let ⟨⟨old, he⟩, hi, hne⟩ := st; ⟨⟨old, k e (by simp) _ he⟩, hi.at fun o q => k it (by simp) o q, hne⟩
  item := by
    intro X hP hw hK hc i pins s σ H E I hf st hg
    subst hP hw hK
    obtain ⟨⟨old, he⟩, hit, hne, hea, hia⟩ := st
    obtain ⟨xs, x, hq, hx⟩ := hg
    obtain ⟨its, rv, p, hz⟩ := I.tuple hq
    obtain ⟨u, hu, ru⟩ := rv.get hx
    have hel : e < s.heap.objs.size := Heap.lt_size he
    have hil : it < s.heap.objs.size := by obtain ⟨_, q, _⟩ := hit; exact Heap.lt_size q
    have hh : X.A.in1.handled = none := I.ok.hd hc
    have Dr := Draws.tuple (prog := X.prog) (w := X.w) hh it a (fun z => hia z.symm) its.toArray
    have lt1 : i < its.toArray.size := by simpa using (List.getElem?_eq_some_iff.mp hu).1
    refine wpAny_pyNext_enum_itemD Dr he ⟨hit, p⟩ lt1 hne (by simp; exact ⟨hne, hea⟩) fun w1 h' tk e1 ho g1 hT hsz hk => ?_
    obtain rfl : u = w1 := by
      have q : its.toArray[i]? = some u := by simpa using hu
      rw [q] at e1
      exact Option.some.inj e1
    have hit' := g1.1
    refine ⟨_, rfl, wpAny_letOwnedTupleGo_enum (s := { s with heap := h', toks := tk + 1 }) ho fun h'' he' sb => ?_⟩
    have hT2 : h''.get? s.heap.objs.size = some { cls := .type "tuple", data := .seq #[.int i tk, u] } := (sb.2 _ (Nat.ne_of_gt hel)).trans hT
    have new : ObjOk X.prog X.w (upd H s.heap.objs.size (.tup [.int (i : Nat), x])) h'' s.heap.objs.size (.tup [.int (i : Nat), x]) :=
      ⟨by show 2 ≤ sizeLine; decide, [.int i tk, u], .cons ⟨_, rfl⟩ (.cons ru .nil), ⟨_, hT2, rfl, _, rfl⟩⟩
    have I1 : Inv X pins σ (upd H s.heap.objs.size (.tup [.int (i : Nat), x])) { s with heap := h'', toks := tk + 1 } :=
      I.turnedNew (ch := [e, it]) (fun b ob hb q => (sb.2 b (fun z => hb (by simp [z]))).trans (hk b ob (fun z => hb (by simp [z])) (fun z => hb (by simp [z])) q)) hf (Nat.le_refl _) new
    refine ⟨.ref s.heap.objs.size, _, I1, rfl, ⟨_, x, rfl, I.hok.fresh (Nat.le_refl _), rfl, fun ys hy => by rw [I.tuple_inj hy hq]; exact hx⟩, ⟨⟨u, ?_⟩, hit'.at fun o q => (sb.2 it (Ne.symm hne)).trans q, hne, hea, hia⟩, fun b hb => ?_⟩
    · have e1 : ((i + 1 : Nat) : Int) = (i : Int) + 1 := by omega
      rw [e1]; exact he'
    · have hb' : b < s.heap.objs.size := by
        have e' : b = e ∨ b = it := by simpa using hb
        rcases e' with z | z
        · rw [z]; exact hel
        · rw [z]; exact hil
      rw [upd_ne (Nat.ne_of_lt hb')]
      exact (hf b hb).1
  done := by
    intro X hP hw hK hc i pins s σ H E I hf st hg
    subst hP hw hK
    obtain ⟨⟨old, he⟩, hit, hne, hea, hia⟩ := st
    obtain ⟨xs, hq, hx⟩ := hg
    obtain ⟨its, rv, p, hz⟩ := I.tuple hq
    obtain ⟨f0, f1, f2, f3, f4, f5⟩ := hf it (by simp)
    have hl := rv.length
    have hh : X.A.in1.handled = none := I.ok.hd hc
    have Dr := Draws.tuple (prog := X.prog) (w := X.w) hh it a (fun z => hia z.symm) its.toArray
    have ei : i = its.toArray.size := by simp; omega
    rw [ei] at hit
    exact wpAny_pyNext_enum_endD Dr he ⟨hit, p⟩ fun h' eb => ⟨rfl, I.turned (t' := s.toks) (fun b o hb q => eb b o hb q) f0 f1 f3 f4 f5⟩
  self := fun A i s Q E st h => let ⟨⟨_, he⟩, _⟩ := st; wpAny_pyIter_enum he h
def iEnumT (K : PySem.W.Frag) (ta : TA) : TI := fun σ H R => ta σ H fun vs H1 => ∃ a xs, vs = [.ref a] ∧ SqT K H1 a xs ∧ R (IteT K a) H1
theorem pi_enumT {X : Cx} {e : Expr} {ta : TA} {p pos tpos : Pos} {elts : List Expr} {kk : Nat} (hg : Gl X "enumerate") (hm : X.mg "enumerate" = none) (ha : PA X [e] ta) (hs : starEach [e] X.env = [(false, eval e X.env)] := by rfl) :
    PI X (.Tuple elts kk tpos) (.Call (.Name "enumerate" p) [e] [] pos) (iEnumT X.K ta) := by
  refine ⟨fun pins s σ H R I h => ?_⟩
  refine PyProof.Rows.Call_ (ld_blt I hg hm PyProof.Rows.boot_enumerate (PyProof.Rows.callWith_type1 (thn (ha.run pos pins s σ H _ I h) fun us s1 ⟨vs, H1, I1, r1, q1⟩ => ?_) hs rfl))
  obtain ⟨a, xs, ex, hq, q⟩ := q1
  subst ex
  cases r1 with
  | cons r rr =>
    cases rr
    cases r
    obtain ⟨its, rv, p', hz⟩ := I1.tuple hq
    obtain ⟨o1, ho1, _⟩ := id p'
    have la : a < s1.heap.objs.size := Heap.lt_size ho1
    refine enum_of (begins_tuple a its.toArray) p' fun h' he hit hsz hk => wpAny_pyIter_enum he ?_
    have I2 : Inv X pins σ H1 { s1 with heap := h' } := I1.kept (t' := s1.toks) hk
    refine ⟨s1.heap.objs.size + 1, [s1.heap.objs.size + 1, s1.heap.objs.size], _, _, H1, rfl, I2, turn_enumT a (s1.heap.objs.size + 1) s1.heap.objs.size, ⟨⟨.none, he⟩, ⟨_, hit, rfl, rfl⟩, Nat.succ_ne_self _, Nat.ne_of_gt (Nat.lt_succ_of_lt la), Nat.ne_of_gt la⟩, fun b hb => ?_, q⟩
    have e' : b = s1.heap.objs.size + 1 ∨ b = s1.heap.objs.size := by simpa using hb
    have hle : s1.heap.objs.size ≤ b := by
      rcases e' with z | z
      · rw [z]; exact Nat.le_add_right _ _
      · rw [z]; exact Nat.le_refl _
    exact I1.fpOk hle (I1.hok.fresh hle)
def rForE (K : PySem.W.Frag) (g : TG) (tb : TS) (D : Ends) (σ : St) (vs : List V) (H : Hp) : Prop := ∃ a xs, vs = [.ref a] ∧ SqT K H a xs ∧ ∃ W : Nat → Nat → St → Hp → Prop, (∃ m, W 0 m σ H) ∧ ∀ i m σ H, W i m σ H →
  ((IteT K a).stop i H ∧ D.nx σ H) ∨ ((IteT K a).go i H ∧ ∃ N : St → Hp → Prop, (∀ σ' H', N σ' H' → ∃ m', m' < m ∧ W (i + 1) m' σ' H') ∧ ∀ x H', (IteT K a).yld i H x H' → g x σ H' fun σ2 H2 => tb { D with nx := N, ct := N, bk := D.nx } σ2 H2)
section
variable {K : PySem.W.Frag} {σ : St} {H : Hp} {D : Ends} {tb : TS} {ta : TA} {g : TG} {a c d : St → Hp → Prop} {b : VK}
theorem r_forE (k : ta σ H fun vs H1 => rForE K g tb D σ vs H1) : tFor (iEnumT K ta) g tb D σ H := k
theorem n_forE {p : Addr} {xs : List V} (Pv : Nat → St → Hp → Prop) (hp : H p = some (.tup xs)) (h0 : Pv 0 σ H) (hk : ∀ i σ H, Pv i σ H → H p = some (.tup xs))
    (hs : ∀ (i : Nat) x T σ H H', xs[i]? = some x → Pv i σ H → H T = none → Same H H' → H' T = some (.tup [.int i, x]) → g (.ref T) σ H' fun σ2 H2 => tb ⟨Pv (i + 1), b, a, Pv (i + 1)⟩ σ2 H2) (hd : ∀ σ H, Pv xs.length σ H → a σ H) : rForE K g tb ⟨a, b, c, d⟩ σ [.ref p] H := by
  refine ⟨p, xs, rfl, SqT.of hp, fun i m σ H => m = xs.length - i ∧ i ≤ xs.length ∧ Pv i σ H, ⟨xs.length, rfl, Nat.zero_le _, h0⟩, ?_⟩
  rintro i m σ H ⟨rfl, hi, v⟩
  have k1 := hk i σ H v
  by_cases hlt : i < xs.length
  · have hx : xs[i]? = some xs[i] := List.getElem?_eq_getElem hlt
    refine .inr ⟨⟨xs, xs[i], SqT.of k1, hx⟩, Pv (i + 1), fun σ' H' v' => ⟨xs.length - (i + 1), by omega, rfl, hlt, v'⟩, fun x H' y => ?_⟩
    obtain ⟨T, x', rfl, nT, rfl, e1⟩ := y
    exact hs i x' T σ H _ (e1 xs (SqT.of k1)) v nT (same_new nT) upd_same
  · have e : i = xs.length := by omega
    subst e
    exact .inl ⟨⟨xs, SqT.of k1, rfl⟩, hd σ H v⟩
end
end Bf
/-! own rule: d.get(key) of a written dict of the module, text keys -/
namespace Bf
open PySem L2
def tKGet (K : PySem.W.Frag) (d : Addr) (td ty : TE) : TE := fun σ H Q => td σ H fun x H1 => x = .ref d ∧ ty σ H1 fun y H2 => ∃ (z : Str) (r : Option Value) (v : V), y = .str z ∧ PySem.W.nsIn K d z = some r ∧ RelV v (r.getD .none) ∧ Q v H2
theorem pe_kget {X : Cx} {o e : Expr} {apos cpos : Pos} {td ty : TE} {d : Addr} {es : Array DictEntry} {n : Nat} (D : KDict X.K X.w d es n) (ho : PE X o td) (he : PE X e ty) (m : M1 X o "get" apos e cpos) : PE X (.Call (.Attribute o "get" apos) [e] [] cpos) (tKGet X.K d td ty) := by
  refine ⟨fun pins s σ H Q I h => ?_⟩
  refine wpAny_Call_method m.base m.few m.line PySem.F.plainAttrs_dict PySem.F.slot_dict_get PySem.F.type_dict_get (thn (ho.run pins s σ H _ I h) fun u s1 ⟨x, H1, I1, rx, ex, q1⟩ => ?_)
  subst ex
  obtain rfl : u = Value.ref d := rx
  have hm := PySem.W.mapOf_K (prog := X.prog) (w := X.w) I1.kIn D.at_ D.lit
  refine ⟨hm.typeIs, hm.noDict, ?_⟩
  rw [m.trees]
  refine Calls.callWith_builtin rfl (Calls.evalArgs_plain (Calls.spliced_cons (thn (he.run pins s1 σ H1 _ I1 q1) fun iv s2 ⟨y, H2, I2, ry, z, r, v, ey, hr, rv, q2⟩ => Calls.spliced_nil ?_)))
  subst ey
  obtain ⟨t, rfl⟩ := (show ∃ t, iv = Value.str z t from ry)
  have hm2 := PySem.W.mapOf_K (prog := X.prog) (w := X.w) I2.kIn D.at_ D.lit
  refine call_meetsIn PySem.F.slot_dict_get hm2.typeIs PySem.F.entry_dict_get (PySem.F.args_dict_get_2 _ _) (meets_dict_get _ d (PySem.strKind_is X.prog X.w z t) D.low) ⟨_, hm2, ?_⟩
  rw [PySem.W.find_K D.at_ hr]
  exact ⟨v, H2, I2.tok _, rv, q2⟩
end Bf
namespace Bf
open PySem L2
def rKGet (K : PySem.W.Frag) (d : Addr) (Q : VK) : VK := fun y H2 => ∃ (z : Str) (r : Option Value) (v : V), y = .str z ∧ PySem.W.nsIn K d z = some r ∧ RelV v (r.getD .none) ∧ Q v H2
theorem r_kget {K : PySem.W.Frag} {d : Addr} {td ty : TE} {σ : St} {H : Hp} {Q : VK} (k : td σ H fun x H1 => x = .ref d ∧ ty σ H1 (rKGet K d Q)) : tKGet K d td ty σ H Q := k
theorem r_isref {d : Addr} {P : Prop} (k : P) : V.ref d = V.ref d ∧ P := ⟨rfl, k⟩
theorem n_kget {K K' : PySem.W.Frag} {d : Addr} {H : Hp} {Q : VK} {z : Str} {k : Int} {t : Tok} (h : PySem.W.nsIn K' d z = some (some (.int k t))) (e : K = K') (q : Q (.int k) H) : rKGet K d Q (.str z) H := ⟨z, _, .int k, rfl, by rw [e]; exact h, ⟨t, rfl⟩, q⟩
end Bf
/-! reading lemmas, fifth part: texts -/
namespace Bf
open PySem L2 SX
/-! ### rules under names -/
def rSplit : V → List V → Hp → VK → Prop := fun x xs H Q => ∃ a b, x = .str a ∧ xs = [.str b] ∧ (b.length == 0) = false ∧ a.length + 2 ≤ sizeLine ∧ rNewStrs (Txt.split a b) H Q
def rJoinS (K : PySem.W.Frag) : V → List V → Hp → VK → Prop := fun x xs H Q => ∃ a p, ∃ ys : List Str, x = .str a ∧ xs = [.ref p] ∧ (SqL K H p (ys.map V.str) ∨ SqT K H p (ys.map V.str)) ∧ (ys.map (·.length)).sum + ys.length * a.length ≤ 16777216 ∧ Q (.str (Txt.join a ys)) H
def rStrI : List V → Hp → VK → Prop := fun xs H Q => ∃ i : Int, xs = [.int i] ∧ i.natAbs.log2 < 1920 ∧ Q (.str (Str.ofString (toString i))) H
def rIntS : List V → Hp → VK → Prop := fun xs H Q => ∃ a n, xs = [.str a] ∧ PySem.intText? a = some n ∧ a.length ≤ 640 ∧ Q (.int n) H
def rNinS : V → V → Hp → VK → Prop := fun x y H Q => ∃ (c : Nat) (z : Str), x = .str ⟨#[c]⟩ ∧ y = .str z ∧ Q (.bl (!decide (c ∈ z.cps.toList))) H
def rAddSt : V → V → Hp → VK → Prop := fun x y H Q => ∃ i j, x = .str i ∧ y = .str j ∧ i.length + j.length ≤ sizeLine ∧ Q (.str (i ++ j)) H
def tJoined (ts : List TE) : TE := fun σ H Q => tJs ts Str.empty σ H fun out H1 => Q (.str out) H1
section
variable {X : Cx} {o e : Expr} {to te : TE}
theorem pe_splitN {apos pos : Pos} (ho : PE X o to) (he : PE X e te) (hs : starEach [e] X.env = [(false, eval e X.env)] := by rfl) (hbase : attributeBase o "split" X.env (eval o X.env) = eval o X.env := by rfl) (hline : (apos.endLine == pos.line) = true := by rfl) :
    PE X (.Call (.Attribute o "split" apos) [e] [] pos) (tM1 rSplit to te) := pe_split ho he hs hbase hline
theorem pe_joinN {apos pos : Pos} (ho : PE X o to) (he : PE X e te) (hs : starEach [e] X.env = [(false, eval e X.env)] := by rfl) (hbase : attributeBase o "join" X.env (eval o X.env) = eval o X.env := by rfl) (hline : (apos.endLine == pos.line) = true := by rfl) :
    PE X (.Call (.Attribute o "join" apos) [e] [] pos) (tM1 (rJoinS X.K) to te) := pe_join ho he hs hbase hline
theorem b_strI : CallR X (.type "str") rStrI := call_str_int
theorem b_intS : CallR X (.type "int") rIntS := call_int_str
theorem op_ninS : OpR X (compareOp .NotIn) rNinS := op_notIn_sign
theorem op_addSt : OpR X (binaryOp .Add) rAddSt := op_add_str
theorem pe_joinedN {v1 v2 : Expr} {rest : List Expr} {ts : List TE} {pos : Pos} (h : PJ X (v1 :: v2 :: rest) ts) : PE X (.JoinedStr (v1 :: v2 :: rest) pos) (tJoined ts) := pe_joined h
def tTry (K : PySem.W.Frag) (B : Value) (tb : WX → TS) (ts : Addr → Value → Option Addr → TS) : TS := fun D σ H => tb (wOnly K B ts (fun _ _ _ _ => False) D) D σ H
theorem tk0 {X : Cx} : Takes X (fun _ _ _ _ => False) := fun _ _ x => by
  obtain ⟨_, _, _, _, _, _, _, _, _, _, _, _, _, _, _, _, z⟩ := x
  exact z.elim
theorem ps_tryN {x : Str} {c : Value} {body suite : List Stmt} {b₀ : Stmt} {np pos pos' : Pos} {tb : WX → TS} {ts : Addr → Value → Option Addr → TS} (hs : X.stack = X.env :: X.outer) (hf : X.env.frame = some X.env.locals) (hc : Names X x c)
    (hb : ∀ (W : WX) (pn : List (Addr × Obj)) (xe : Value → Shared → Prop), Takes (X.tr pn xe) W → PassesOwn (model X.prog X.w) X.A X.env xe → PSs (X.tr pn xe) body (tb W))
    (hsu : ∀ (a : Addr) (oe : Obj) (cls : Value) (d : Option Addr) (pn : List (Addr × Obj)), Zc cls d oe → (∃ vs, oe.data = .fields vs) → PSs (X.suite a ((a, oe) :: pn)) (b₀ :: suite) (ts a cls d)) :
    PS X (.Try body [.ExceptHandler (some (.Name x np)) none (b₀ :: suite) pos'] [] [] pos) (tTry X.K c tb ts) := ps_try_only hs hf hc tk0 hb hsu
end
/-! ### readings -/
theorem lg {n : Nat} (h : n < 2 ^ 63) : n.log2 < 1920 := by
  by_cases h0 : n = 0
  · subst h0; decide
  · exact (Nat.log2_lt h0).mpr (Nat.lt_trans h (Nat.pow_lt_pow_right (by omega) (by omega)))
section
variable {K : PySem.W.Frag} {σ : St} {H H1 : Hp} {D : Ends} {t u : TS} {te ta tb tc tv : TE} {ts : TA} {tt tu : TT} {g : TG} {gs : TGs} {v x y : V} {Q : VK} {R : Bool → Hp → Prop} {S' : St → Hp → Prop} {i j : Nat} {a c d : St → Hp → Prop} {b : VK}
theorem r_m1 {r : V → List V → Hp → VK → Prop} (k : ta σ H fun x H1 => (∃ a, x = .str a) ∧ te σ H1 fun y H2 => r x [y] H2 Q) : tM1 r ta te σ H Q := k
theorem r_isstr {z : Str} {P : Prop} (k : P) : (∃ a, V.str z = .str a) ∧ P := ⟨⟨z, rfl⟩, k⟩
theorem n_split {z w : Str} {ys : List Str} (e : Txt.split z w = ys) (hw : (w.length == 0) = false) (hz : z.length + 2 ≤ sizeLine) (k : ∀ q H', H q = none → Same H H' → H' q = some (.lst (ys.map V.str)) → Q (.ref q) H') : rSplit (.str z) [.str w] H Q :=
  ⟨z, w, rfl, rfl, hw, hz, by subst e; exact n_new k⟩
theorem n_joinS {z : Str} {p : Addr} {ys : List Str} (h : H p = some (.lst (ys.map V.str))) (l : (ys.map (·.length)).sum + ys.length * z.length ≤ 16777216) (k : Q (.str (Txt.join z ys)) H) : rJoinS K (.str z) [.ref p] H Q := ⟨z, p, ys, rfl, rfl, .inl (SqL.of h), l, k⟩
theorem n_str {n : Nat} (h : n < 2 ^ 63) (k : Q (.str (S (TL.numL n))) H) : rStrI [.int n] H Q := ⟨n, rfl, lg (by rw [Int.natAbs_natCast]; exact h), by rw [num_S]; exact k⟩
theorem n_strZ {n : Int} (h0 : 0 ≤ n) (h : n < 2 ^ 63) (k : Q (.str (S (TL.numL n.toNat))) H) : rStrI [.int n] H Q := by
  obtain ⟨i, rfl⟩ : ∃ i : Nat, n = i := ⟨n.toNat, by omega⟩
  rw [Int.toNat_natCast] at k
  exact n_str (by omega) k
theorem n_intS {n : Nat} (h : n < 10 ^ 640) (k : Q (.int n) H) : rIntS [.str (S (TL.numL n))] H Q := by
  have hl := TL.numL_len (k := 640) (by decide) h
  refine ⟨_, n, rfl, ?_, by rw [S_len]; exact hl, k⟩
  rw [← num_S]
  exact TL.int_num (by omega)
theorem n_ninS {c : Nat} {z : Str} (k : Q (.bl (!decide (c ∈ z.cps.toList))) H) : rNinS (.str ⟨#[c]⟩) (.str z) H Q := ⟨c, z, rfl, rfl, k⟩
theorem n_addS {z w : List Nat} (h : z.length + w.length ≤ sizeLine) (k : Q (.str (S (z ++ w))) H) : rAddSt (.str (S z)) (.str (S w)) H Q := ⟨_, _, rfl, rfl, by rw [S_len, S_len]; exact h, by rw [S_cat]; exact k⟩
theorem n_ixS {z : List Nat} {n : Int} {c : Nat} (h : z.length ≤ sizeLine) (e : atI z n = some c) (k : Q (.str (S [c])) H) : rIx K (.str (S z)) (.int n) H Q := .inr (.inr ⟨S z, n, c, rfl, rfl, by rw [S_len]; exact h, e, k⟩)
theorem n_slX {z w : List Nat} {lo hi : Option Int} (h : z.length ≤ sizeLine) (e : Txt.slice (S z) lo hi = S w) (k : Q (.str (S w)) H) : C8.rSlX (.str (S z)) lo hi H Q := ⟨S z, rfl, by rw [S_len]; exact h, by rw [e]; exact k⟩
theorem n_lenS {z : List Nat} (h : z.length ≤ sizeLine) (k : Q (.int z.length) H) : rLen K [.str (S z)] H Q := r_lenS (by rw [S_len]; exact h) (by rw [S_len]; exact k)
def rForS (g : TG) (tb : TS) (D : Ends) (σ : St) (v : V) (H : Hp) : Prop := ∃ x, v = .str x ∧ ∃ W : Nat → Nat → St → Hp → Prop, (∃ m, W 0 m σ H) ∧ ∀ i m σ H, W i m σ H →
  ((Its x).stop i H ∧ D.nx σ H) ∨ ((Its x).go i H ∧ ∃ N : St → Hp → Prop, (∀ σ' H', N σ' H' → ∃ m', m' < m ∧ W (i + 1) m' σ' H') ∧ ∀ y H', (Its x).yld i H y H' → g y σ H' fun σ2 H2 => tb { D with nx := N, ct := N, bk := D.nx } σ2 H2)
theorem r_forS {tb : TS} (k : te σ H fun x H1 => rForS g tb D σ x H1) : tFor (iStr te) g tb D σ H := k
theorem n_forS {z : List Nat} {tb : TS} (Pv : Nat → St → Hp → Prop) (h0 : Pv 0 σ H) (hs : ∀ i e σ H, z[i]? = some e → Pv i σ H → g (.str ⟨#[e]⟩) σ H fun σ2 H2 => tb ⟨Pv (i + 1), b, a, Pv (i + 1)⟩ σ2 H2) (hd : ∀ σ H, Pv z.length σ H → a σ H) :
    rForS g tb ⟨a, b, c, d⟩ σ (.str (S z)) H := by
  have hsz : (S z).cps.size = z.length := by rw [show (S z).cps = z.toArray from rfl, List.size_toArray]
  refine ⟨_, rfl, fun i m σ H => m = z.length - i ∧ i ≤ z.length ∧ Pv i σ H, ⟨z.length, by simp, Nat.zero_le _, h0⟩, ?_⟩
  rintro i m σ H ⟨rfl, hi, v⟩
  by_cases hlt : i < z.length
  · refine .inr ⟨by show i < (S z).cps.size; omega, Pv (i + 1), fun σ' H' v' => ⟨z.length - (i + 1), by omega, rfl, hlt, v'⟩, fun y H' hy => ?_⟩
    obtain ⟨e, e1, e2, e3⟩ := hy
    subst e
    subst e3
    exact hs i e1 σ _ (by simpa using e2) v
  · have e : i = z.length := by omega
    subst e
    exact .inl ⟨by show (S z).cps.size ≤ z.length; omega, hd σ H v⟩
/-! ### f-strings -/
def rJs (ts : List TE) (acc : Str) (σ : St) (P : Str → Hp → Prop) : VK := fun x H1 => ∃ y : Str, x = .str y ∧ (acc ++ y).length ≤ sizeLine ∧ tJs ts (acc ++ y) σ H1 P
theorem r_joined {ts : List TE} (k : tJs ts Str.empty σ H fun out H1 => Q (.str out) H1) : tJoined ts σ H Q := k
theorem r_jc {t : TE} {ts : List TE} {acc : Str} {P : Str → Hp → Prop} (k : t σ H (rJs ts acc σ P)) : tJs (t :: ts) acc σ H P := k
theorem r_jn {acc : Str} {P : Str → Hp → Prop} (k : P acc H) : tJs [] acc σ H P := k
theorem n_js0 {ts : List TE} {P : Str → Hp → Prop} {y : List Nat} (h : y.length ≤ sizeLine) (k : tJs ts (S y) σ H P) : rJs ts Str.empty σ P (.str (S y)) H := by
  have e : Str.empty ++ S y = S y := TL.ext_tl (TL.tl_append Str.empty (S y))
  exact ⟨_, rfl, by rw [e, S_len]; exact h, by rw [e]; exact k⟩
theorem n_js {ts : List TE} {P : Str → Hp → Prop} {z y : List Nat} (h : (z ++ y).length ≤ sizeLine) (k : tJs ts (S (z ++ y)) σ H P) : rJs ts (S z) σ P (.str (S y)) H := ⟨_, rfl, by rw [S_cat, S_len]; exact h, by rw [S_cat]; exact k⟩
def rFmt (Q : VK) : VK := fun x H1 => (∃ y : Str, x = .str y ∧ y.length ≤ sizeLine ∧ Q (.str y) H1) ∨ ∃ i : Int, x = .int i ∧ i.natAbs.log2 < 1920 ∧ Q (.str (Str.ofString (toString i))) H1
theorem r_fmt (k : te σ H (rFmt Q)) : tFmt te σ H Q := k
theorem n_fmtS {z : List Nat} (h : z.length ≤ sizeLine) (k : Q (.str (S z)) H) : rFmt Q (.str (S z)) H := .inl ⟨_, rfl, by rw [S_len]; exact h, k⟩
theorem n_fmtI {n : Int} (h0 : 0 ≤ n) (h : n < 2 ^ 63) (k : Q (.str (S (TL.numL n.toNat))) H) : rFmt Q (.int n) H := by
  obtain ⟨i, e, l, q⟩ := n_strZ h0 h k
  cases e
  exact .inr ⟨_, rfl, l, q⟩
/-! ### try -/
theorem r_try {B : Value} {tb : WX → TS} {ts : Addr → Value → Option Addr → TS} (k : tb (wOnly K B ts (fun _ _ _ _ => False) D) D σ H) : tTry K B tb ts D σ H := k
end
end Bf
namespace Bf
open PySem L2
section
variable {H : Hp} {Q : VK}
def rIsNn : R2 := fun x y H Q => y = .non ∧ Q (.bl (decide (x = .non))) H
theorem op_isNn {X : Cx} : OpR X (compareOp .Is) rIsNn := op_isN
theorem r_nnR {a : Addr} (k : Q (.bl false) H) : rIsNn (.ref a) .non H Q := ⟨rfl, by rw [decide_eq_false (fun z => by cases z)]; exact k⟩
theorem r_nnI {n : Int} (k : Q (.bl false) H) : rIsNn (.int n) .non H Q := ⟨rfl, by rw [decide_eq_false (fun z => by cases z)]; exact k⟩
theorem r_nnN (k : Q (.bl true) H) : rIsNn .non .non H Q := ⟨rfl, by rw [decide_eq_true rfl]; exact k⟩
end
section
variable {X : Cx} {k j : Nat} {x : Str} {C : Addr} {sp : Sp} {dvs : List V} {p pos : Pos}
theorem pe_mk0 (c : C8.Mak X.prog X.w X.K X.mg X.base k x C sp dvs) (hr : Room j X.A) (hk : k + 1 ≤ j) (hg : Gl X x) (hdb : (x == ("__debug__" : Str)) = false := by decide) : PE X (.Call (.Name x p) [] [] pos) (tMake C sp dvs C8.E0 tNil) := by
  obtain ⟨f, fd, ps, ds, M, F, hm, b, d⟩ := c.ex
  exact pe_make0 M F (hr.mono hk) hg hm b d C8.pass0 hdb
end
end Bf
/-! the text by places, what the top has written, how a promise is made -/
namespace Bf
open PySem L2
def topS (i : Nat) : Stmt := PySem.Challenge.pw_brimful_k58_whole_desk.main.body.getD i (.Pass ⟨0, 0, 0, 0⟩)
structure Gs (mg : Str → Option Value) : Prop where
  c_MOST_judge : ∃ u, mg "MOST_judge" = some u ∧ RelV (.int 400000) u
  c_FACTORS : ∃ u, mg "FACTORS" = some u ∧ RelV (.int 3) u
  c_MODULUS : ∃ u, mg "MODULUS" = some u ∧ RelV (.int 1000000000) u
  c_CELLS_programs : ∃ u, mg "CELLS_programs" = some u ∧ RelV (.int 60) u
  c_INPUTS_programs : ∃ u, mg "INPUTS_programs" = some u ∧ RelV (.int 60) u
  c_STEPS : ∃ u, mg "STEPS" = some u ∧ RelV (.int 20000) u
  c_NODES : ∃ u, mg "NODES" = some u ∧ RelV (.int 200) u
  c_CONSTANT : ∃ u, mg "CONSTANT" = some u ∧ RelV (.int 1000000000) u
  c_INPUTS_sources : ∃ u, mg "INPUTS_sources" = some u ∧ RelV (.int 60) u
  c_MOST_three : ∃ u, mg "MOST_three" = some u ∧ RelV (.int 20000) u
  c_CELLS_desk : ∃ u, mg "CELLS_desk" = some u ∧ RelV (.int 3) u
  c_FIGURES : ∃ u, mg "FIGURES" = some u ∧ RelV (.int 40) u
  n_bool : mg "bool" = none
  n_enumerate : mg "enumerate" = none
  n_int : mg "int" = none
  n_isinstance : mg "isinstance" = none
  n_len : mg "len" = none
  n_list : mg "list" = none
  n_max : mg "max" = none
  n_range : mg "range" = none
  n_str : mg "str" = none
  n_tuple : mg "tuple" = none
  n_zip : mg "zip" = none
/-- a def of the module, of no default -/
structure DefAt (K : PySem.W.Frag) (mg : Str → Option Value) (x : Str) (st : Stmt) : Prop where
  ex : ∃ (f : Addr) (fd : FuncData), FunD K x x (defArgs st) (defBody st) (defScope st) [] [] f fd ∧ mg x = some (.ref f)
section
variable {P : Program} {w : World} {K : PySem.W.Frag} {mg : Str → Option Value} {base : Heap}
theorem cal_of {x : Str} {st : Stmt} {N ps : List Str} {k : Nat} {sp : Sp} (F : DefAt K mg x st) (S : FnScope N ps (defScope st))
    (b : ∀ (kV doc pm : Value) (an : Option Addr) (cdv ct : Value) (us : List Value), us.length = ps.length → bindArgs (PySem.W.fnOf x x (defArgs st) (defBody st) (defScope st) .none kV doc pm an cdv ct) ⟨us, []⟩ = pure (ps.zip us))
    (len : ∀ vs H Q E, sp vs H Q E → vs.length = ps.length)
    (hbody : ∀ (f : Addr) (cdv : Value) (A : Around) (outer : List Env) (s : Shared) (H : Hp) (vs : List V) (Q : VK) (E : XK), Room k (A.deeper (PyProof.Rows.envOfC x (defScope st) s.heap.objs.size f cdv)) → sp vs H Q E →
      ∃ t, PSs (cxOf CX0 P w K mg base N x (defScope st) f cdv A outer s H E).nox (defBody st) t ∧ t ⟨fun _ H' => Q .non H', Q, fun _ _ => False, fun _ _ => False⟩ (start N vs) H) : C8.Cal P w K mg base (k + 1) x sp [] := by
  obtain ⟨f, fd, D, m⟩ := F.ex
  refine ⟨f, fd, ps, [], FunD.ok D S len fun cdv A outer s H vs Q E hr h => ?_, m, D.kp, FunD.bindsN D b, .nil⟩
  obtain ⟨t, h1, h2⟩ := hbody f cdv A outer s H vs Q E hr h
  exact ⟨t, h1.nox, h2⟩
theorem fn_of {x qual : Str} {st : Stmt} {f : Addr} {fd : FuncData} {N ps : List Str} {k : Nat} {sp : Sp} (D : FunD K x qual (defArgs st) (defBody st) (defScope st) [] [] f fd) (S : FnScope N ps (defScope st))
    (len : ∀ vs H Q E, sp vs H Q E → vs.length = ps.length)
    (hbody : ∀ (cdv : Value) (A : Around) (outer : List Env) (s : Shared) (H : Hp) (vs : List V) (Q : VK) (E : XK), Room k (A.deeper (PyProof.Rows.envOfC qual (defScope st) s.heap.objs.size f cdv)) → sp vs H Q E →
      ∃ t, PSs (cxOf CX0 P w K mg base N qual (defScope st) f cdv A outer s H E).nox (defBody st) t ∧ t ⟨fun _ H' => Q .non H', Q, fun _ _ => False, fun _ _ => False⟩ (start N vs) H) : FnOk P w K mg base CX0 (k + 1) f fd ps sp :=
  FunD.ok D S len fun cdv A outer s H vs Q E hr h => by
    obtain ⟨t, h1, h2⟩ := hbody cdv A outer s H vs Q E hr h
    exact ⟨t, h1.nox, h2⟩
end
end Bf
/-! plain mathematics of numbers.py -/
namespace Bf
/-- n is a prime, by trial division -/
def Pr (n : Int) : Prop := ∀ d : Int, 2 ≤ d → d * d ≤ n → n % d ≠ 0
theorem pr_even {n : Int} (h2 : 2 ≤ n) (he : n % 2 = 0) : Pr n ↔ n = 2 := by
  constructor
  · intro h
    by_cases h4 : n = 2
    · exact h4
    · exact absurd he (h 2 (by omega) (by omega))
  · intro e d hd hdd
    subst e
    have : d * d ≥ 2 * 2 := Int.mul_le_mul hd hd (by omega) (by omega)
    omega
theorem dvd_mod {n d : Int} : n % d = 0 ↔ d ∣ n := ⟨Int.dvd_of_emod_eq_zero, Int.emod_eq_zero_of_dvd⟩
/-- odd n: no divisor below d; then none below d + 2 -/
theorem pr_step {n d : Int} (ho : n % 2 ≠ 0) (hd : d % 2 = 1) (h : ∀ e : Int, 2 ≤ e → e < d → n % e ≠ 0) (hn : n % d ≠ 0) : ∀ e : Int, 2 ≤ e → e < d + 2 → n % e ≠ 0 := by
  intro e h2 he
  by_cases h1 : e < d
  · exact h e h2 h1
  · by_cases h3 : e = d
    · subst h3; exact hn
    · have h4 : e = d + 1 := by omega
      intro hz
      apply ho
      have hdv : e ∣ n := dvd_mod.mp hz
      have h2e : (2 : Int) ∣ e := by
        apply dvd_mod.mp
        omega
      exact dvd_mod.mpr (Int.dvd_trans h2e hdv)
theorem pr_end {n d : Int} (h : ∀ e : Int, 2 ≤ e → e < d → n % e ≠ 0) (hd : 0 ≤ d) (hdd : n < d * d) : Pr n := by
  intro e h2 hee
  apply h e h2
  apply Int.lt_of_not_ge
  intro hge
  have : d * d ≤ e * e := Int.mul_le_mul hge hge hd (by omega)
  omega
/-! ### inverses -/
/-- v is the inverse of n modulo m -/
def IsInv (m n v : Int) : Prop := 0 ≤ v ∧ v < m ∧ v * n % m = 1
theorem inv_one {m n v w : Int} (hm : 2 ≤ m) (hv : IsInv m n v) (hw : IsInv m n w) : v = w := by
  obtain ⟨v0, v1, v2⟩ := hv
  obtain ⟨w0, w1, w2⟩ := hw
  have e : (v - w) % m = 0 := by
    have h1 : v * (w * n) % m = v % m := by
      rw [Int.mul_emod, w2, Int.mul_one, Int.emod_emod]
    have h2 : w * (v * n) % m = w % m := by
      rw [Int.mul_emod, v2, Int.mul_one, Int.emod_emod]
    have h3 : v * (w * n) = w * (v * n) := by rw [← Int.mul_assoc, ← Int.mul_assoc, Int.mul_comm v w]
    rw [h3] at h1
    have h4 : v % m = w % m := h1.symm.trans h2
    exact Int.emod_eq_zero_of_dvd (Int.dvd_of_emod_eq_zero (by rw [Int.sub_emod, h4, Int.sub_self, Int.zero_emod]))
  have h5 : v % m = v := Int.emod_eq_of_lt v0 v1
  have h6 : w % m = w := Int.emod_eq_of_lt w0 w1
  obtain ⟨k, hk⟩ := dvd_mod.mp e
  have : k = 0 := by
    by_cases h0 : k = 0
    · exact h0
    · exfalso
      rcases Int.lt_or_gt_of_ne h0 with hl | hg
      · have : m * k ≤ m * (-1) := Int.mul_le_mul_of_nonneg_left (by omega) (by omega)
        omega
      · have : m * 1 ≤ m * k := Int.mul_le_mul_of_nonneg_left (by omega) (by omega)
        omega
  subst this
  omega
open Classical in
noncomputable def invOf (n m : Int) : Int := if h : ∃ v, IsInv m n v then h.choose else 0
theorem invOf_is {m n v : Int} (h : IsInv m n v) : IsInv m n (invOf n m) := by
  unfold invOf
  have hh : ∃ v, IsInv m n v := ⟨v, h⟩
  rw [dif_pos hh]
  exact hh.choose_spec
theorem invOf_eq {m n v : Int} (hm : 2 ≤ m) (h : IsInv m n v) : invOf n m = v := inv_one hm (invOf_is h) h
/-- the extended Euclid's turn -/
structure Eu (n m r o a b : Int) : Prop where
  r0 : 0 ≤ r
  r1 : r ≤ m
  o0 : 0 ≤ o
  o1 : o ≤ m
  ra : (r - a * n) % m = 0
  ob : (o - b * n) % m = 0
  g : Int.gcd r o = Int.gcd n m
theorem gcd_mod (m n : Int) : Int.gcd m (n % m) = Int.gcd m n := by
  have e : n % m = n - n / m * m := by
    have := Int.emod_add_mul_ediv n m
    rw [Int.mul_comm] at this
    omega
  rw [e, Int.gcd_sub_mul_right_right]
theorem eu_start {n m : Int} (hm : 2 ≤ m) : Eu n m (n % m) m 1 0 where
  r0 := Int.emod_nonneg n (by omega)
  r1 := Int.le_of_lt (Int.emod_lt_of_pos n (by omega))
  o0 := by omega
  o1 := Int.le_refl m
  ra := by
    rw [Int.one_mul]
    apply Int.emod_eq_zero_of_dvd
    have : n % m - n = m * -(n / m) := by
      have := Int.emod_add_mul_ediv n m
      rw [Int.mul_neg]
      omega
    exact ⟨_, this⟩
  ob := by
    rw [Int.zero_mul, Int.sub_zero]
    exact Int.emod_self
  g := by
    rw [Int.gcd_comm, Int.gcd_comm n m, gcd_mod]
theorem eu_turn {n m r o a b : Int} (h : Eu n m r o a b) (ho : 0 < o) : Eu n m o (r - r / o * o) b (a - r / o * b) ∧ r - r / o * o < o ∧ 0 ≤ r - r / o * o ∧ 0 ≤ r / o ∧ r / o ≤ m := by
  have e : r - r / o * o = r % o := by
    have := Int.emod_add_mul_ediv r o
    rw [Int.mul_comm] at this
    omega
  have l0 := Int.emod_nonneg r (show o ≠ 0 by omega)
  have l1 := Int.emod_lt_of_pos r ho
  have q0 : 0 ≤ r / o := Int.ediv_nonneg h.r0 (by omega)
  have q1 : r / o ≤ r := Int.ediv_le_self o h.r0
  refine ⟨⟨h.o0, h.o1, by omega, by have := h.o1; omega, h.ob, ?_, ?_⟩, by omega, by omega, q0, by have := h.r1; omega⟩
  · have h1 := dvd_mod.mp h.ra
    have h2 := dvd_mod.mp h.ob
    apply dvd_mod.mpr
    have : r - r / o * o - (a - r / o * b) * n = (r - a * n) - r / o * (o - b * n) := by
      rw [Int.sub_mul, Int.mul_sub, Int.mul_assoc]
      omega
    rw [this]
    exact Int.dvd_sub h1 (Int.dvd_trans h2 (Int.dvd_mul_left _ _))
  · rw [e, ← h.g, gcd_mod, Int.gcd_comm]
theorem eu_end {n m r a b : Int} (hm : 2 ≤ m) (h : Eu n m r 0 a b) : (r = 1 ↔ Int.gcd n m = 1) ∧ (r = 1 → IsInv m n (a % m)) := by
  have g := h.g
  rw [Int.gcd_zero_right] at g
  have r0 := h.r0
  refine ⟨by omega, fun e => ⟨Int.emod_nonneg a (by omega), Int.emod_lt_of_pos a (by omega), ?_⟩⟩
  have h1 := h.ra
  rw [e] at h1
  obtain ⟨k, hk⟩ := dvd_mod.mp h1
  have : a * n = 1 + m * (-k) := by
    rw [Int.mul_neg]
    omega
  rw [Int.mul_emod, Int.emod_emod, ← Int.mul_emod, this, Int.add_mul_emod_self_left]
  exact Int.emod_eq_of_lt (by omega) (by omega)
end Bf
/-! plain mathematics: weights, interpolate -/
namespace Bf
/-- the product of (x - j) over j in range(K) but i, modulo p -/
def wprod (p x i : Int) (js : List Nat) : Int := js.foldl (fun (acc : Int) (j : Nat) => if (j : Int) ≠ i then acc * (x - j) % p else acc) 1
noncomputable def wgt (p : Int) (K : Nat) (x : Int) (i : Nat) : Int := wprod p x i (List.range K) * invOf (wprod p i i (List.range K)) p % p
noncomputable def wgts (p : Int) (K : Nat) (x : Int) : List Int := (List.range K).map (wgt p K x)
/-- every number from 1 to K - 1 is a unit modulo p -/
def Units (p : Int) (K : Nat) : Prop := ∀ d : Nat, 1 ≤ d → d < K → Int.gcd (d : Int) p = 1
theorem wprod_bd {p x i : Int} (hp : 2 ≤ p) (js : List Nat) : 0 ≤ wprod p x i js ∧ wprod p x i js < p := by
  unfold wprod
  suffices h : ∀ (acc : Int), 0 ≤ acc → acc < p → 0 ≤ js.foldl (fun (acc : Int) (j : Nat) => if (j : Int) ≠ i then acc * (x - j) % p else acc) acc ∧ js.foldl (fun (acc : Int) (j : Nat) => if (j : Int) ≠ i then acc * (x - j) % p else acc) acc < p from h 1 (by omega) (by omega)
  induction js with
  | nil => intro acc h0 h1; exact ⟨h0, h1⟩
  | cons j r ih =>
    intro acc h0 h1
    rw [List.foldl_cons]
    by_cases e : (j : Int) ≠ i
    · rw [if_pos e]
      exact ih _ (Int.emod_nonneg _ (by omega)) (Int.emod_lt_of_pos _ (by omega))
    · rw [if_neg e]
      exact ih _ h0 h1
theorem gcd_mul_mod {a b p : Int} (ha : Int.gcd a p = 1) (hb : Int.gcd b p = 1) : Int.gcd (a * b % p) p = 1 := by
  rw [Int.gcd_comm, gcd_mod, Int.gcd_comm]
  have h1 : Nat.Coprime a.natAbs p.natAbs := ha
  have h2 : Nat.Coprime b.natAbs p.natAbs := hb
  show Nat.gcd (a * b).natAbs p.natAbs = 1
  rw [Int.natAbs_mul]
  exact Nat.Coprime.mul_left h1 h2
theorem gcd_diff {p : Int} {K i j : Nat} (u : Units p K) (hi : i < K) (hj : j < K) (hne : (j : Int) ≠ (i : Int)) : Int.gcd ((i : Int) - j) p = 1 := by
  rcases Nat.lt_or_ge j i with h | h
  · have e : (i : Int) - j = ((i - j : Nat) : Int) := by omega
    rw [e]
    exact u _ (by omega) (by omega)
  · have e : (i : Int) - j = -((j - i : Nat) : Int) := by omega
    rw [e, Int.neg_gcd]
    exact u _ (by omega) (by omega)
theorem wprod_unit {p : Int} {K i : Nat} (u : Units p K) (hi : i < K) (js : List Nat) (hjs : ∀ j ∈ js, j < K) : Int.gcd (wprod p i i js) p = 1 := by
  unfold wprod
  suffices h : ∀ (acc : Int), Int.gcd acc p = 1 → Int.gcd (js.foldl (fun (acc : Int) (j : Nat) => if (j : Int) ≠ i then acc * ((i : Int) - j) % p else acc) acc) p = 1 from h 1 (by simp)
  induction js with
  | nil => intro acc h; exact h
  | cons j r ih =>
    intro acc h
    rw [List.foldl_cons]
    have hr : ∀ j ∈ r, j < K := fun j hj => hjs j (List.mem_cons_of_mem _ hj)
    by_cases e : (j : Int) ≠ i
    · rw [if_pos e]
      exact ih hr _ (gcd_mul_mod h (gcd_diff u hi (hjs j List.mem_cons_self) e))
    · rw [if_neg e]
      exact ih hr _ h
theorem unit_inv {n m : Int} (hm : 2 ≤ m) (h : Int.gcd n m = 1) : ∃ v, IsInv m n v := by
  -- the extended Euclid's run, as far as it goes
  have run : ∀ (k : Nat) (r o a b : Int), o.toNat = k → Eu n m r o a b → ∃ v, IsInv m n v := by
    intro k
    induction k using Nat.strongRecOn with
    | ind k ih =>
      intro r o a b hk eu
      by_cases ho : 0 < o
      · obtain ⟨t1, t2, t3, _, _⟩ := eu_turn eu ho
        exact ih _ (by omega) _ _ _ _ rfl t1
      · have o0 : o = 0 := by
          have := eu.o0
          omega
        subst o0
        obtain ⟨g1, g2⟩ := eu_end hm eu
        exact ⟨_, g2 (g1.mpr h)⟩
  exact run _ _ _ _ _ rfl (eu_start hm)
theorem invOf_unit {n m : Int} (hm : 2 ≤ m) (h : Int.gcd n m = 1) : IsInv m n (invOf n m) := by
  obtain ⟨v, hv⟩ := unit_inv hm h
  exact invOf_is hv
theorem inv_gcd {n m v : Int} (h : IsInv m n v) : Int.gcd v m = 1 := by
  obtain ⟨_, _, h2⟩ := h
  have h1 : ((Int.gcd v m : Nat) : Int) ∣ v := Int.gcd_dvd_left ..
  have h3 : ((Int.gcd v m : Nat) : Int) ∣ m := Int.gcd_dvd_right ..
  have h4 : ((Int.gcd v m : Nat) : Int) ∣ 1 := by
    have e : (1 : Int) = v * n - m * (v * n / m) := by
      have := Int.emod_add_mul_ediv (v * n) m
      omega
    rw [e]
    exact Int.dvd_sub (Int.dvd_trans h1 (Int.dvd_mul_right ..)) (Int.dvd_trans h3 (Int.dvd_mul_right ..))
  have h5 := Int.eq_one_of_dvd_one (by omega) h4
  omega
theorem inv_gcd_n {n m v : Int} (h : IsInv m n v) : Int.gcd n m = 1 := by
  obtain ⟨_, _, h2⟩ := h
  have h1 : ((Int.gcd n m : Nat) : Int) ∣ n := Int.gcd_dvd_left ..
  have h3 : ((Int.gcd n m : Nat) : Int) ∣ m := Int.gcd_dvd_right ..
  have h4 : ((Int.gcd n m : Nat) : Int) ∣ 1 := by
    have e : (1 : Int) = v * n - m * (v * n / m) := by
      have := Int.emod_add_mul_ediv (v * n) m
      omega
    rw [e]
    exact Int.dvd_sub (Int.dvd_trans h1 (Int.dvd_mul_left ..)) (Int.dvd_trans h3 (Int.dvd_mul_right ..))
  have h5 := Int.eq_one_of_dvd_one (by omega) h4
  omega
theorem wgts_len (p : Int) (K : Nat) (x : Int) : (wgts p K x).length = K := by simp [wgts]
theorem wgts_bd {p : Int} (hp : 2 ≤ p) {K : Nat} {x w : Int} (h : w ∈ wgts p K x) : 0 ≤ w ∧ w < p := by
  unfold wgts at h
  obtain ⟨i, _, rfl⟩ := List.mem_map.mp h
  exact ⟨Int.emod_nonneg _ (by omega), Int.emod_lt_of_pos _ (by omega)⟩
/-- the two loops of interpolate -/
def inner (cols row : List Int) : Int := (row.zip cols).foldl (fun part (q : Int × Int) => part + q.1 * q.2) 0
def outer (p : Int) (cols : List Int) (rows : List (List Int × Int)) : Int := rows.foldl (fun total (q : List Int × Int) => (total + q.2 * inner cols q.1) % p) 0
noncomputable def itp (tb : List (List Int)) (p x y : Int) : Int :=
  if (0 ≤ x ∧ x < tb.length) ∧ 0 ≤ y ∧ y < tb.length then (tb.getD x.toNat []).getD y.toNat 0 % p
  else outer p (wgts p tb.length y) (tb.zip (wgts p tb.length x))
/-- a table of K rows of K numbers -/
structure IsTab (p : Int) (tb : List (List Int)) : Prop where
  pos : 1 ≤ tb.length
  sq : ∀ row ∈ tb, row.length = tb.length
  bd : ∀ row ∈ tb, ∀ e ∈ row, 0 ≤ e ∧ e < p
end Bf
/-! the steps: data, validity, inverse, what perform does -/
namespace Bf
open PySem
inductive Fac where
  | cell (i : Int) | inp (i : Int)
def Fac.d : Fac → Dt
  | .cell i => .t [.s "cell", .i i]
  | .inp i => .t [.s "input", .i i]
def Fac.ok (t c n : Int) : Fac → Prop
  | .cell i => (0 ≤ i ∧ i < c) ∧ i ≠ t
  | .inp i => 0 ≤ i ∧ i < n
inductive Step where
  | add (t k : Int) (fs : List Fac)
  | scale (t k : Int)
  | swap (a b : Int)
  | table (t s : Int) (tb : List (List Int)) (a b : Int)
def tabD (tb : List (List Int)) : Dt := .t (tb.map fun r => .t (r.map .i))
def Step.d : Step → Dt
  | .add t k fs => .t [.s "add", .i t, .i k, .t (fs.map Fac.d)]
  | .scale t k => .t [.s "scale", .i t, .i k]
  | .swap a b => .t [.s "swap", .i a, .i b]
  | .table t s tb a b => .t [.s "table", .i t, .i s, tabD tb, .i a, .i b]
structure Look (m c t s : Int) (tb : List (List Int)) (a b : Int) : Prop where
  ht : 0 ≤ t ∧ t < c
  ha : 0 ≤ a ∧ a < c
  hb : 0 ≤ b ∧ b < c
  hta : t ≠ a
  htb : t ≠ b
  hab : a ≠ b
  hs : s = 1 ∨ s = m - 1
  tab : IsTab m tb
  le : (tb.length : Int) ≤ m
  sz : tb.length ≤ 1000000
  un : Units m tb.length
def Step.ok (m c n : Int) : Step → Prop
  | .add t k fs => (0 ≤ t ∧ t < c) ∧ (0 ≤ k ∧ k < m) ∧ fs.length ≤ 3 ∧ ∀ f ∈ fs, f.ok t c n
  | .scale t k => (0 ≤ t ∧ t < c) ∧ (0 ≤ k ∧ k < m) ∧ Int.gcd k m = 1
  | .swap a b => (0 ≤ a ∧ a < c) ∧ (0 ≤ b ∧ b < c) ∧ a ≠ b
  | .table t s tb a b => Look m c t s tb a b
def Step.isTable : Step → Bool
  | .table .. => true
  | _ => false
noncomputable def Step.inv (m : Int) : Step → Step
  | .add t k fs => .add t (-k % m) fs
  | .scale t k => .scale t (invOf k m)
  | .swap a b => .swap a b
  | .table t s tb a b => .table t (m - s) tb a b
theorem neg_emod {k m : Int} (h0 : 0 ≤ k) (h1 : k < m) : -k % m = if k = 0 then 0 else m - k := by
  by_cases h : k = 0
  · subst h; simp
  · rw [if_neg h]
    have : -k = m - k + m * (-1) := by omega
    rw [this, Int.add_mul_emod_self_left]
    exact Int.emod_eq_of_lt (by omega) (by omega)
theorem neg_emod' {k m : Int} (h0 : 0 ≤ k) (h1 : k < m) : (m - k) % m = -k % m := by
  have : m - k = -k + m * 1 := by omega
  rw [this, Int.add_mul_emod_self_left]
theorem invOf_gcd {k m : Int} (hm : 2 ≤ m) (h : Int.gcd k m = 1) : Int.gcd (invOf k m) m = 1 := inv_gcd (invOf_unit hm h)
theorem invOf_invOf {k m : Int} (hm : 2 ≤ m) (h0 : 0 ≤ k) (h1 : k < m) (h : Int.gcd k m = 1) : invOf (invOf k m) m = k := by
  have i1 := invOf_unit hm h
  refine invOf_eq hm ⟨h0, h1, ?_⟩
  rw [Int.mul_comm]
  exact i1.2.2
theorem Step.inv_ok {m c n : Int} (hm : 2 ≤ m) : ∀ {s : Step}, s.ok m c n → (s.inv m).ok m c n
  | .add t k fs, h => ⟨h.1, ⟨Int.emod_nonneg _ (by omega), Int.emod_lt_of_pos _ (by omega)⟩, h.2.2.1, h.2.2.2⟩
  | .scale t k, h => ⟨h.1, ⟨(invOf_unit hm h.2.2).1, (invOf_unit hm h.2.2).2.1⟩, invOf_gcd hm h.2.2⟩
  | .swap a b, h => h
  | .table t s tb a b, h => { h with hs := by rcases h.hs with e | e <;> subst e <;> omega }
theorem Step.inv_inv {m c n : Int} (hm : 2 ≤ m) : ∀ {s : Step}, s.ok m c n → (s.inv m).inv m = s
  | .add t k fs, h => by
    obtain ⟨_, ⟨h0, h1⟩, _⟩ := h
    show Step.add t (-(-k % m) % m) fs = _
    rw [neg_emod h0 h1]
    by_cases hk : k = 0
    · subst hk; simp
    · rw [if_neg hk, neg_emod (by omega) (by omega), if_neg (by omega)]
      rw [show m - (m - k) = k by omega]
  | .scale t k, h => by
    show Step.scale t (invOf (invOf k m) m) = _
    rw [invOf_invOf hm h.2.1.1 h.2.1.2 h.2.2]
  | .swap a b, h => rfl
  | .table t s tb a b, h => by
    show Step.table t (m - (m - s)) tb a b = _
    rw [show m - (m - s) = s by omega]
theorem Step.inv_table {m : Int} : ∀ {s : Step}, (s.inv m).isTable = s.isTable
  | .add .. => rfl
  | .scale .. => rfl
  | .swap .. => rfl
  | .table .. => rfl
/-! ### what perform does -/
def gt (l : List Int) (i : Int) : Int := l.getD i.toNat 0
def facV (mem given : List Int) : Fac → Int
  | .cell i => gt mem i
  | .inp i => gt given i
def tot (m : Int) (mem given : List Int) (k : Int) (fs : List Fac) : Int := fs.foldl (fun (total : Int) f => total * facV mem given f % m) k
noncomputable def perf (m : Int) (given mem : List Int) : Step → List Int
  | .add t k fs => mem.set t.toNat ((gt mem t + tot m mem given k fs) % m)
  | .scale t k => mem.set t.toNat (gt mem t * k % m)
  | .swap a b => (mem.set a.toNat (gt mem b)).set b.toNat (gt mem a)
  | .table t s tb a b => mem.set t.toNat ((gt mem t + s * itp tb m (gt mem a) (gt mem b)) % m)
theorem perf_add {m : Int} {given mem : List Int} {t k : Int} {fs : List Fac} : perf m given mem (.add t k fs) = mem.set t.toNat ((gt mem t + tot m mem given k fs) % m) := rfl
theorem perf_scale {m : Int} {given mem : List Int} {t k : Int} : perf m given mem (.scale t k) = mem.set t.toNat (gt mem t * k % m) := rfl
theorem perf_swap {m : Int} {given mem : List Int} {a b : Int} : perf m given mem (.swap a b) = (mem.set a.toNat (gt mem b)).set b.toNat (gt mem a) := rfl
theorem perf_table {m : Int} {given mem : List Int} {t s a b : Int} {tb : List (List Int)} : perf m given mem (.table t s tb a b) = mem.set t.toNat ((gt mem t + s * itp tb m (gt mem a) (gt mem b)) % m) := rfl
/-- a memory: c numbers in range -/
def Mem (m c : Int) (l : List Int) : Prop := (l.length : Int) = c ∧ ∀ x ∈ l, 0 ≤ x ∧ x < m
theorem gt_bd {m c : Int} {l : List Int} (h : Mem m c l) {i : Int} (h0 : 0 ≤ i) (h1 : i < c) : 0 ≤ gt l i ∧ gt l i < m := by
  have e : i.toNat < l.length := by have := h.1; omega
  unfold gt
  rw [List.getD_eq_getElem?_getD, List.getElem?_eq_getElem e]
  exact h.2 _ (List.getElem_mem e)
theorem gt_at {l : List Int} {i : Int} (h0 : 0 ≤ i) (h1 : i < l.length) : l[i.toNat]? = some (gt l i) := by
  have e : i.toNat < l.length := by omega
  unfold gt
  rw [List.getD_eq_getElem?_getD, List.getElem?_eq_getElem e]
  rfl
theorem gt_set {l : List Int} {i j : Int} {x : Int} (hi : 0 ≤ i) (hj : 0 ≤ j) (h1 : i < l.length) : gt (l.set i.toNat x) j = if j = i then x else gt l j := by
  unfold gt
  rw [List.getD_eq_getElem?_getD, List.getD_eq_getElem?_getD, List.getElem?_set]
  by_cases e : j = i
  · subst e
    rw [if_pos rfl, if_pos rfl, if_pos (by omega)]
    rfl
  · rw [if_neg e, if_neg (by omega)]
theorem Mem.set {m c : Int} {l : List Int} (h : Mem m c l) (i : Nat) {x : Int} (hx : 0 ≤ x ∧ x < m) : Mem m c (l.set i x) := by
  refine ⟨by rw [List.length_set]; exact h.1, fun y hy => ?_⟩
  rcases List.mem_or_eq_of_mem_set hy with q | q
  · exact h.2 y q
  · rw [q]; exact hx
theorem perf_mem {m c n : Int} (hm : 2 ≤ m) {given mem : List Int} (h : Mem m c mem) : ∀ {s : Step}, s.ok m c n → Mem m c (perf m given mem s)
  | .add t k fs, _ => h.set _ ⟨Int.emod_nonneg _ (by omega), Int.emod_lt_of_pos _ (by omega)⟩
  | .scale t k, _ => h.set _ ⟨Int.emod_nonneg _ (by omega), Int.emod_lt_of_pos _ (by omega)⟩
  | .swap a b, o => (h.set _ (gt_bd h o.2.1.1 o.2.1.2)).set _ (gt_bd h o.1.1 o.1.2)
  | .table t s tb a b, _ => h.set _ ⟨Int.emod_nonneg _ (by omega), Int.emod_lt_of_pos _ (by omega)⟩
theorem set_back {l : List Int} {i : Int} {x y : Int} (h0 : 0 ≤ i) (h1 : i < l.length) (e : y = gt l i) : (l.set i.toNat x).set i.toNat y = l := by
  rw [List.set_set, e]
  have e2 : i.toNat < l.length := by omega
  unfold gt
  rw [List.getD_eq_getElem?_getD, List.getElem?_eq_getElem e2]
  exact List.set_getElem_self e2
/-- congruence modulo m -/
theorem tot_cong {m : Int} {mem mem' given : List Int} : ∀ {fs : List Fac} {k k' : Int}, (∀ f ∈ fs, facV mem given f = facV mem' given f) → (k + k') % m = 0 → (tot m mem given k fs + tot m mem' given k' fs) % m = 0
  | [], _, _, _, h => h
  | f :: r, k, k', he, h => by
    refine tot_cong (fs := r) (k := k * facV mem given f % m) (k' := k' * facV mem' given f % m) (fun g hg => he g (List.mem_cons_of_mem _ hg)) ?_
    rw [← he f List.mem_cons_self, ← Int.add_emod, ← Int.add_mul, Int.mul_emod, h, Int.zero_mul, Int.zero_emod]
theorem add_cancel {m x u v : Int} (h0 : 0 ≤ x) (h1 : x < m) (h : (u + v) % m = 0) : ((x + u) % m + v) % m = x := by
  rw [Int.emod_add_emod, Int.add_assoc, Int.add_emod, h, Int.add_zero, Int.emod_emod, Int.emod_eq_of_lt h0 h1]
theorem perf_undo {m c n : Int} (hm : 2 ≤ m) {given mem : List Int} (h : Mem m c mem) : ∀ {s : Step}, s.ok m c n → perf m given (perf m given mem s) (s.inv m) = mem
  | .add t k fs, o => by
    obtain ⟨⟨t0, t1⟩, ⟨k0, k1⟩, _, hf⟩ := o
    have hb := gt_bd h t0 t1
    have hl := h.1
    rw [show Step.inv m (.add t k fs) = .add t (-k % m) fs from rfl, perf_add, perf_add]
    refine set_back t0 (by omega) ?_
    rw [gt_set t0 t0 (by omega), if_pos rfl]
    refine add_cancel hb.1 hb.2 (tot_cong (fun f hm' => ?_) ?_)
    · have := hf f hm'
      cases f with
      | inp i => rfl
      | cell i =>
        show gt mem i = gt (mem.set _ _) i
        rw [gt_set t0 this.1.1 (by omega), if_neg this.2]
    · rw [Int.add_emod, Int.emod_emod, ← Int.add_emod, Int.add_right_neg, Int.zero_emod]
  | .scale t k, o => by
    obtain ⟨⟨t0, t1⟩, ⟨k0, k1⟩, hg⟩ := o
    have hb := gt_bd h t0 t1
    have hl := h.1
    rw [show Step.inv m (.scale t k) = .scale t (invOf k m) from rfl, perf_scale, perf_scale]
    refine set_back t0 (by omega) ?_
    rw [gt_set t0 t0 (by omega), if_pos rfl]
    have hi := invOf_unit hm hg
    rw [Int.mul_emod, Int.emod_emod, ← Int.mul_emod, Int.mul_assoc, Int.mul_emod, Int.mul_comm k, hi.2.2, Int.mul_one, Int.emod_emod, Int.emod_eq_of_lt hb.1 hb.2]
  | .swap a b, o => by
    obtain ⟨⟨a0, a1⟩, ⟨b0, b1⟩, hab⟩ := o
    have hl := h.1
    rw [show Step.inv m (.swap a b) = .swap a b from rfl, perf_swap, perf_swap]
    rw [gt_set b0 b0 (by rw [List.length_set]; omega), if_pos rfl, gt_set b0 a0 (by rw [List.length_set]; omega), if_neg hab, gt_set a0 a0 (by omega), if_pos rfl]
    refine List.ext_getElem? fun i => ?_
    rw [List.getElem?_set, List.getElem?_set, List.getElem?_set, List.getElem?_set]
    simp only [List.length_set]
    have ea := gt_at (l := mem) a0 (by omega)
    have eb := gt_at (l := mem) b0 (by omega)
    by_cases e1 : b.toNat = i
    · subst e1
      rw [if_pos rfl, if_pos (by omega), eb]
    · rw [if_neg e1]
      by_cases e2 : a.toNat = i
      · subst e2
        rw [if_pos rfl, if_pos (by omega), ea]
      · rw [if_neg e2, if_neg e1, if_neg e2]
  | .table t s tb a b, o => by
    obtain ⟨t0, t1⟩ := o.ht
    have hb := gt_bd h t0 t1
    have hl := h.1
    rw [show Step.inv m (.table t s tb a b) = .table t (m - s) tb a b from rfl, perf_table, perf_table]
    refine set_back t0 (by omega) ?_
    rw [gt_set t0 t0 (by omega), if_pos rfl, gt_set t0 o.ha.1 (by omega), if_neg (fun e => o.hta e.symm), gt_set t0 o.hb.1 (by omega), if_neg (fun e => o.htb e.symm)]
    refine add_cancel hb.1 hb.2 ?_
    rw [← Int.add_mul, show s + (m - s) = m by omega, Int.mul_emod_right]
/-! ### a whole program -/
noncomputable def runs (m : Int) (given mem : List Int) (ss : List Step) : List Int := ss.foldl (perf m given) mem
noncomputable def inverse (m : Int) (ss : List Step) : List Step := (ss.map (Step.inv m)).reverse
theorem runs_mem {m c n : Int} (hm : 2 ≤ m) {given : List Int} : ∀ {ss : List Step} {mem : List Int}, Mem m c mem → (∀ s ∈ ss, s.ok m c n) → Mem m c (runs m given mem ss)
  | [], _, h, _ => h
  | s :: r, _, h, o => runs_mem (ss := r) hm (perf_mem hm h (o s List.mem_cons_self)) fun x hx => o x (List.mem_cons_of_mem _ hx)
theorem runs_undo {m c n : Int} (hm : 2 ≤ m) {given : List Int} : ∀ {ss : List Step} {mem : List Int}, Mem m c mem → (∀ s ∈ ss, s.ok m c n) → runs m given (runs m given mem ss) (inverse m ss) = mem
  | [], _, _, _ => rfl
  | s :: r, mem, h, o => by
    have h1 := perf_mem hm (given := given) h (o s List.mem_cons_self)
    have ih := runs_undo (ss := r) hm (given := given) h1 fun x hx => o x (List.mem_cons_of_mem _ hx)
    unfold inverse
    rw [List.map_cons, List.reverse_cons]
    unfold runs at ih ⊢
    rw [List.foldl_append, List.foldl_cons (l := r)]
    unfold inverse at ih
    rw [ih]
    exact perf_undo hm h (o s List.mem_cons_self)
theorem inverse_ok {m c n : Int} (hm : 2 ≤ m) {ss : List Step} (o : ∀ s ∈ ss, s.ok m c n) : ∀ s ∈ inverse m ss, s.ok m c n := by
  intro s hs
  unfold inverse at hs
  rw [List.mem_reverse] at hs
  obtain ⟨x, hx, rfl⟩ := List.mem_map.mp hs
  exact Step.inv_ok hm (o x hx)
theorem inverse_inverse {m c n : Int} (hm : 2 ≤ m) {ss : List Step} (o : ∀ s ∈ ss, s.ok m c n) : inverse m (inverse m ss) = ss := by
  unfold inverse
  rw [List.map_reverse, List.reverse_reverse, List.map_map]
  conv => rhs; rw [← List.map_id ss]
  exact List.map_congr_left fun s hs => Step.inv_inv hm (o s hs)
theorem runs_undo' {m c n : Int} (hm : 2 ≤ m) {given : List Int} {ss : List Step} {mem : List Int} (h : Mem m c mem) (o : ∀ s ∈ ss, s.ok m c n) : runs m given (runs m given mem (inverse m ss)) ss = mem := by
  have := runs_undo hm (given := given) h (inverse_ok hm o)
  rwa [inverse_inverse hm o] at this
theorem inverse_len {m : Int} {ss : List Step} : (inverse m ss).length = ss.length := by simp [inverse]
open L2 in
theorem TK.kpi {d C dx : Addr} {fs : List (Str × V)} {H H' : L2.Hp} (h : H d = some (.ins C dx fs)) (k : Kp d H H') : TK H H' := fun b ys e => k b _ (ne_of e h (by intro z; cases z)) e
theorem fac_flat : ∀ f : Fac, f.d.flat = true
  | .cell _ => rfl
  | .inp _ => rfl
theorem flats_map {α : Type} {f : α → Dt} (h : ∀ x, (f x).flat = true) : ∀ l : List α, Dt.flats (l.map f) = true
  | [] => rfl
  | x :: r => by rw [List.map_cons, Dt.flats, h x, flats_map h r]; rfl
theorem tab_flat (tb : List (List Int)) : (tabD tb).flat = true := flats_map (f := fun r : List Int => Dt.t (r.map .i)) (fun r => flats_map (f := Dt.i) (fun _ => rfl) r) tb
theorem step_flat : ∀ s : Step, s.d.flat = true
  | .add t k fs => by
    show Dt.flats [.s "add", .i t, .i k, .t (fs.map Fac.d)] = true
    simp only [Dt.flats, Dt.flat, flats_map fac_flat, Bool.and_true]
  | .scale t k => rfl
  | .swap a b => rfl
  | .table t s tb a b => by
    show Dt.flats [.s "table", .i t, .i s, tabD tb, .i a, .i b] = true
    simp only [Dt.flats, Dt.flat, tab_flat, Bool.and_true]
theorem steps_flat (ss : List Step) : Dt.flats (ss.map Step.d) = true := flats_map step_flat ss
def Cg (p a b : Int) : Prop := a % p = b % p
theorem Cg.mul {p a b c d : Int} (h1 : Cg p a b) (h2 : Cg p c d) : Cg p (a * c) (b * d) := by
  unfold Cg at *
  rw [Int.mul_emod, h1, h2, ← Int.mul_emod]
theorem Cg.md {p a : Int} : Cg p (a % p) a := Int.emod_emod a p
theorem Cg.rfl' {p a : Int} : Cg p a a := rfl
end Bf
/-! a list that holds data -/
namespace Bf
open PySem L2
def LD (H : Hp) (a : Addr) (ds : List Dt) : Prop := ∃ ws, H a = some (.lst ws) ∧ RpL H ds ws
theorem RpL.unsnoc {H : Hp} {d : Dt} : ∀ {l : List Dt} {vs : List V}, RpL H (l ++ [d]) vs → ∃ ws v, vs = ws ++ [v] ∧ RpL H l ws ∧ Rp H d v
  | [], _, h => by
    obtain ⟨v, ws, e, hv, hw⟩ := h
    have e2 : ws = [] := hw
    subst e2
    exact ⟨[], v, e, rfl, hv⟩
  | _ :: _, _, h => by
    obtain ⟨w, us, e, hw, hu⟩ := h
    obtain ⟨ws, v, e1, h1, h2⟩ := RpL.unsnoc hu
    subst e e1
    exact ⟨w :: ws, v, rfl, ⟨w, ws, rfl, hw, h1⟩, h2⟩
theorem LD.nil {H : Hp} {a : Addr} (h : H a = some (.lst [])) : LD H a [] := ⟨[], h, rfl⟩
theorem LD.same {H H' : Hp} {a : Addr} {ds : List Dt} (h : LD H a ds) (s : Same H H') : LD H' a ds := by
  obtain ⟨ws, h1, h2⟩ := h
  exact ⟨ws, s _ _ h1, h2.same s⟩
theorem LD.kp {H H' : Hp} {a b : Addr} {ds : List Dt} {xs : List V} (h : LD H a ds) (f : Dt.flats ds = true) (hb : H b = some (.lst xs)) (k : Kp b H H') (ne : a ≠ b) : LD H' a ds := by
  obtain ⟨ws, h1, h2⟩ := h
  exact ⟨ws, k _ _ ne h1, h2.tk (TK.kp hb k) f⟩
theorem LD.push {H H' : Hp} {a : Addr} {ds : List Dt} {d : Dt} {ws : List V} {v : V} (h1 : H a = some (.lst ws)) (h2 : RpL H ds ws) (hv : Rp H d v) (f : Dt.flats ds = true) (fd : d.flat = true) (k : Kp a H H') (h3 : H' a = some (.lst (ws ++ [v]))) : LD H' a (ds ++ [d]) :=
  ⟨_, h3, (h2.tk (TK.kp h1 k) f).snoc (hv.tk (TK.kp h1 k) fd)⟩
theorem LD.pop {H : Hp} {a : Addr} {ds : List Dt} {d : Dt} (h : LD H a (ds ++ [d])) : ∃ ws v, H a = some (.lst (ws ++ [v])) ∧ RpL H ds ws ∧ Rp H d v := by
  obtain ⟨us, h1, h2⟩ := h
  obtain ⟨ws, v, e, h3, h4⟩ := h2.unsnoc
  subst e
  exact ⟨ws, v, h1, h3, h4⟩
theorem LD.popped {H H' : Hp} {a : Addr} {ds : List Dt} {ws : List V} {v : V} (h1 : H a = some (.lst (ws ++ [v]))) (h2 : RpL H ds ws) (f : Dt.flats ds = true) (k : Kp a H H') (h3 : H' a = some (.lst ws)) : LD H' a ds := ⟨_, h3, h2.tk (TK.kp h1 k) f⟩
theorem LD.len {H : Hp} {a : Addr} {ds : List Dt} {ws : List V} (h1 : H a = some (.lst ws)) (h : LD H a ds) : ws.length = ds.length := by
  obtain ⟨us, h2, h3⟩ := h
  rw [h1] at h2
  cases h2
  exact h3.len
theorem flats_i (l : List Int) : Dt.flats (l.map Dt.i) = true := by
  induction l with
  | nil => rfl
  | cons x r ih => rw [List.map_cons, Dt.flats, ih]; rfl
theorem none_of_same {H H' : Hp} {q : Addr} (s : Same H H') (n : H' q = none) : H q = none := by
  cases h : H q with
  | none => rfl
  | some o => rw [s _ _ h] at n; cases n
theorem n_truS {K : PySem.W.Frag} {H : Hp} {R : Bool → Hp → Prop} {p : Addr} {ws : List V} {v : V} (h : H p = some (.lst (ws ++ [v]))) (k : R true H) : rTru K (.ref p) H R := n_truL h (by
  rw [show (!(ws ++ [v]).isEmpty) = true by simp]
  exact k)
theorem flats_app : ∀ {l : List Dt} {d : Dt}, Dt.flats l = true → d.flat = true → Dt.flats (l ++ [d]) = true
  | [], d, _, h => by
    show Dt.flats [d] = true
    simp only [Dt.flats, h, Bool.and_true]
  | x :: r, d, h, h2 => by
    rw [List.cons_append, Dt.flats]
    rw [Dt.flats, Bool.and_eq_true] at h
    rw [h.1, flats_app h.2 h2]
    rfl
theorem LD.ne {H : Hp} {a b : Addr} {ds : List Dt} (h : LD H a ds) (n : H b = none) : a ≠ b := by
  obtain ⟨ws, h1, _⟩ := h
  exact ne_of_none h1 n
theorem LD.ext {H H' : Hp} {a : Addr} {ds es : List Dt} {ws us : List V} (h1 : H a = some (.lst ws)) (h2 : RpL H ds ws) (h3 : RpL H es us) (f : Dt.flats ds = true) (f2 : Dt.flats es = true) (k : Kp a H H') (h4 : H' a = some (.lst (ws ++ us))) : LD H' a (ds ++ es) :=
  ⟨_, h4, RpL.app (h3.tk (TK.kp h1 k) f2) (h2.tk (TK.kp h1 k) f)⟩
theorem flats_rev : ∀ {l : List Dt}, Dt.flats l = true → Dt.flats l.reverse = true
  | [], h => h
  | x :: r, h => by
    rw [Dt.flats, Bool.and_eq_true] at h
    rw [List.reverse_cons]
    exact flats_app (flats_rev h.2) h.1
end Bf
/-! the draws: a list [numbers, place] -/
namespace Bf
open PySem L2
/-- where they lie; the numbers -/
structure DD where
  d : Addr
  l : Addr
  ns : List Int
def Drw (D : DD) (H : Hp) : Prop := (∃ k : Int, H D.d = some (.lst [.ref D.l, .int k]) ∧ 0 ≤ k) ∧ H D.l = some (.lst (D.ns.map V.int)) ∧ ∀ x ∈ D.ns, 0 ≤ x ∧ x < 1000000
theorem Drw.same {H H' : Hp} {D : DD} (h : Drw D H) (s : Same H H') : Drw D H' := by
  obtain ⟨⟨k, h1, h2⟩, h3, h4⟩ := h
  exact ⟨⟨k, s _ _ h1, h2⟩, s _ _ h3, h4⟩
theorem Drw.ne {D : DD} {q : Addr} {H : Hp} (h : Drw D H) (n : H q = none) : q ≠ D.d := fun e => by
  obtain ⟨⟨k, h1, _⟩, _⟩ := h
  rw [e, h1] at n
  cases n
theorem Drw.nel {D : DD} {q : Addr} {H : Hp} (h : Drw D H) (n : H q = none) : q ≠ D.l := fun e => by
  obtain ⟨_, h1, _⟩ := h
  rw [e, h1] at n
  cases n
theorem Drw.ld {D : DD} {H : Hp} (h : Drw D H) : D.l ≠ D.d := fun e => by
  obtain ⟨⟨k, h1, _⟩, h3, _⟩ := h
  rw [e, h1] at h3
  cases hn : D.ns with
  | nil => rw [hn] at h3; cases h3
  | cons x r => rw [hn] at h3; cases h3
/-- all but the draws is kept, and they are draws again -/
structure Ds (D : DD) (H H' : Hp) : Prop where
  kp : Kp D.d H H'
  dr : Drw D H'
theorem Ds.trans {D : DD} {H H1 H2 : Hp} (a : Ds D H H1) (b : Ds D H1 H2) : Ds D H H2 := ⟨a.kp.trans b.kp, b.dr⟩
theorem Ds.same {D : DD} {H H1 H2 : Hp} (a : Ds D H H1) (s : Same H1 H2) : Ds D H H2 := ⟨a.kp.trans (Kp.of s), a.dr.same s⟩
theorem Ds.of {D : DD} {H H1 : Hp} (a : Drw D H) (s : Same H H1) : Ds D H H1 := ⟨Kp.of s, a.same s⟩
theorem Ds.refl {D : DD} {H : Hp} (a : Drw D H) : Ds D H H := ⟨Kp.refl D.d H, a⟩
theorem Ds.tk {D : DD} {H H' : Hp} (h : Drw D H) (a : Ds D H H') : TK H H' := by
  obtain ⟨⟨k, h1, _⟩, _⟩ := h
  exact TK.kp h1 a.kp
/-- an object that is new since the draws were there -/
theorem Ds.new {D : DD} {q : Addr} {H H1 H2 : Hp} {o : HO} (h : Drw D H) (n : H q = none) (e : H1 q = some o) (a : Ds D H1 H2) : H2 q = some o := a.kp _ _ (h.ne n) e
/-- the draws, when an object at a new address has changed -/
theorem Ds.kpn {D : DD} {q : Addr} {H H1 H2 : Hp} (h : Drw D H) (n : H q = none) (a : Ds D H H1) (k : Kp q H1 H2) : Ds D H H2 := by
  refine ⟨fun b o hb e => k _ _ (ne_of_none e n) (a.kp _ _ hb e), ?_⟩
  obtain ⟨⟨j, h1, h2⟩, h3, h4⟩ := a.dr
  exact ⟨⟨j, k _ _ (h.ne n).symm h1, h2⟩, k _ _ (h.nel n).symm h3, h4⟩
/-- a dict, an instance, a list that is no part of the draws -/
theorem Ds.kept {D : DD} {q : Addr} {H H' : Hp} {o : HO} (a : Ds D H H') (e : H q = some o) (ne : q ≠ D.d) : H' q = some o := a.kp _ _ ne e
def mixed (n k : Int) : Int := ((n * 48271 + k * 69621 + 12345) % 2147483647 * ((n * 48271 + k * 69621 + 12345) % 2147483647 / 65536 + 3) + k) % 2147483647
theorem mixed_bd (n k : Int) : 0 ≤ mixed n k ∧ mixed n k < 2147483647 := ⟨Int.emod_nonneg _ (by decide), Int.emod_lt_of_pos _ (by decide)⟩
def spMixed : Sp := fun vs H Q _ => ∃ n k : Int, vs = [.int n, .int k] ∧ Q (.int (mixed n k)) H
theorem n_mixed {n k : Int} {H : Hp} {Q : VK} {E : XK} (h : Q (.int (mixed n k)) H) : spMixed ([.int n, .int k] ++ []) H Q E := ⟨n, k, rfl, h⟩
def spDraw : Sp := fun vs H Q _ => ∃ D : DD, vs = [.ref D.d] ∧ Drw D H ∧ ∀ (v : Int) H', 0 ≤ v → v < 1000000 → Ds D H H' → Q (.int v) H'
def spLarge : Sp := fun vs H Q _ => ∃ (D : DD) (b : Int), vs = [.ref D.d, .int b] ∧ Drw D H ∧ 0 < b ∧ ∀ (v : Int) H', 0 ≤ v → v < b → Ds D H H' → Q (.int v) H'
end Bf
/-! drawn numbers, factors, steps: plain mathematics and promises -/
namespace Bf
open PySem L2
theorem n_pick {K : PySem.W.Frag} {H : Hp} {Q : VK} {p : Addr} {ns : List Int} {i : Int} (h : H p = some (.lst (ns.map V.int))) (h0 : 0 ≤ i) (h1 : i < ns.length) (k : ∀ x, x ∈ ns → Q (.int x) H) : rIx K (.ref p) (.int i) H Q := by
  have e : i.toNat < ns.length := by omega
  exact r_ixL h (at_nat h0 (by rw [List.getElem?_map, List.getElem?_eq_getElem e]; rfl)) (k _ (List.getElem_mem e))
/-! ### primes -/
theorem pr_small {n : Int} (h : (List.range n.toNat).all (fun d => decide (d < 2) || decide (n.toNat < d * d) || decide (n.toNat % d ≠ 0)) = true) (h0 : 0 ≤ n) : Pr n := by
  intro d h2 hdd hz
  have hd : d ≤ n := by
    have : d * 1 ≤ d * d := Int.mul_le_mul_of_nonneg_left (by omega) (by omega)
    omega
  have hlt : d.toNat < n.toNat := by
    have : d * 2 ≤ d * d := Int.mul_le_mul_of_nonneg_left (by omega) (by omega)
    omega
  have := List.all_eq_true.mp h d.toNat (List.mem_range.mpr hlt)
  simp only [Bool.or_eq_true, decide_eq_true_eq] at this
  rcases this with (q | q) | q
  · omega
  · have e : ((d.toNat * d.toNat : Nat) : Int) = d * d := by rw [Int.natCast_mul, Int.toNat_of_nonneg (by omega)]
    omega
  · apply q
    have e : ((n.toNat % d.toNat : Nat) : Int) = n % d := by rw [Int.natCast_emod, Int.toNat_of_nonneg h0, Int.toNat_of_nonneg (by omega)]
    omega
def trial (n : Nat) : Nat → Bool
  | 0 => true
  | k + 1 => n % (k + 2) != 0 && trial n k
theorem trial_ok {n : Nat} : ∀ {k : Nat}, trial n k = true → ∀ d, 2 ≤ d → d < k + 2 → n % d ≠ 0
  | 0, _, d, h2, hd => by omega
  | k + 1, h, d, h2, hd => by
    unfold trial at h
    rw [Bool.and_eq_true, bne_iff_ne] at h
    by_cases e : d = k + 2
    · rw [e]; exact h.1
    · exact trial_ok h.2 d h2 (by omega)
theorem pr_trial {n k : Nat} (h : trial n k = true) (hk : n < (k + 2) * (k + 2)) : Pr (n : Int) := by
  intro d h2 hdd hz
  have hd : d < (k : Int) + 2 := by
    apply Int.lt_of_not_ge
    intro hge
    have : ((k : Int) + 2) * ((k : Int) + 2) ≤ d * d := Int.mul_le_mul hge hge (by omega) (by omega)
    have e : (((k + 2) * (k + 2) : Nat) : Int) = ((k : Int) + 2) * ((k : Int) + 2) := by rw [Int.natCast_mul]; rfl
    omega
  apply trial_ok h d.toNat (by omega) (by omega)
  have e : ((n % d.toNat : Nat) : Int) = n % d := by rw [Int.natCast_emod, Int.toNat_of_nonneg (by omega)]
  omega
set_option maxRecDepth 1000000 in
theorem pr_big : Pr 999999937 := pr_trial (n := 999999937) (k := 31621) (by decide +kernel) (by decide)
theorem pr_list {x : Int} (h : x ∈ [2, 3, 5, 7, 11, 13, 101, 999999937]) : Pr x ∧ 2 ≤ x ∧ x ≤ 1000000000 := by
  simp only [List.mem_cons, List.not_mem_nil, or_false] at h
  rcases h with e | e | e | e | e | e | e | e <;> subst e
  · exact ⟨pr_trial (n := 2) (k := 0) (by decide) (by decide), by decide, by decide⟩
  · exact ⟨pr_trial (n := 3) (k := 0) (by decide) (by decide), by decide, by decide⟩
  · exact ⟨pr_trial (n := 5) (k := 1) (by decide) (by decide), by decide, by decide⟩
  · exact ⟨pr_trial (n := 7) (k := 1) (by decide) (by decide), by decide, by decide⟩
  · exact ⟨pr_trial (n := 11) (k := 2) (by decide) (by decide), by decide, by decide⟩
  · exact ⟨pr_trial (n := 13) (k := 2) (by decide) (by decide), by decide, by decide⟩
  · exact ⟨pr_trial (n := 101) (k := 9) (by decide) (by decide), by decide, by decide⟩
  · exact ⟨pr_big, by decide, by decide⟩
theorem pr_units {m : Int} (hm : 2 ≤ m) (hp : Pr m) {K : Nat} (hK : (K : Int) ≤ m) : Units m K := by
  intro d h1 hd
  have g1 : ((Int.gcd d m : Nat) : Int) ∣ (d : Int) := Int.gcd_dvd_left ..
  have g2 : ((Int.gcd d m : Nat) : Int) ∣ m := Int.gcd_dvd_right ..
  have le : ((Int.gcd d m : Nat) : Int) ≤ d := Int.le_of_dvd (by omega) g1
  have pos : 0 < Int.gcd d m := Int.gcd_pos_of_ne_zero_right _ (by omega)
  apply Nat.le_antisymm _ pos
  apply Nat.le_of_not_lt
  intro hgt
  obtain ⟨q, hq⟩ := g2
  have hq2 : 2 ≤ q := by
    apply Int.le_of_not_gt
    intro hlt
    have : q ≤ 0 ∨ q = 1 := by omega
    rcases this with z | z
    · have : ((Int.gcd d m : Nat) : Int) * q ≤ 0 := Int.mul_nonpos_of_nonneg_of_nonpos (by omega) z
      omega
    · subst z
      omega
  rcases Int.le_total ((Int.gcd d m : Nat) : Int) q with h | h
  · exact hp _ (by omega) (by
      have := Int.mul_le_mul_of_nonneg_left h (show (0 : Int) ≤ ((Int.gcd d m : Nat) : Int) by omega)
      omega) (dvd_mod.mpr ⟨q, hq⟩)
  · exact hp q hq2 (by
      have := Int.mul_le_mul_of_nonneg_right h (show (0 : Int) ≤ q by omega)
      omega) (dvd_mod.mpr ⟨_, by rw [Int.mul_comm]; exact hq⟩)
theorem unit_last {m : Int} (hm : 2 ≤ m) : Int.gcd (m - 1) m = 1 := by
  have i : IsInv m (m - 1) (m - 1) := ⟨by omega, by omega, by
    have e : (m - 1) * (m - 1) = 1 + m * (m - 2) := by
      simp only [Int.sub_mul, Int.mul_sub]
      omega
    rw [e, Int.add_mul_emod_self_left]
    exact Int.emod_eq_of_lt (by omega) (by omega)⟩
  exact inv_gcd i
/-- another place of c -/
theorem other_place {t r c : Int} (t0 : 0 ≤ t) (t1 : t < c) (r0 : 0 ≤ r) (r1 : r < c - 1) : 0 ≤ (t + 1 + r) % c ∧ (t + 1 + r) % c < c ∧ (t + 1 + r) % c ≠ t := by
  refine ⟨Int.emod_nonneg _ (by omega), Int.emod_lt_of_pos _ (by omega), ?_⟩
  by_cases h : t + 1 + r < c
  · rw [Int.emod_eq_of_lt (by omega) h]
    omega
  · have e : t + 1 + r = (t + 1 + r - c) + c * 1 := by omega
    rw [e, Int.add_mul_emod_self_left, Int.emod_eq_of_lt (by omega) (by omega)]
    omega
theorem shift_ne {t u v c : Int} (t0 : 0 ≤ t) (t1 : t < c) (u0 : 0 ≤ u) (uv : u < v) (vc : v < c) : (t + u) % c ≠ (t + v) % c := by
  have f : ∀ w, 0 ≤ w → w < c → (t + w) % c = if t + w < c then t + w else t + w - c := fun w w0 w1 => by
    by_cases h : t + w < c
    · rw [if_pos h, Int.emod_eq_of_lt (by omega) h]
    · rw [if_neg h]
      have e : t + w = (t + w - c) + c * 1 := by omega
      rw [e, Int.add_mul_emod_self_left, Int.emod_eq_of_lt (by omega) (by omega)]
      omega
  rw [f u u0 (by omega), f v (by omega) vc]
  split <;> split <;> omega
theorem mod_bd (a : Int) {b : Int} (h : 0 < b) : 0 ≤ a % b ∧ a % b < b := ⟨Int.emod_nonneg _ (by omega), Int.emod_lt_of_pos _ h⟩
/-! ### promises -/
def spModulus : Sp := fun vs H Q _ => ∃ D : DD, vs = [.ref D.d] ∧ Drw D H ∧ ∀ (v : Int) H', 2 ≤ v → v ≤ 1000000000 → Ds D H H' → Q (.int v) H'
def spNumber : Sp := fun vs H Q _ => ∃ (D : DD) (m : Int), vs = [.ref D.d, .int m] ∧ Drw D H ∧ 2 ≤ m ∧ ∀ (v : Int) H', 0 ≤ v → v < m → Ds D H H' → Q (.int v) H'
def spGcd : Sp := fun vs H Q _ => ∃ a b : Int, vs = [.int a, .int b] ∧ 0 ≤ a ∧ 0 ≤ b ∧ ∀ r : Int, (r = 1 → Int.gcd a b = 1) → Q (.int r) H
def spUnit : Sp := fun vs H Q _ => ∃ (D : DD) (m : Int), vs = [.ref D.d, .int m] ∧ Drw D H ∧ 2 ≤ m ∧ ∀ (v : Int) H', 0 ≤ v → v < m → Int.gcd v m = 1 → Ds D H H' → Q (.int v) H'
def spPrimeD : Sp := fun vs H Q _ => ∃ D : DD, vs = [.ref D.d] ∧ Drw D H ∧ ∀ (v : Int) H', Pr v → 2 ≤ v → v ≤ 1000000000 → Ds D H H' → Q (.int v) H'
def spTableD : Sp := fun vs H Q _ => ∃ (D : DD) (m : Int), vs = [.ref D.d, .int m] ∧ Drw D H ∧ 2 ≤ m ∧ ∀ (tb : List (List Int)) (v : V) H', IsTab m tb → tb.length ≤ 4 → (tb.length : Int) ≤ m → Rp H' (tabD tb) v → Ds D H H' → Q v H'
def spFactorD : Sp := fun vs H Q _ => ∃ (D : DD) (t c n : Int), vs = [.ref D.d, .int t, .int c, .int n] ∧ Drw D H ∧ (0 ≤ t ∧ t < c) ∧ 0 ≤ n ∧ (1 < c ∨ 0 < n) ∧ ∀ (f : Fac) (v : V) H', f.ok t c n → Rp H' f.d v → Ds D H H' → Q v H'
def spStepD : Sp := fun vs H Q _ => ∃ (D : DD) (m c n : Int) (pr : Bool), vs = [.ref D.d, .int m, .int c, .int n, .bl pr] ∧ Drw D H ∧ 2 ≤ m ∧ m ≤ 1000000000 ∧ 1 ≤ c ∧ 0 ≤ n ∧ (pr = true → Pr m) ∧ ∀ (s : Step) (v : V) H', s.ok m c n → (s.isTable = true → pr = true) → Rp H' s.d v → Ds D H H' → Q v H'
end Bf
/-! the drawn program as a dict -/
namespace Bf
open PySem L2
def Mdl (H : Hp) (p : Addr) (m c n : Int) (ss : List Step) : Prop := ∃ (q : Addr) (ws : List V), H p = some (.dK [(.inr "modulus", .int m), (.inr "cells", .int c), (.inr "inputs", .int n), (.inr "steps", .ref q)]) ∧ H q = some (.lst ws) ∧ RpL H (ss.map Step.d) ws
theorem Mdl.same {H H' : Hp} {p : Addr} {m c n : Int} {ss : List Step} (h : Mdl H p m c n ss) (s : Same H H') : Mdl H' p m c n ss := by
  obtain ⟨q, ws, h1, h2, h3⟩ := h
  exact ⟨q, ws, s _ _ h1, s _ _ h2, h3.same s⟩
theorem step_ref {H : Hp} {s : Step} {v : V} (h : Rp H s.d v) : ∃ a, v = .ref a := by
  cases s <;> (obtain ⟨a, _, e, _⟩ := h; exact ⟨a, e⟩)
/-- a list of steps is not where the draws are -/
theorem steps_ne {D : DD} {H : Hp} {q : Addr} {ss : List Step} {ws : List V} (dr : Drw D H) (h : H q = some (.lst ws)) (hl : RpL H (ss.map Step.d) ws) : q ≠ D.d := fun e => by
  obtain ⟨⟨k, h1, _⟩, _⟩ := dr
  rw [e, h1] at h
  cases h
  obtain ⟨d, h1, h2⟩ := hl.at (i := 1) (v := .int k) rfl
  rw [List.getElem?_map] at h1
  obtain ⟨s, _, rfl⟩ := Option.map_eq_some_iff.mp h1
  obtain ⟨a, e⟩ := step_ref h2
  cases e
theorem ints_ne {D : DD} {H : Hp} {q : Addr} {xs : List Int} (dr : Drw D H) (h : H q = some (.lst (xs.map V.int))) : q ≠ D.d := fun e => by
  obtain ⟨⟨k, h1, _⟩, _⟩ := dr
  rw [e, h1] at h
  cases xs with
  | nil => cases h
  | cons x r => cases h
theorem Mdl.ds {D : DD} {H H' : Hp} {p : Addr} {m c n : Int} {ss : List Step} (h : Mdl H p m c n ss) (dr : Drw D H) (s : Ds D H H') : Mdl H' p m c n ss := by
  obtain ⟨q, ws, h1, h2, h3⟩ := h
  refine ⟨q, ws, s.kp _ _ (fun e => ?_) h1, s.kp _ _ (steps_ne dr h2 h3) h2, h3.tk (Ds.tk dr s) (steps_flat ss)⟩
  obtain ⟨⟨k, h4, _⟩, _⟩ := dr
  rw [e, h4] at h1
  cases h1
theorem ints_ds {D : DD} {H H' : Hp} {q : Addr} {xs : List Int} (dr : Drw D H) (s : Ds D H H') (h : H q = some (.lst (xs.map V.int))) : H' q = some (.lst (xs.map V.int)) := s.kp _ _ (ints_ne dr h) h
structure Vp (m c n : Int) (ss : List Step) : Prop where
  m2 : 2 ≤ m
  m9 : m ≤ 1000000000
  c1 : 1 ≤ c
  c9 : c ≤ 60
  n1 : 0 ≤ n
  n9 : n ≤ 60
  le : ss.length ≤ 20000
  ok : ∀ s ∈ ss, s.ok m c n
  pr : (∃ s ∈ ss, s.isTable = true) → Pr m
theorem Vp.inverse {m c n : Int} {ss : List Step} (h : Vp m c n ss) : Vp m c n (Bf.inverse m ss) :=
  { h with
    le := by rw [inverse_len]; exact h.le
    ok := inverse_ok h.m2 h.ok
    pr := fun ⟨s, h1, h2⟩ => h.pr (by
      unfold Bf.inverse at h1
      rw [List.mem_reverse] at h1
      obtain ⟨x, hx, rfl⟩ := List.mem_map.mp h1
      exact ⟨x, hx, by rwa [Step.inv_table] at h2⟩) }
theorem Vp.take {m c n : Int} {ss : List Step} (h : Vp m c n ss) (k : Nat) : Vp m c n (ss.take k) :=
  { h with
    le := by
      have := h.le
      rw [List.length_take]
      omega
    ok := fun s hs => h.ok s (List.mem_of_mem_take hs)
    pr := fun ⟨s, h1, h2⟩ => h.pr ⟨s, List.mem_of_mem_take h1, h2⟩ }
def spProgramD : Sp := fun vs H Q _ => ∃ (D : DD) (most : Int), vs = [.ref D.d, .int most] ∧ Drw D H ∧ 0 ≤ most ∧ most ≤ 100 ∧ ∀ (p : Addr) (m c n : Int) (ss : List Step) H', Vp m c n ss → (ss.length : Int) ≤ most → Mdl H' p m c n ss → Ds D H H' → Q (.ref p) H'
def spMemory : Sp := fun vs H Q _ => ∃ (D : DD) (p : Addr) (m c n : Int) (ss : List Step), vs = [.ref D.d, .ref p] ∧ Drw D H ∧ Mdl H p m c n ss ∧ Vp m c n ss ∧ ∀ (q : Addr) (xs : List Int) H', H q = none → Ds D H H' → H' q = some (.lst (xs.map V.int)) → Mem m c xs → Q (.ref q) H'
def spGiven : Sp := fun vs H Q _ => ∃ (D : DD) (p : Addr) (m c n : Int) (ss : List Step), vs = [.ref D.d, .ref p] ∧ Drw D H ∧ Mdl H p m c n ss ∧ Vp m c n ss ∧ ∀ (q : Addr) (xs : List Int) H', H q = none → Ds D H H' → H' q = some (.lst (xs.map V.int)) → Mem m n xs → Q (.ref q) H'
/-! ### equality -/
mutual
def Dt.wid : Dt → Nat
  | .t ls => max ls.length (Dt.wids ls)
  | .l ls => max ls.length (Dt.wids ls)
  | _ => 0
def Dt.wids : List Dt → Nat
  | [] => 0
  | d :: r => max d.wid (Dt.wids r)
end
theorem wids_mem {k : Nat} : ∀ {ds : List Dt} {d : Dt} {i : Nat}, Dt.wids ds ≤ k → ds[i]? = some d → d.wid ≤ k
  | [], _, _, _, h => by simp at h
  | x :: r, d, 0, hk, h => by
    simp at h
    subst h
    rw [Dt.wids] at hk
    omega
  | x :: r, d, i + 1, hk, h => by
    rw [Dt.wids] at hk
    exact wids_mem (ds := r) (i := i) (by omega) (by simpa using h)
theorem wids_map {α : Type} {f : α → Dt} {k : Nat} : ∀ {l : List α}, (∀ x ∈ l, (f x).wid ≤ k) → Dt.wids (l.map f) ≤ k
  | [], _ => Nat.zero_le _
  | x :: r, h => by
    rw [List.map_cons, Dt.wids]
    have h1 := h x List.mem_cons_self
    have h2 := wids_map (f := f) (l := r) fun y hy => h y (List.mem_cons_of_mem _ hy)
    omega
theorem deps_map {α : Type} {f : α → Dt} {k : Nat} : ∀ {l : List α}, (∀ x ∈ l, (f x).dep ≤ k) → Dt.deps (l.map f) ≤ k
  | [], _ => Nat.zero_le _
  | x :: r, h => by
    rw [List.map_cons, Dt.deps]
    have h1 := h x List.mem_cons_self
    have h2 := deps_map (f := f) (l := r) fun y hy => h y (List.mem_cons_of_mem _ hy)
    omega
theorem step_dep : ∀ s : Step, s.d.dep ≤ 3
  | .add t k fs => by
    have h := deps_map (f := Fac.d) (k := 1) (l := fs) fun f _ => by cases f <;> exact Nat.le_refl _
    show (max _ (max _ (max _ (max (Dt.deps (fs.map Fac.d) + 1) _)))) + 1 ≤ 3
    simp only [Dt.dep, Dt.deps]
    omega
  | .scale t k => Nat.le_of_ble_eq_true rfl
  | .swap a b => Nat.le_of_ble_eq_true rfl
  | .table t s tb a b => by
    have h : Dt.deps (tb.map fun r => Dt.t (r.map .i)) ≤ 1 := deps_map fun r _ => by
      have := deps_map (f := Dt.i) (k := 0) (l := r) fun x _ => Nat.le_refl _
      show Dt.deps (r.map .i) + 1 ≤ 1
      omega
    show (max _ (max _ (max _ (max (Dt.deps (tb.map fun r => Dt.t (r.map .i)) + 1) _)))) + 1 ≤ 3
    simp only [Dt.dep, Dt.deps]
    omega
theorem ints_wid (l : List Int) : Dt.wids (l.map Dt.i) ≤ 0 := wids_map fun _ _ => Nat.le_refl _
theorem step_wid {m c n : Int} : ∀ {s : Step}, s.ok m c n → s.d.wid ≤ 1000000
  | .add t k fs, h => by
    have h1 := wids_map (f := Fac.d) (k := 2) (l := fs) fun f _ => by cases f <;> exact Nat.le_refl _
    have h2 := h.2.2.1
    show max 4 (max _ (max _ (max _ (max (max (fs.map Fac.d).length (Dt.wids (fs.map Fac.d))) _)))) ≤ _
    simp only [Dt.wid, Dt.wids, List.length_map]
    omega
  | .scale t k, _ => by show max 3 _ ≤ _; simp only [Dt.wid, Dt.wids]; omega
  | .swap a b, _ => by show max 3 _ ≤ _; simp only [Dt.wid, Dt.wids]; omega
  | .table t s tb a b, h => by
    have hsz := h.sz
    have h1 : Dt.wids (tb.map fun r => Dt.t (r.map .i)) ≤ 1000000 := wids_map fun r hr => by
      have := ints_wid r
      have := h.tab.sq r hr
      show max (r.map Dt.i).length (Dt.wids (r.map .i)) ≤ _
      rw [List.length_map]
      omega
    show max 6 (max _ (max _ (max _ (max (max (tb.map _).length (Dt.wids (tb.map fun r => Dt.t (r.map .i)))) _)))) ≤ _
    simp only [Dt.wid, Dt.wids, List.length_map]
    omega
def spEq (k : Nat) : Sp := fun vs H Q _ => ∃ (d : Dt) (a b : V), vs = [a, b] ∧ Rp H d a ∧ Rp H d b ∧ d.dep ≤ k ∧ d.wid ≤ 1000000 ∧ Q (.bl true) H
def spAllEq (k : Nat) : Sp := fun vs H Q _ => ∃ (ds : List Dt) (p q : Addr) (as bs : List V), vs = [.ref p, .ref q] ∧ (H p = some (.lst as) ∨ H p = some (.tup as)) ∧ (H q = some (.lst bs) ∨ H q = some (.tup bs)) ∧ RpL H ds as ∧ RpL H ds bs ∧ Dt.deps ds < k ∧ ds.length ≤ 1000000 ∧ Dt.wids ds ≤ 1000000 ∧ Q (.bl true) H
theorem deps_mem {k : Nat} : ∀ {ds : List Dt} {d : Dt} {i : Nat}, Dt.deps ds ≤ k → ds[i]? = some d → d.dep ≤ k
  | [], _, _, _, h => by simp at h
  | x :: r, d, 0, hk, h => by
    simp at h
    subst h
    rw [Dt.deps] at hk
    omega
  | x :: r, d, i + 1, hk, h => by
    rw [Dt.deps] at hk
    exact deps_mem (ds := r) (i := i) (by omega) (by simpa using h)
theorem n_eq {k : Nat} {d : Dt} {a b : V} {H : Hp} {Q : VK} {E : XK} (ra : Rp H d a) (rb : Rp H d b) (hd : d.dep ≤ k) (hw : d.wid ≤ 1000000) (q : Q (.bl true) H) : spEq k ([a, b] ++ []) H Q E := ⟨d, a, b, rfl, ra, rb, hd, hw, q⟩
end Bf
section
local macro_rules | `(tactic| walk_at "pf") => `(tactic| first | decide +kernel | omega | assumption | rfl | (simp only [List.length_cons, List.length_nil]; omega))
local macro_rules | `(tactic| walk_at "rd1") => `(tactic| ((with_reducible refine Bf.i_n0 ?h ?_); (case h => walk_at "pf")))
local macro_rules | `(tactic| walk_at "rd1") => `(tactic| ((with_reducible refine Bf.i_n1 ?h ?_); (case h => walk_at "pf")))
local macro_rules | `(tactic| walk_at "rd1") => `(tactic| ((with_reducible refine Bf.i_d0 ?h ?_); (case h => walk_at "pf")))
local macro_rules | `(tactic| walk_at "rd1") => `(tactic| ((with_reducible refine Bf.i_d1 ?h ?_); (case h => walk_at "pf")))
local macro_rules | `(tactic| walk_at "rd1") => `(tactic| with_reducible refine Bf.r_forR2 ?_)
local macro_rules | `(tactic| walk_at "rd1") => `(tactic| with_reducible refine Bf.r_forR ?_)
local macro_rules | `(tactic| walk_at "rd1") => `(tactic| with_reducible refine Bf.r_forT ?_)
local macro_rules | `(tactic| walk_at "rd1") => `(tactic| with_reducible refine Bf.r_forZ ?_)
local macro_rules | `(tactic| walk_at "rd1") => `(tactic| with_reducible refine Bf.r_forL ?_)
local macro_rules | `(tactic| walk_at "rd1") => `(tactic| with_reducible refine Bf.r_lcR ?_)
local macro_rules | `(tactic| walk_at "rd1") => `(tactic| with_reducible refine Bf.r_lcT ?_)
local macro_rules | `(tactic| walk_at "rd1") => `(tactic| with_reducible refine Bf.r_lcL ?_)
local macro_rules | `(tactic| walk_at "rd1") => `(tactic| with_reducible refine Bf.r_lcR2 ?_)
local macro_rules | `(tactic| walk_at "rd1") => `(tactic| with_reducible refine Bf.r_forR3 ?_)
local macro_rules | `(tactic| walk_at "rd1") => `(tactic| with_reducible refine Bf.r_glst (by assumption) (by with_unfolding_all rfl) ?_)
local macro_rules | `(tactic| walk_at "rd1") => `(tactic| with_reducible refine Bf.r_ext (by with_unfolding_all rfl) (by assumption) ?_)
local macro_rules | `(tactic| walk_at "rd1") => `(tactic| with_reducible refine Bf.r_tru ?_)
local macro_rules | `(tactic| walk_at "rd1") => `(tactic| with_reducible refine Bf.r_yes ?_)
local macro_rules | `(tactic| walk_at "rd1") => `(tactic| with_reducible refine Bf.r_wipe (by with_unfolding_all rfl) ?_)
local macro_rules | `(tactic| walk_at "rd1") => `(tactic| with_reducible refine Bf.r_turn ?_)
local macro_rules | `(tactic| walk_at "rd1") => `(tactic| with_reducible refine Bf.r_make ?_)
local macro_rules | `(tactic| walk_at "rd1") => `(tactic| with_reducible refine Bf.n_meth (by assumption) (by with_unfolding_all rfl) ?_)
local macro_rules | `(tactic| walk_at "rd1") => `(tactic| with_reducible refine Bf.r_meth ?_)
local macro_rules | `(tactic| walk_at "rd1") => `(tactic| with_reducible refine Bf.r_sfld ?_)
local macro_rules | `(tactic| walk_at "rd1") => `(tactic| with_reducible refine Bf.r_revL ?_)
local macro_rules | `(tactic| walk_at "rd1") => `(tactic| with_reducible refine Bf.r_isint ?_)
local macro_rules | `(tactic| walk_at "rd1") => `(tactic| with_reducible refine Bf.r_part ?_)
local macro_rules | `(tactic| walk_at "rd1") => `(tactic| with_reducible refine Bf.r_nopart ?_)
local macro_rules | `(tactic| walk_at "rd1") => `(tactic| with_reducible refine Bf.r_sl ?_)
local macro_rules | `(tactic| walk_at "rd1") => `(tactic| with_reducible refine Bf.r_pnil ?_)
local macro_rules | `(tactic| walk_at "rd1") => `(tactic| with_reducible refine Bf.r_pcons ?_)
local macro_rules | `(tactic| walk_at "rd1") => `(tactic| with_reducible refine Bf.r_nnN ?_)
local macro_rules | `(tactic| walk_at "rd1") => `(tactic| with_reducible refine Bf.r_nnI ?_)
local macro_rules | `(tactic| walk_at "rd1") => `(tactic| with_reducible refine Bf.r_nnR ?_)
local macro_rules | `(tactic| walk_at "rd1") => `(tactic| with_reducible refine Bf.r_try ?_)
local macro_rules | `(tactic| walk_at "rd1") => `(tactic| with_reducible refine Bf.r_fmt ?_)
local macro_rules | `(tactic| walk_at "rd1") => `(tactic| with_reducible refine Bf.r_jn ?_)
local macro_rules | `(tactic| walk_at "rd1") => `(tactic| with_reducible refine Bf.r_jc ?_)
local macro_rules | `(tactic| walk_at "rd1") => `(tactic| with_reducible refine Bf.r_joined ?_)
local macro_rules | `(tactic| walk_at "rd1") => `(tactic| with_reducible refine Bf.r_isstr ?_)
local macro_rules | `(tactic| walk_at "rd1") => `(tactic| with_reducible refine Bf.r_m1 ?_)
local macro_rules | `(tactic| walk_at "rd1") => `(tactic| with_reducible refine Bf.r_forS ?_)
local macro_rules | `(tactic| walk_at "rd1") => `(tactic| with_reducible refine Bf.r_forE ?_)
local macro_rules | `(tactic| walk_at "rd1") => `(tactic| ((with_reducible refine Bf.n_kget (by assumption) ?e ?_); (case e => rfl)))
local macro_rules | `(tactic| walk_at "rd1") => `(tactic| with_reducible refine Bf.r_isref ?_)
local macro_rules | `(tactic| walk_at "rd1") => `(tactic| with_reducible refine Bf.r_kget ?_)
local macro_rules | `(tactic| walk_at "rd1") => `(tactic| with_reducible refine Bf.n_dgetS (by assumption) (by with_unfolding_all rfl) ?_)
local macro_rules | `(tactic| walk_at "rd1") => `(tactic| with_reducible refine Bf.r_dget ?_)
local macro_rules | `(tactic| walk_at "rd1") => `(tactic| with_reducible refine Bf.n_mixed ?_)
local macro_rules | `(tactic| walk_at "rd1") => `(tactic| with_reducible refine Bf.n_isint ?_)
local macro_rules | `(tactic| walk_at "rd1") => `(tactic| ((with_reducible refine Bf.n_num ?h ?_); (case h => first | assumption | (refine And.intro ?_ ?_ <;> omega))))
local macro_rules | `(tactic| walk_at "rd1") => `(tactic| with_reducible refine Bf.r_gsub ?_)
local macro_rules | `(tactic| walk_at "rd1") => `(tactic| with_reducible refine Bf.r_gnil ?_)
local macro_rules | `(tactic| walk_at "rd1") => `(tactic| with_reducible refine Bf.r_gcons ?_)
local macro_rules | `(tactic| walk_at "rd1") => `(tactic| with_reducible refine Bf.r_gtup (by assumption) (by with_unfolding_all rfl) ?_)
local macro_rules | `(tactic| walk_at "rd1") => `(tactic| with_reducible refine Bf.isi_ (Bf.ty_l (by assumption)) Bf.kb_ls ?_)
local macro_rules | `(tactic| walk_at "rd1") => `(tactic| with_reducible refine Bf.isi_ (Bf.ty_t (by assumption)) Bf.kb_ts ?_)
local macro_rules | `(tactic| walk_at "rd1") => `(tactic| with_reducible refine Bf.isi_ (Bf.ty_l (by assumption)) Bf.kb_lb ?_)
local macro_rules | `(tactic| walk_at "rd1") => `(tactic| with_reducible refine Bf.isi_ (Bf.ty_t (by assumption)) Bf.kb_tb ?_)
local macro_rules | `(tactic| walk_at "rd1") => `(tactic| with_reducible refine Bf.isi_ (Bf.ty_l (by assumption)) Bf.kb_li ?_)
local macro_rules | `(tactic| walk_at "rd1") => `(tactic| with_reducible refine Bf.isi_ (Bf.ty_t (by assumption)) Bf.kb_ti ?_)
local macro_rules | `(tactic| walk_at "rd1") => `(tactic| with_reducible refine Bf.isi_ Bf.ty_n Bf.kb_nl ?_)
local macro_rules | `(tactic| walk_at "rd1") => `(tactic| with_reducible refine Bf.isi_ Bf.ty_n Bf.kb_nt ?_)
local macro_rules | `(tactic| walk_at "rd1") => `(tactic| with_reducible refine Bf.isi_ Bf.ty_n Bf.kb_ns ?_)
local macro_rules | `(tactic| walk_at "rd1") => `(tactic| with_reducible refine Bf.isi_ Bf.ty_n Bf.kb_nb ?_)
local macro_rules | `(tactic| walk_at "rd1") => `(tactic| with_reducible refine Bf.isi_ Bf.ty_n Bf.kb_ni ?_)
local macro_rules | `(tactic| walk_at "rd1") => `(tactic| with_reducible refine Bf.isi_ Bf.ty_b Bf.kb_bL ?_)
local macro_rules | `(tactic| walk_at "rd1") => `(tactic| with_reducible refine Bf.isi_ Bf.ty_b Bf.kb_bt ?_)
local macro_rules | `(tactic| walk_at "rd1") => `(tactic| with_reducible refine Bf.isi_ Bf.ty_b Bf.kb_bs ?_)
local macro_rules | `(tactic| walk_at "rd1") => `(tactic| with_reducible refine Bf.isi_ Bf.ty_b Bf.kb_bb ?_)
local macro_rules | `(tactic| walk_at "rd1") => `(tactic| with_reducible refine Bf.isi_ Bf.ty_b Bf.kb_bi ?_)
local macro_rules | `(tactic| walk_at "rd1") => `(tactic| with_reducible refine Bf.isi_ (Bf.ty_l (by assumption)) Bf.kb_lt ?_)
local macro_rules | `(tactic| walk_at "rd1") => `(tactic| with_reducible refine Bf.isi_ (Bf.ty_t (by assumption)) Bf.kb_tl ?_)
local macro_rules | `(tactic| walk_at "rd1") => `(tactic| with_reducible refine Bf.isi_ (Bf.ty_l (by assumption)) Bf.kb_ll ?_)
local macro_rules | `(tactic| walk_at "rd1") => `(tactic| with_reducible refine Bf.isi_ (Bf.ty_t (by assumption)) Bf.kb_tt ?_)
local macro_rules | `(tactic| walk_at "rd1") => `(tactic| with_reducible refine Bf.isi_ Bf.ty_s Bf.kb_sl ?_)
local macro_rules | `(tactic| walk_at "rd1") => `(tactic| with_reducible refine Bf.isi_ Bf.ty_s Bf.kb_st ?_)
local macro_rules | `(tactic| walk_at "rd1") => `(tactic| with_reducible refine Bf.isi_ Bf.ty_s Bf.kb_ss ?_)
local macro_rules | `(tactic| walk_at "rd1") => `(tactic| with_reducible refine Bf.isi_ Bf.ty_s Bf.kb_sb ?_)
local macro_rules | `(tactic| walk_at "rd1") => `(tactic| with_reducible refine Bf.isi_ Bf.ty_s Bf.kb_si ?_)
local macro_rules | `(tactic| walk_at "rd1") => `(tactic| with_reducible refine Bf.isi_ Bf.ty_i Bf.kb_il ?_)
local macro_rules | `(tactic| walk_at "rd1") => `(tactic| with_reducible refine Bf.isi_ Bf.ty_i Bf.kb_it ?_)
local macro_rules | `(tactic| walk_at "rd1") => `(tactic| with_reducible refine Bf.isi_ Bf.ty_i Bf.kb_is ?_)
local macro_rules | `(tactic| walk_at "rd1") => `(tactic| with_reducible refine Bf.isi_ Bf.ty_i Bf.kb_ib ?_)
local macro_rules | `(tactic| walk_at "rd1") => `(tactic| with_reducible refine Bf.isi_ Bf.ty_i Bf.kb_ii ?_)
local macro_rules | `(tactic| walk_at "rd1") => `(tactic| with_reducible refine Bf.r_min2 ?_)
local macro_rules | `(tactic| walk_at "rd1") => `(tactic| with_reducible refine Bf.r_max2 ?_)
local macro_rules | `(tactic| walk_at "rd1") => `(tactic| with_reducible refine Bf.r_int ?_)
local macro_rules | `(tactic| walk_at "rd1") => `(tactic| with_reducible refine Bf.r_lenL (by assumption) ?_)
local macro_rules | `(tactic| walk_at "rd1") => `(tactic| with_reducible refine Bf.r_lenT (by assumption) ?_)
local macro_rules | `(tactic| walk_at "rd1") => `(tactic| with_reducible refine Bf.r_lst ?_)
local macro_rules | `(tactic| walk_at "rd1") => `(tactic| with_reducible refine Bf.r_tup ?_)
local macro_rules | `(tactic| walk_at "rd1") => `(tactic| with_reducible refine Bf.r_U ?_)
local macro_rules | `(tactic| walk_at "rd1") => `(tactic| with_reducible refine Bf.r_un ?_)
local macro_rules | `(tactic| walk_at "rd1") => `(tactic| with_reducible refine Bf.r_ifE ?_)
local macro_rules | `(tactic| walk_at "rd1") => `(tactic| with_reducible refine Bf.r_B ?_)
local macro_rules | `(tactic| walk_at "rd1") => `(tactic| with_reducible refine Bf.r_chain ?_)
local macro_rules | `(tactic| walk_at "rd1") => `(tactic| with_reducible refine Bf.r_notV ?_)
local macro_rules | `(tactic| walk_at "rd1") => `(tactic| with_reducible refine Bf.r_orV ?_)
local macro_rules | `(tactic| walk_at "rd1") => `(tactic| with_reducible refine Bf.r_andV ?_)
local macro_rules | `(tactic| walk_at "rd1") => `(tactic| with_reducible refine Bf.r_not ?_)
local macro_rules | `(tactic| walk_at "rd1") => `(tactic| with_reducible refine Bf.r_or ?_)
local macro_rules | `(tactic| walk_at "rd1") => `(tactic| with_reducible refine Bf.r_and ?_)
local macro_rules | `(tactic| walk_at "rd1") => `(tactic| with_reducible refine Bf.r_drop ?_)
local macro_rules | `(tactic| walk_at "rd1") => `(tactic| with_reducible refine Bf.r_cont ?_)
local macro_rules | `(tactic| walk_at "rd1") => `(tactic| with_reducible refine Bf.r_next ?_)
local macro_rules | `(tactic| walk_at "rd1") => `(tactic| with_reducible refine Bf.r_app (by with_unfolding_all rfl) (by assumption) ?_)
local macro_rules | `(tactic| walk_at "rd1") => `(tactic| with_reducible refine Bf.r_ip ?_)
local macro_rules | `(tactic| walk_at "rd1") => `(tactic| with_reducible refine Bf.r_aug (by with_unfolding_all rfl) ?_)
local macro_rules | `(tactic| walk_at "rd1") => `(tactic| with_reducible refine Bf.r_two ?_)
local macro_rules | `(tactic| walk_at "rd1") => `(tactic| with_reducible refine Bf.r_par ?_)
local macro_rules | `(tactic| walk_at "rd1") => `(tactic| ((with_reducible refine Bf.r_fat (by assumption) ?c ?n (by with_unfolding_all rfl) ?_); (case c => assumption); (case n => assumption)))
local macro_rules | `(tactic| walk_at "rd1") => `(tactic| with_reducible refine Bf.r_fld ?_)
local macro_rules | `(tactic| walk_at "rd1") => `(tactic| with_reducible refine Bf.r_ixL (by assumption) (by with_unfolding_all rfl) ?_)
local macro_rules | `(tactic| walk_at "rd1") => `(tactic| with_reducible refine Bf.r_ixT (by assumption) (by with_unfolding_all rfl) ?_)
local macro_rules | `(tactic| walk_at "rd1") => `(tactic| with_reducible refine Bf.i_nf ?_)
local macro_rules | `(tactic| walk_at "rd1") => `(tactic| with_reducible refine Bf.i_nt ?_)
local macro_rules | `(tactic| walk_at "rd1") => `(tactic| with_reducible refine Bf.i_f ?_)
local macro_rules | `(tactic| walk_at "rd1") => `(tactic| with_reducible refine Bf.i_t ?_)
local macro_rules | `(tactic| walk_at "rd1") => `(tactic| with_reducible refine Bf.r_call ?_)
local macro_rules | `(tactic| walk_at "rd1") => `(tactic| with_reducible refine Bf.r_CB ?_)
local macro_rules | `(tactic| walk_at "rd1") => `(tactic| with_reducible refine Bf.r_nil ?_)
local macro_rules | `(tactic| walk_at "rd1") => `(tactic| with_reducible refine Bf.r_cons ?_)
local macro_rules | `(tactic| walk_at "rd1") => `(tactic| with_reducible refine Bf.r_neS ?_)
local macro_rules | `(tactic| walk_at "rd1") => `(tactic| with_reducible refine Bf.r_eqS ?_)
local macro_rules | `(tactic| walk_at "rd1") => `(tactic| with_reducible refine Bf.r_neI ?_)
local macro_rules | `(tactic| walk_at "rd1") => `(tactic| with_reducible refine Bf.r_eqI ?_)
local macro_rules | `(tactic| walk_at "rd1") => `(tactic| with_reducible refine Bf.r_isbl ?_)
local macro_rules | `(tactic| walk_at "rd1") => `(tactic| with_reducible refine Bf.r_test ?_)
local macro_rules | `(tactic| walk_at "rd1") => `(tactic| with_reducible refine Bf.r_ifS ?_)
local macro_rules | `(tactic| walk_at "rd1") => `(tactic| ((with_reducible refine Bf.r_I ?c ?_); (case c => first | decide | (show (0 : Int) < _; omega) | (refine Or.inl ⟨?_, ?_⟩ <;> omega) | (refine Or.inr ⟨?_, ?_⟩ <;> omega) | (refine And.intro ?_ ?_ <;> omega))))
local macro_rules | `(tactic| walk_at "rd1") => `(tactic| with_reducible refine Bf.r_I0 ?_)
local macro_rules | `(tactic| walk_at "rd1") => `(tactic| with_reducible refine Bf.r_op ?_)
local macro_rules | `(tactic| walk_at "rd1") => `(tactic| with_reducible refine Bf.r_ret ?_)
local macro_rules | `(tactic| walk_at "rd1") => `(tactic| with_reducible refine Bf.r_name ?_)
local macro_rules | `(tactic| walk_at "rd1") => `(tactic| with_reducible refine Bf.r_c ?_)
local macro_rules | `(tactic| walk_at "rd1") => `(tactic| with_reducible refine Bf.r_var (by with_unfolding_all rfl) ?_)
local macro_rules | `(tactic| walk_at "rd1") => `(tactic| with_reducible refine Bf.r_asg ?_)
local macro_rules | `(tactic| walk_at "rd1") => `(tactic| with_reducible refine Bf.r_seq ?_)
local macro_rules | `(tactic| walk_at "rd") => `(tactic| repeat walk_at "rd1")
namespace Bf
open PySem L2
abbrev s_is_integer : Stmt := topS 9
theorem bi_is_integer : ∀ (kV doc pm : Value) (an : Option Addr) (cdv ct : Value) (us : List Value), us.length = 1 → bindArgs (PySem.W.fnOf "is_integer" "is_integer" (defArgs s_is_integer) (defBody s_is_integer) (defScope s_is_integer) .none kV doc pm an cdv ct) ⟨us, []⟩ = pure ((["value"] : List Str).zip us) := fun _ _ _ _ _ _ us hl => match us, hl with | [_], _ => rfl
theorem sc_is_integer : FnScope ["value"] ["value"] (defScope s_is_integer) := C8.fnScope_by (by decide +kernel)
abbrev s_is_number : Stmt := topS 10
theorem bi_is_number : ∀ (kV doc pm : Value) (an : Option Addr) (cdv ct : Value) (us : List Value), us.length = 2 → bindArgs (PySem.W.fnOf "is_number" "is_number" (defArgs s_is_number) (defBody s_is_number) (defScope s_is_number) .none kV doc pm an cdv ct) ⟨us, []⟩ = pure ((["value", "modulus"] : List Str).zip us) := fun _ _ _ _ _ _ us hl => match us, hl with | [_, _], _ => rfl
theorem sc_is_number : FnScope ["value", "modulus"] ["value", "modulus"] (defScope s_is_number) := C8.fnScope_by (by decide +kernel)
def spIsInt : Sp := fun vs H Q _ => (∃ n, vs = [.int n] ∧ Q (.bl true) H) ∨ ∃ z, vs = [.str z] ∧ Q (.bl false) H
def spIsNum : Sp := fun vs H Q _ => ∃ n m, vs = [.int n, .int m] ∧ Q (.bl (decide (0 ≤ n ∧ n < m))) H
section
variable {P : Program} {w : World} {K : PySem.W.Frag} {mg : Str → Option Value} {base : Heap}
theorem cal_is_integer (T : Gs mg) (F : DefAt K mg "is_integer" s_is_integer) : C8.Cal P w K mg base 1 "is_integer" spIsInt [] := by
  refine cal_of F sc_is_integer bi_is_integer (fun vs H Q E h => ?_) (fun f cdv A outer s H vs Q E hr h => ?_)
  · rcases h with ⟨n, rfl, _⟩ | ⟨n, rfl, _⟩ <;> rfl
  · refine ⟨_, (pss_one (ps_ret (pe_and (pe_callB call_isi (by rfl) T.n_isinstance (by decide +kernel) (pa_cons (pv 0) (pa_cons (pe_bltn (v := .ty "int") rfl T.n_int (by decide +kernel) rfl) pa_nil))) (pe_one (pe_not (pe_callB call_isi (by rfl) T.n_isinstance (by decide +kernel) (pa_cons (pv 0) (pa_cons (pe_bltn (v := .ty "bool") rfl T.n_bool (by decide +kernel) rfl) pa_nil)))))))), ?_⟩
    rcases h with ⟨n, rfl, k⟩ | ⟨n, rfl, k⟩
    · walk_at "rd"
      exact k
    · walk_at "rd"
      exact k
theorem cal_is_number (T : Gs mg) (c_is_integer : C8.Cal P w K mg base 1 "is_integer" spIsInt []) (F : DefAt K mg "is_number" s_is_number) : C8.Cal P w K mg base 2 "is_number" spIsNum [] := by
  refine cal_of F sc_is_number bi_is_number (fun vs H Q E h => ?_) (fun f cdv A outer s H vs Q E hr h => ?_)
  · obtain ⟨n, m, rfl, _⟩ := h
    rfl
  · refine ⟨_, (pss_one (ps_ret (pe_and (C8.pe_c c_is_integer hr (by first | decide | omega) rfl (pa_cons (pv 0) pa_nil)) (pe_one (pe_chain op_le op_lt pe_int (pv 0) (pv 1)))))), ?_⟩
    obtain ⟨n, m, rfl, k⟩ := h
    walk_at "rd"
    refine .inl ⟨n, rfl, ?_⟩
    walk_at "rd"
    refine i_d2 (fun h0 => ?_) (fun h0 => ?_)
    · walk_at "rd"
      rw [show decide (n < m) = decide (0 ≤ n ∧ n < m) by simp [h0]]
      exact k
    · walk_at "rd"
      rw [show decide (0 ≤ n ∧ n < m) = false by simp [h0]] at k
      exact k
theorem n_num {n m : Int} {H : Hp} {Q : VK} {E : XK} (h : 0 ≤ n ∧ n < m) (k : Q (.bl true) H) : spIsNum ([.int n, .int m] ++ []) H Q E := ⟨n, m, rfl, by rw [decide_eq_true h]; exact k⟩
theorem n_isint {n : Int} {H : Hp} {Q : VK} {E : XK} (k : Q (.bl true) H) : spIsInt ([.int n] ++ []) H Q E := .inl ⟨n, rfl, k⟩
end
end Bf
end
section
local macro_rules | `(tactic| walk_at "pf") => `(tactic| first | decide +kernel | omega | assumption | rfl | (simp only [List.length_cons, List.length_nil]; omega))
local macro_rules | `(tactic| walk_at "rd1") => `(tactic| ((with_reducible refine Bf.i_n0 ?h ?_); (case h => walk_at "pf")))
local macro_rules | `(tactic| walk_at "rd1") => `(tactic| ((with_reducible refine Bf.i_n1 ?h ?_); (case h => walk_at "pf")))
local macro_rules | `(tactic| walk_at "rd1") => `(tactic| ((with_reducible refine Bf.i_d0 ?h ?_); (case h => walk_at "pf")))
local macro_rules | `(tactic| walk_at "rd1") => `(tactic| ((with_reducible refine Bf.i_d1 ?h ?_); (case h => walk_at "pf")))
local macro_rules | `(tactic| walk_at "rd1") => `(tactic| with_reducible refine Bf.r_forR2 ?_)
local macro_rules | `(tactic| walk_at "rd1") => `(tactic| with_reducible refine Bf.r_forR ?_)
local macro_rules | `(tactic| walk_at "rd1") => `(tactic| with_reducible refine Bf.r_forT ?_)
local macro_rules | `(tactic| walk_at "rd1") => `(tactic| with_reducible refine Bf.r_forZ ?_)
local macro_rules | `(tactic| walk_at "rd1") => `(tactic| with_reducible refine Bf.r_forL ?_)
local macro_rules | `(tactic| walk_at "rd1") => `(tactic| with_reducible refine Bf.r_lcR ?_)
local macro_rules | `(tactic| walk_at "rd1") => `(tactic| with_reducible refine Bf.r_lcT ?_)
local macro_rules | `(tactic| walk_at "rd1") => `(tactic| with_reducible refine Bf.r_lcL ?_)
local macro_rules | `(tactic| walk_at "rd1") => `(tactic| with_reducible refine Bf.r_lcR2 ?_)
local macro_rules | `(tactic| walk_at "rd1") => `(tactic| with_reducible refine Bf.r_forR3 ?_)
local macro_rules | `(tactic| walk_at "rd1") => `(tactic| with_reducible refine Bf.r_glst (by assumption) (by with_unfolding_all rfl) ?_)
local macro_rules | `(tactic| walk_at "rd1") => `(tactic| with_reducible refine Bf.r_ext (by with_unfolding_all rfl) (by assumption) ?_)
local macro_rules | `(tactic| walk_at "rd1") => `(tactic| with_reducible refine Bf.r_tru ?_)
local macro_rules | `(tactic| walk_at "rd1") => `(tactic| with_reducible refine Bf.r_yes ?_)
local macro_rules | `(tactic| walk_at "rd1") => `(tactic| with_reducible refine Bf.r_wipe (by with_unfolding_all rfl) ?_)
local macro_rules | `(tactic| walk_at "rd1") => `(tactic| with_reducible refine Bf.r_turn ?_)
local macro_rules | `(tactic| walk_at "rd1") => `(tactic| with_reducible refine Bf.r_make ?_)
local macro_rules | `(tactic| walk_at "rd1") => `(tactic| with_reducible refine Bf.n_meth (by assumption) (by with_unfolding_all rfl) ?_)
local macro_rules | `(tactic| walk_at "rd1") => `(tactic| with_reducible refine Bf.r_meth ?_)
local macro_rules | `(tactic| walk_at "rd1") => `(tactic| with_reducible refine Bf.r_sfld ?_)
local macro_rules | `(tactic| walk_at "rd1") => `(tactic| with_reducible refine Bf.r_revL ?_)
local macro_rules | `(tactic| walk_at "rd1") => `(tactic| with_reducible refine Bf.r_isint ?_)
local macro_rules | `(tactic| walk_at "rd1") => `(tactic| with_reducible refine Bf.r_part ?_)
local macro_rules | `(tactic| walk_at "rd1") => `(tactic| with_reducible refine Bf.r_nopart ?_)
local macro_rules | `(tactic| walk_at "rd1") => `(tactic| with_reducible refine Bf.r_sl ?_)
local macro_rules | `(tactic| walk_at "rd1") => `(tactic| with_reducible refine Bf.r_pnil ?_)
local macro_rules | `(tactic| walk_at "rd1") => `(tactic| with_reducible refine Bf.r_pcons ?_)
local macro_rules | `(tactic| walk_at "rd1") => `(tactic| with_reducible refine Bf.r_nnN ?_)
local macro_rules | `(tactic| walk_at "rd1") => `(tactic| with_reducible refine Bf.r_nnI ?_)
local macro_rules | `(tactic| walk_at "rd1") => `(tactic| with_reducible refine Bf.r_nnR ?_)
local macro_rules | `(tactic| walk_at "rd1") => `(tactic| with_reducible refine Bf.r_try ?_)
local macro_rules | `(tactic| walk_at "rd1") => `(tactic| with_reducible refine Bf.r_fmt ?_)
local macro_rules | `(tactic| walk_at "rd1") => `(tactic| with_reducible refine Bf.r_jn ?_)
local macro_rules | `(tactic| walk_at "rd1") => `(tactic| with_reducible refine Bf.r_jc ?_)
local macro_rules | `(tactic| walk_at "rd1") => `(tactic| with_reducible refine Bf.r_joined ?_)
local macro_rules | `(tactic| walk_at "rd1") => `(tactic| with_reducible refine Bf.r_isstr ?_)
local macro_rules | `(tactic| walk_at "rd1") => `(tactic| with_reducible refine Bf.r_m1 ?_)
local macro_rules | `(tactic| walk_at "rd1") => `(tactic| with_reducible refine Bf.r_forS ?_)
local macro_rules | `(tactic| walk_at "rd1") => `(tactic| with_reducible refine Bf.r_forE ?_)
local macro_rules | `(tactic| walk_at "rd1") => `(tactic| ((with_reducible refine Bf.n_kget (by assumption) ?e ?_); (case e => rfl)))
local macro_rules | `(tactic| walk_at "rd1") => `(tactic| with_reducible refine Bf.r_isref ?_)
local macro_rules | `(tactic| walk_at "rd1") => `(tactic| with_reducible refine Bf.r_kget ?_)
local macro_rules | `(tactic| walk_at "rd1") => `(tactic| with_reducible refine Bf.n_dgetS (by assumption) (by with_unfolding_all rfl) ?_)
local macro_rules | `(tactic| walk_at "rd1") => `(tactic| with_reducible refine Bf.r_dget ?_)
local macro_rules | `(tactic| walk_at "rd1") => `(tactic| with_reducible refine Bf.n_mixed ?_)
local macro_rules | `(tactic| walk_at "rd1") => `(tactic| with_reducible refine Bf.n_isint ?_)
local macro_rules | `(tactic| walk_at "rd1") => `(tactic| ((with_reducible refine Bf.n_num ?h ?_); (case h => first | assumption | (refine And.intro ?_ ?_ <;> omega))))
local macro_rules | `(tactic| walk_at "rd1") => `(tactic| with_reducible refine Bf.r_gsub ?_)
local macro_rules | `(tactic| walk_at "rd1") => `(tactic| with_reducible refine Bf.r_gnil ?_)
local macro_rules | `(tactic| walk_at "rd1") => `(tactic| with_reducible refine Bf.r_gcons ?_)
local macro_rules | `(tactic| walk_at "rd1") => `(tactic| with_reducible refine Bf.r_gtup (by assumption) (by with_unfolding_all rfl) ?_)
local macro_rules | `(tactic| walk_at "rd1") => `(tactic| with_reducible refine Bf.isi_ (Bf.ty_l (by assumption)) Bf.kb_ls ?_)
local macro_rules | `(tactic| walk_at "rd1") => `(tactic| with_reducible refine Bf.isi_ (Bf.ty_t (by assumption)) Bf.kb_ts ?_)
local macro_rules | `(tactic| walk_at "rd1") => `(tactic| with_reducible refine Bf.isi_ (Bf.ty_l (by assumption)) Bf.kb_lb ?_)
local macro_rules | `(tactic| walk_at "rd1") => `(tactic| with_reducible refine Bf.isi_ (Bf.ty_t (by assumption)) Bf.kb_tb ?_)
local macro_rules | `(tactic| walk_at "rd1") => `(tactic| with_reducible refine Bf.isi_ (Bf.ty_l (by assumption)) Bf.kb_li ?_)
local macro_rules | `(tactic| walk_at "rd1") => `(tactic| with_reducible refine Bf.isi_ (Bf.ty_t (by assumption)) Bf.kb_ti ?_)
local macro_rules | `(tactic| walk_at "rd1") => `(tactic| with_reducible refine Bf.isi_ Bf.ty_n Bf.kb_nl ?_)
local macro_rules | `(tactic| walk_at "rd1") => `(tactic| with_reducible refine Bf.isi_ Bf.ty_n Bf.kb_nt ?_)
local macro_rules | `(tactic| walk_at "rd1") => `(tactic| with_reducible refine Bf.isi_ Bf.ty_n Bf.kb_ns ?_)
local macro_rules | `(tactic| walk_at "rd1") => `(tactic| with_reducible refine Bf.isi_ Bf.ty_n Bf.kb_nb ?_)
local macro_rules | `(tactic| walk_at "rd1") => `(tactic| with_reducible refine Bf.isi_ Bf.ty_n Bf.kb_ni ?_)
local macro_rules | `(tactic| walk_at "rd1") => `(tactic| with_reducible refine Bf.isi_ Bf.ty_b Bf.kb_bL ?_)
local macro_rules | `(tactic| walk_at "rd1") => `(tactic| with_reducible refine Bf.isi_ Bf.ty_b Bf.kb_bt ?_)
local macro_rules | `(tactic| walk_at "rd1") => `(tactic| with_reducible refine Bf.isi_ Bf.ty_b Bf.kb_bs ?_)
local macro_rules | `(tactic| walk_at "rd1") => `(tactic| with_reducible refine Bf.isi_ Bf.ty_b Bf.kb_bb ?_)
local macro_rules | `(tactic| walk_at "rd1") => `(tactic| with_reducible refine Bf.isi_ Bf.ty_b Bf.kb_bi ?_)
local macro_rules | `(tactic| walk_at "rd1") => `(tactic| with_reducible refine Bf.isi_ (Bf.ty_l (by assumption)) Bf.kb_lt ?_)
local macro_rules | `(tactic| walk_at "rd1") => `(tactic| with_reducible refine Bf.isi_ (Bf.ty_t (by assumption)) Bf.kb_tl ?_)
local macro_rules | `(tactic| walk_at "rd1") => `(tactic| with_reducible refine Bf.isi_ (Bf.ty_l (by assumption)) Bf.kb_ll ?_)
local macro_rules | `(tactic| walk_at "rd1") => `(tactic| with_reducible refine Bf.isi_ (Bf.ty_t (by assumption)) Bf.kb_tt ?_)
local macro_rules | `(tactic| walk_at "rd1") => `(tactic| with_reducible refine Bf.isi_ Bf.ty_s Bf.kb_sl ?_)
local macro_rules | `(tactic| walk_at "rd1") => `(tactic| with_reducible refine Bf.isi_ Bf.ty_s Bf.kb_st ?_)
local macro_rules | `(tactic| walk_at "rd1") => `(tactic| with_reducible refine Bf.isi_ Bf.ty_s Bf.kb_ss ?_)
local macro_rules | `(tactic| walk_at "rd1") => `(tactic| with_reducible refine Bf.isi_ Bf.ty_s Bf.kb_sb ?_)
local macro_rules | `(tactic| walk_at "rd1") => `(tactic| with_reducible refine Bf.isi_ Bf.ty_s Bf.kb_si ?_)
local macro_rules | `(tactic| walk_at "rd1") => `(tactic| with_reducible refine Bf.isi_ Bf.ty_i Bf.kb_il ?_)
local macro_rules | `(tactic| walk_at "rd1") => `(tactic| with_reducible refine Bf.isi_ Bf.ty_i Bf.kb_it ?_)
local macro_rules | `(tactic| walk_at "rd1") => `(tactic| with_reducible refine Bf.isi_ Bf.ty_i Bf.kb_is ?_)
local macro_rules | `(tactic| walk_at "rd1") => `(tactic| with_reducible refine Bf.isi_ Bf.ty_i Bf.kb_ib ?_)
local macro_rules | `(tactic| walk_at "rd1") => `(tactic| with_reducible refine Bf.isi_ Bf.ty_i Bf.kb_ii ?_)
local macro_rules | `(tactic| walk_at "rd1") => `(tactic| with_reducible refine Bf.r_min2 ?_)
local macro_rules | `(tactic| walk_at "rd1") => `(tactic| with_reducible refine Bf.r_max2 ?_)
local macro_rules | `(tactic| walk_at "rd1") => `(tactic| with_reducible refine Bf.r_int ?_)
local macro_rules | `(tactic| walk_at "rd1") => `(tactic| with_reducible refine Bf.r_lenL (by assumption) ?_)
local macro_rules | `(tactic| walk_at "rd1") => `(tactic| with_reducible refine Bf.r_lenT (by assumption) ?_)
local macro_rules | `(tactic| walk_at "rd1") => `(tactic| with_reducible refine Bf.r_lst ?_)
local macro_rules | `(tactic| walk_at "rd1") => `(tactic| with_reducible refine Bf.r_tup ?_)
local macro_rules | `(tactic| walk_at "rd1") => `(tactic| with_reducible refine Bf.r_U ?_)
local macro_rules | `(tactic| walk_at "rd1") => `(tactic| with_reducible refine Bf.r_un ?_)
local macro_rules | `(tactic| walk_at "rd1") => `(tactic| with_reducible refine Bf.r_ifE ?_)
local macro_rules | `(tactic| walk_at "rd1") => `(tactic| with_reducible refine Bf.r_B ?_)
local macro_rules | `(tactic| walk_at "rd1") => `(tactic| with_reducible refine Bf.r_chain ?_)
local macro_rules | `(tactic| walk_at "rd1") => `(tactic| with_reducible refine Bf.r_notV ?_)
local macro_rules | `(tactic| walk_at "rd1") => `(tactic| with_reducible refine Bf.r_orV ?_)
local macro_rules | `(tactic| walk_at "rd1") => `(tactic| with_reducible refine Bf.r_andV ?_)
local macro_rules | `(tactic| walk_at "rd1") => `(tactic| with_reducible refine Bf.r_not ?_)
local macro_rules | `(tactic| walk_at "rd1") => `(tactic| with_reducible refine Bf.r_or ?_)
local macro_rules | `(tactic| walk_at "rd1") => `(tactic| with_reducible refine Bf.r_and ?_)
local macro_rules | `(tactic| walk_at "rd1") => `(tactic| with_reducible refine Bf.r_drop ?_)
local macro_rules | `(tactic| walk_at "rd1") => `(tactic| with_reducible refine Bf.r_cont ?_)
local macro_rules | `(tactic| walk_at "rd1") => `(tactic| with_reducible refine Bf.r_next ?_)
local macro_rules | `(tactic| walk_at "rd1") => `(tactic| with_reducible refine Bf.r_app (by with_unfolding_all rfl) (by assumption) ?_)
local macro_rules | `(tactic| walk_at "rd1") => `(tactic| with_reducible refine Bf.r_ip ?_)
local macro_rules | `(tactic| walk_at "rd1") => `(tactic| with_reducible refine Bf.r_aug (by with_unfolding_all rfl) ?_)
local macro_rules | `(tactic| walk_at "rd1") => `(tactic| with_reducible refine Bf.r_two ?_)
local macro_rules | `(tactic| walk_at "rd1") => `(tactic| with_reducible refine Bf.r_par ?_)
local macro_rules | `(tactic| walk_at "rd1") => `(tactic| ((with_reducible refine Bf.r_fat (by assumption) ?c ?n (by with_unfolding_all rfl) ?_); (case c => assumption); (case n => assumption)))
local macro_rules | `(tactic| walk_at "rd1") => `(tactic| with_reducible refine Bf.r_fld ?_)
local macro_rules | `(tactic| walk_at "rd1") => `(tactic| with_reducible refine Bf.r_ixL (by assumption) (by with_unfolding_all rfl) ?_)
local macro_rules | `(tactic| walk_at "rd1") => `(tactic| with_reducible refine Bf.r_ixT (by assumption) (by with_unfolding_all rfl) ?_)
local macro_rules | `(tactic| walk_at "rd1") => `(tactic| with_reducible refine Bf.i_nf ?_)
local macro_rules | `(tactic| walk_at "rd1") => `(tactic| with_reducible refine Bf.i_nt ?_)
local macro_rules | `(tactic| walk_at "rd1") => `(tactic| with_reducible refine Bf.i_f ?_)
local macro_rules | `(tactic| walk_at "rd1") => `(tactic| with_reducible refine Bf.i_t ?_)
local macro_rules | `(tactic| walk_at "rd1") => `(tactic| with_reducible refine Bf.r_call ?_)
local macro_rules | `(tactic| walk_at "rd1") => `(tactic| with_reducible refine Bf.r_CB ?_)
local macro_rules | `(tactic| walk_at "rd1") => `(tactic| with_reducible refine Bf.r_nil ?_)
local macro_rules | `(tactic| walk_at "rd1") => `(tactic| with_reducible refine Bf.r_cons ?_)
local macro_rules | `(tactic| walk_at "rd1") => `(tactic| with_reducible refine Bf.r_neS ?_)
local macro_rules | `(tactic| walk_at "rd1") => `(tactic| with_reducible refine Bf.r_eqS ?_)
local macro_rules | `(tactic| walk_at "rd1") => `(tactic| with_reducible refine Bf.r_neI ?_)
local macro_rules | `(tactic| walk_at "rd1") => `(tactic| with_reducible refine Bf.r_eqI ?_)
local macro_rules | `(tactic| walk_at "rd1") => `(tactic| with_reducible refine Bf.r_isbl ?_)
local macro_rules | `(tactic| walk_at "rd1") => `(tactic| with_reducible refine Bf.r_test ?_)
local macro_rules | `(tactic| walk_at "rd1") => `(tactic| with_reducible refine Bf.r_ifS ?_)
local macro_rules | `(tactic| walk_at "rd1") => `(tactic| ((with_reducible refine Bf.r_I ?c ?_); (case c => first | decide | (show (0 : Int) < _; omega) | (refine Or.inl ⟨?_, ?_⟩ <;> omega) | (refine Or.inr ⟨?_, ?_⟩ <;> omega) | (refine And.intro ?_ ?_ <;> omega))))
local macro_rules | `(tactic| walk_at "rd1") => `(tactic| with_reducible refine Bf.r_I0 ?_)
local macro_rules | `(tactic| walk_at "rd1") => `(tactic| with_reducible refine Bf.r_op ?_)
local macro_rules | `(tactic| walk_at "rd1") => `(tactic| with_reducible refine Bf.r_ret ?_)
local macro_rules | `(tactic| walk_at "rd1") => `(tactic| with_reducible refine Bf.r_name ?_)
local macro_rules | `(tactic| walk_at "rd1") => `(tactic| with_reducible refine Bf.r_c ?_)
local macro_rules | `(tactic| walk_at "rd1") => `(tactic| with_reducible refine Bf.r_var (by with_unfolding_all rfl) ?_)
local macro_rules | `(tactic| walk_at "rd1") => `(tactic| with_reducible refine Bf.r_asg ?_)
local macro_rules | `(tactic| walk_at "rd1") => `(tactic| with_reducible refine Bf.r_seq ?_)
local macro_rules | `(tactic| walk_at "rd") => `(tactic| repeat walk_at "rd1")
namespace Bf
open PySem L2
abbrev s_is_prime : Stmt := topS 11
theorem bi_is_prime : ∀ (kV doc pm : Value) (an : Option Addr) (cdv ct : Value) (us : List Value), us.length = 1 → bindArgs (PySem.W.fnOf "is_prime" "is_prime" (defArgs s_is_prime) (defBody s_is_prime) (defScope s_is_prime) .none kV doc pm an cdv ct) ⟨us, []⟩ = pure ((["n"] : List Str).zip us) := fun _ _ _ _ _ _ us hl => match us, hl with | [_], _ => rfl
theorem sc_is_prime : FnScope ["n", "divisor"] ["n"] (defScope s_is_prime) := C8.fnScope_by (by decide +kernel)
abbrev s_inverse_of : Stmt := topS 12
theorem bi_inverse_of : ∀ (kV doc pm : Value) (an : Option Addr) (cdv ct : Value) (us : List Value), us.length = 2 → bindArgs (PySem.W.fnOf "inverse_of" "inverse_of" (defArgs s_inverse_of) (defBody s_inverse_of) (defScope s_inverse_of) .none kV doc pm an cdv ct) ⟨us, []⟩ = pure ((["n", "modulus"] : List Str).zip us) := fun _ _ _ _ _ _ us hl => match us, hl with | [_, _], _ => rfl
theorem sc_inverse_of : FnScope ["n", "modulus", "rest", "other", "mine", "yours", "times"] ["n", "modulus"] (defScope s_inverse_of) := C8.fnScope_by (by decide +kernel)
def spPrime : Sp := fun vs H Q _ => ∃ n, vs = [.int n] ∧ 2 ≤ n ∧ n < 2 ^ 62 ∧ (Pr n → Q (.bl true) H) ∧ (¬ Pr n → Q (.bl false) H)
def spInv : Sp := fun vs H Q _ => ∃ n m, vs = [.int n, .int m] ∧ 2 ≤ m ∧ m ≤ 1000000000 ∧ (Int.gcd n m = 1 → ∀ H', Same H H' → Q (.int (invOf n m)) H') ∧ (Int.gcd n m ≠ 1 → ∀ H', Same H H' → Q .non H')
section
variable {P : Program} {w : World} {K : PySem.W.Frag} {mg : Str → Option Value} {base : Heap}
theorem cal_is_prime (T : Gs mg) (F : DefAt K mg "is_prime" s_is_prime) : C8.Cal P w K mg base 1 "is_prime" spPrime [] := by
  refine cal_of F sc_is_prime bi_is_prime (fun vs H Q E h => ?_) (fun f cdv A outer s H vs Q E hr h => ?_)
  · obtain ⟨n, rfl, _⟩ := h
    rfl
  · refine ⟨_, (pss_cons (ps_if (pt_cmpR op_lt (pv 0) pe_int (nomark _)) (pss_one (ps_ret pe_bl)) pss_nil)
      (pss_cons (ps_if (pt_cmpR op_eq (pe_op op_mod (pv 0) pe_int) pe_int (nomark _)) (pss_one (ps_ret (pe_cmpR op_eq (pv 0) pe_int (nomark _)))) pss_nil)
      (pss_cons (ps_set (i := 1) sc_is_prime.nd rfl (by first | exact Or.inl rfl | exact Or.inr rfl) pe_int)
      (pss_cons (ps_while PassesOwn.never (pt_cmpR op_le (pe_op op_mul (pv 1) (pv 1)) (pv 0) (nomark _)) (pss_cons (ps_if (pt_cmpR op_eq (pe_op op_mod (pv 0) (pv 1)) pe_int (nomark _)) (pss_one (ps_ret pe_bl)) pss_nil)
      (pss_one (ps_aug (i := 1) sc_is_prime.nd rfl (by first | exact Or.inl rfl | exact Or.inr rfl) pe_int ip_add))))
      (pss_one (ps_ret pe_bl)))))), ?_⟩
    obtain ⟨n, rfl, h2, h62, k1, k0⟩ := h
    walk_at "rd"
    refine i_d2 (fun he => ?_) (fun he => ?_)
    · walk_at "rd"
      refine q_d (P := fun z => Q (.bl z) H) (fun e => ?_) (fun e => ?_)
      · exact k1 ((pr_even h2 he).mpr e)
      · exact k0 fun z => e ((pr_even h2 he).mp z)
    · walk_at "rd"
      refine n_while (fun m σ H' => ∃ d : Int, σ = [some (.int n), some (.int d)] ∧ m = (n + 2 - d).toNat ∧ 3 ≤ d ∧ d ≤ n + 1 ∧ d % 2 = 1 ∧ (∀ e : Int, 2 ≤ e → e < d → n % e ≠ 0) ∧ H' = H) (n + 2 - 3).toNat ⟨3, rfl, rfl, by omega, by omega, by decide, fun e h3 h4 => by
        have : e = 2 := by omega
        subst this
        exact he, rfl⟩ ?_
      rintro m σ H' ⟨d, rfl, rfl, hd, hdn, ho, hp, rfl⟩
      walk_at "rd"
      refine w_d (fun hc => ?_) (fun hc => ?_)
      · have hdn2 : d ≤ n := by
          have : 3 * d ≤ d * d := Int.mul_le_mul_of_nonneg_right hd (by omega)
          omega
        walk_at "rd"
        refine i_d2 (fun hz => ?_) (fun hz => ?_)
        · walk_at "rd"
          exact k0 fun z => z d (by omega) hc hz
        · walk_at "rd"
          exact ⟨_, by omega, d + 2, rfl, rfl, by omega, by
            by_cases q : d + 2 ≤ n + 1
            · exact q
            · exfalso
              have q2 : d = n := by omega
              exact hz (by rw [q2]; exact Int.emod_self), by omega, pr_step he ho hp hz, rfl⟩
      · walk_at "rd"
        exact k1 (pr_end hp (by omega) (by omega))
theorem cal_inverse_of (T : Gs mg) (F : DefAt K mg "inverse_of" s_inverse_of) : C8.Cal P w K mg base 1 "inverse_of" spInv [] := by
  refine cal_of F sc_inverse_of bi_inverse_of (fun vs H Q E h => ?_) (fun f cdv A outer s H vs Q E hr h => ?_)
  · obtain ⟨n, m, rfl, _⟩ := h
    rfl
  · refine ⟨_, (pss_cons (ps_par (by rfl) sc_inverse_of.nd (i := 2) (j := 3) rfl rfl (by decide) rfl rfl (pa_cons (pe_op op_mod (pv 0) (pv 1)) (pa_cons (pv 1) pa_nil)) (by rfl))
      (pss_cons (ps_asg (pe_tup (pa_cons pe_int (pa_cons pe_int pa_nil))) (pg_tup rfl (pgs_cons (pg_name (i := 4) sc_inverse_of.nd rfl (by first | exact Or.inl rfl | exact Or.inr rfl)) (pgs_cons (pg_name (i := 5) sc_inverse_of.nd rfl (by first | exact Or.inl rfl | exact Or.inr rfl)) pgs_nil))))
      (pss_cons (ps_while PassesOwn.never (pt_cmpR op_gt (pv 3) pe_int (nomark _)) (pss_cons (ps_set (i := 6) sc_inverse_of.nd rfl (by first | exact Or.inl rfl | exact Or.inr rfl) (pe_op op_fdivN (pv 2) (pv 3)))
      (pss_cons (ps_par (by rfl) sc_inverse_of.nd (i := 2) (j := 3) rfl rfl (by decide) rfl rfl (pa_cons (pv 3) (pa_cons (pe_op op_sub (pv 2) (pe_op op_mul (pv 6) (pv 3))) pa_nil)) (by rfl))
      (pss_one (ps_par (by rfl) sc_inverse_of.nd (i := 4) (j := 5) rfl rfl (by decide) rfl rfl (pa_cons (pv 5) (pa_cons (pe_op op_sub (pv 4) (pe_op op_mul (pv 6) (pv 5))) pa_nil)) (by rfl))))))
      (pss_cons (ps_if (pt_cmpR op_ne (pv 2) pe_int (nomark _)) (pss_one (ps_ret pe_non)) pss_nil)
      (pss_one (ps_ret (pe_op op_mod (pv 4) (pv 1)))))))), ?_⟩
    obtain ⟨n, m, rfl, h2, h9, k1, k0⟩ := h
    walk_at "rd"
    refine n_tup (by decide) fun p H1 np s1 hp => ?_
    walk_at "rd"
    refine n_while (fun z σ H' => ∃ (r o a b : Int) (w : Option V), σ = [some (.int n), some (.int m), some (.int r), some (.int o), some (.int a), some (.int b), w] ∧ z = o.toNat ∧ Eu n m r o a b ∧ H' = H1) m.toNat
      ⟨n % m, m, 1, 0, none, rfl, rfl, eu_start h2, rfl⟩ ?_
    rintro z σ H' ⟨r, o, a, b, w, rfl, rfl, eu, rfl⟩
    walk_at "rd"
    refine w_d (fun hc => ?_) (fun hc => ?_)
    · obtain ⟨t1, t2, t3, t4, t5⟩ := eu_turn eu hc
      have o1 := eu.o1
      have ef : Int.fdiv r o = r / o := Int.fdiv_eq_ediv_of_nonneg r (by omega)
      with_reducible refine r_seq ?_
      with_reducible refine r_asg ?_
      walk_at "rd"
      rw [← ef] at t1 t2 t3 t4 t5
      exact ⟨_, by omega, o, r - Int.fdiv r o * o, b, a - Int.fdiv r o * b, _, rfl, rfl, t1, rfl⟩
    · have o0 : o = 0 := by
        have := eu.o0
        omega
      subst o0
      obtain ⟨g1, g2⟩ := eu_end h2 eu
      walk_at "rd"
      refine i_n2 (fun hr => ?_) (fun hr => ?_)
      · walk_at "rd"
        exact k0 (fun z => hr (g1.mpr z)) _ s1
      · walk_at "rd"
        rw [← invOf_eq h2 (g2 hr)]
        exact k1 (g1.mp hr) _ s1
end
end Bf
namespace Bf
open PySem L2
abbrev s_weights : Stmt := topS 13
theorem bi_weights : ∀ (kV doc pm : Value) (an : Option Addr) (cdv ct : Value) (us : List Value), us.length = 3 → bindArgs (PySem.W.fnOf "weights" "weights" (defArgs s_weights) (defBody s_weights) (defScope s_weights) .none kV doc pm an cdv ct) ⟨us, []⟩ = pure ((["size", "prime", "x"] : List Str).zip us) := fun _ _ _ _ _ _ us hl => match us, hl with | [_, _, _], _ => rfl
theorem sc_weights : FnScope ["size", "prime", "x", "found", "i", "above", "below", "j"] ["size", "prime", "x"] (defScope s_weights) := C8.fnScope_by (by decide +kernel)
abbrev s_interpolate : Stmt := topS 14
theorem bi_interpolate : ∀ (kV doc pm : Value) (an : Option Addr) (cdv ct : Value) (us : List Value), us.length = 4 → bindArgs (PySem.W.fnOf "interpolate" "interpolate" (defArgs s_interpolate) (defBody s_interpolate) (defScope s_interpolate) .none kV doc pm an cdv ct) ⟨us, []⟩ = pure ((["table", "prime", "x", "y"] : List Str).zip us) := fun _ _ _ _ _ _ us hl => match us, hl with | [_, _, _, _], _ => rfl
theorem sc_interpolate : FnScope ["table", "prime", "x", "y", "size", "rows", "columns", "total", "row", "weight", "part", "entry", "other"] ["table", "prime", "x", "y"] (defScope s_interpolate) := C8.fnScope_by (by decide +kernel)
theorem wprod_succ (p x i : Int) (j : Nat) : wprod p x i (List.range (j + 1)) = if (j : Int) ≠ i then wprod p x i (List.range j) * (x - j) % p else wprod p x i (List.range j) := by
  unfold wprod
  rw [List.range_succ, List.foldl_append]
  rfl
theorem wgts_take_succ {p : Int} {K : Nat} {x : Int} {i : Nat} (h : i < K) : ((wgts p K x).take (i + 1)) = (wgts p K x).take i ++ [wgt p K x i] := by
  apply take_snoc
  unfold wgts
  rw [List.getElem?_map, range_at h]
  rfl
def spWgts : Sp := fun vs H Q _ => ∃ (n : Nat) (p x : Int), vs = [.int n, .int p, .int x] ∧ n ≤ 1000000 ∧ 2 ≤ p ∧ p ≤ 1000000000 ∧ Units p n ∧ ∀ q H', H q = none → Same H H' → H' q = some (.lst ((wgts p n x).map V.int)) → Q (.ref q) H'
def spItp : Sp := fun vs H Q _ => ∃ (tb : List (List Int)) (t : V) (p x y : Int), vs = [t, .int p, .int x, .int y] ∧ Rp H (.t (tb.map fun r => .t (r.map .i))) t ∧ tb.length ≤ 1000000 ∧ 2 ≤ p ∧ p ≤ 1000000000 ∧ Units p tb.length ∧ (∀ row ∈ tb, row.length = tb.length) ∧ ∀ H', Same H H' → Q (.int (itp tb p x y)) H'
section
variable {P : Program} {w : World} {K : PySem.W.Frag} {mg : Str → Option Value} {base : Heap}
theorem cal_weights (T : Gs mg) (c_inverse_of : C8.Cal P w K mg base 1 "inverse_of" spInv []) (F : DefAt K mg "weights" s_weights) : C8.Cal P w K mg base 2 "weights" spWgts [] := by
  refine cal_of F sc_weights bi_weights (fun vs H Q E h => ?_) (fun f cdv A outer s H vs Q E hr h => ?_)
  · obtain ⟨n, p, x, rfl, _⟩ := h
    rfl
  · refine ⟨_, (pss_cons (ps_set (i := 3) sc_weights.nd rfl (by first | exact Or.inl rfl | exact Or.inr rfl) (pe_lst pa_nil))
      (pss_cons (ps_for PassesOwn.never rfl (pi_range1 rfl T.n_range (pa_cons (pv 0) pa_nil)) (pg_name (i := 4) sc_weights.nd rfl (by first | exact Or.inl rfl | exact Or.inr rfl)) (pss_cons (ps_asg (pe_tup (pa_cons pe_int (pa_cons pe_int pa_nil))) (pg_tup rfl (pgs_cons (pg_name (i := 5) sc_weights.nd rfl (by first | exact Or.inl rfl | exact Or.inr rfl)) (pgs_cons (pg_name (i := 6) sc_weights.nd rfl (by first | exact Or.inl rfl | exact Or.inr rfl)) pgs_nil))))
      (pss_cons (ps_for PassesOwn.never rfl (pi_range1 rfl T.n_range (pa_cons (pv 0) pa_nil)) (pg_name (i := 7) sc_weights.nd rfl (by first | exact Or.inl rfl | exact Or.inr rfl)) (pss_one (ps_if (pt_cmpR op_ne (pv 7) (pv 4) (nomark _)) (pss_cons (ps_set (i := 5) sc_weights.nd rfl (by first | exact Or.inl rfl | exact Or.inr rfl) (pe_op op_mod (pe_op op_mul (pv 5) (pe_op op_sub (pv 2) (pv 7))) (pv 1)))
      (pss_one (ps_set (i := 6) sc_weights.nd rfl (by first | exact Or.inl rfl | exact Or.inr rfl) (pe_op op_mod (pe_op op_mul (pv 6) (pe_op op_sub (pv 4) (pv 7))) (pv 1))))) pss_nil)))
      (pss_one (ps_expr (pe_bm PySem.F.plainAttrs_list PySem.F.slot_list_append PySem.F.type_list_append mt_append (pv 3) (pa_cons (pe_op op_mod (pe_op op_mul (pv 5) (C8.pe_c c_inverse_of hr (by first | decide | omega) rfl (pa_cons (pv 6) (pa_cons (pv 1) pa_nil)))) (pv 1)) pa_nil)))))))
      (pss_one (ps_ret (pv 3))))), ?_⟩
    obtain ⟨n, p, x, rfl, hn, h2, h9, hu, k⟩ := h
    walk_at "rd"
    refine n_lst (by decide) fun q H1 nq s1 hq => ?_
    walk_at "rd"
    refine n_forR (fun i σ H' => ∃ u1 u2 u3 u4 : Option V, σ = [some (.int n), some (.int p), some (.int x), some (.ref q), u1, u2, u3, u4] ∧ H' q = some (.lst (((wgts p n x).take i).map V.int)) ∧ Same H H') (by omega)
      ⟨_, _, _, _, rfl, hq, s1⟩ ?_ ?_
    · rintro i σ H2 hi ⟨u1, u2, u3, u4, rfl, hq2, s2⟩
      have hi' : i < n := by omega
      walk_at "rd"
      refine n_tup (by decide) fun T H3 nT s3 hT => ?_
      walk_at "rd"
      refine n_forR (fun j σ H' => ∃ u4 : Option V, σ = [some (.int n), some (.int p), some (.int x), some (.ref q), some (.int i), some (.int (wprod p x i (List.range j))), some (.int (wprod p i i (List.range j))), u4] ∧ H' = H3) (by omega)
        ⟨_, rfl, rfl⟩ ?_ ?_
      · rintro j σ H' hj ⟨u4, rfl, rfl⟩
        have b1 := wprod_bd (x := x) (i := i) h2 (List.range j)
        have b2 := wprod_bd (x := i) (i := i) h2 (List.range j)
        walk_at "rd"
        refine i_n2 (fun hne => ?_) (fun hne => ?_)
        · walk_at "rd"
          exact ⟨_, by rw [wprod_succ, wprod_succ, if_pos hne, if_pos hne]; rfl, rfl⟩
        · walk_at "rd"
          exact ⟨_, by rw [wprod_succ, wprod_succ, if_neg (by omega), if_neg (by omega)]; rfl, rfl⟩
      · rintro σ H' ⟨u4, rfl, rfl⟩
        rw [show (n : Int).toNat = n by omega]
        have b1 := wprod_bd (x := x) (i := i) h2 (List.range n)
        have hq3 := s3 _ _ hq2
        walk_at "rd"
        refine ⟨_, _, rfl, h2, h9, fun _ H4 s4 => ?_, fun hc => absurd (wprod_unit hu hi' (List.range n) (fun j hj => List.mem_range.mp hj)) hc⟩
        walk_at "rd"
        have hq4 := s4 _ _ hq3
        refine n_app hq4 (by
          rw [List.length_map, List.length_take]
          have : sizeLine = 2 ^ 24 := rfl
          omega) fun H5 k5 hq5 => ?_
        walk_at "rd"
        refine ⟨_, _, _, _, rfl, ?_, same_kp nq (s2.trans (s3.trans s4)) k5⟩
        rw [hq5, wgts_take_succ hi', List.map_append]
        rfl
    · rintro σ H' ⟨u1, u2, u3, u4, rfl, hq2, s2⟩
      walk_at "rd"
      rw [show (n : Int).toNat = n by omega, List.take_of_length_le (by rw [wgts_len]; exact Nat.le_refl _)] at hq2
      exact k q H' nq s2 hq2
theorem cal_interpolate (T : Gs mg) (c_weights : C8.Cal P w K mg base 2 "weights" spWgts []) (F : DefAt K mg "interpolate" s_interpolate) : C8.Cal P w K mg base 3 "interpolate" spItp [] := by
  refine cal_of F sc_interpolate bi_interpolate (fun vs H Q E h => ?_) (fun f cdv A outer s H vs Q E hr h => ?_)
  · obtain ⟨n, t, p, x, y, rfl, _⟩ := h
    rfl
  · refine ⟨_, (pss_cons (ps_set (i := 4) sc_interpolate.nd rfl (by first | exact Or.inl rfl | exact Or.inr rfl) (pe_callB b_len (by rfl) T.n_len PySem.boot_len (pa_cons (pv 0) pa_nil)))
      (pss_cons (ps_if (PW.pt (pw_and (pt_chain op_le op_lt pe_int (pv 2) (pv 4)) (pw_and1 (pt_chain op_le op_lt pe_int (pv 3) (pv 4))))) (pss_one (ps_ret (pe_op op_mod (pe_ix ix_seq (pe_ix ix_seq (pv 0) (pv 2) (fun _ _ => rfl)) (pv 3) (fun _ _ => rfl)) (pv 1)))) pss_nil)
      (pss_cons (ps_set (i := 5) sc_interpolate.nd rfl (by first | exact Or.inl rfl | exact Or.inr rfl) (C8.pe_c c_weights hr (by first | decide | omega) rfl (pa_cons (pv 4) (pa_cons (pv 1) (pa_cons (pv 2) pa_nil)))))
      (pss_cons (ps_set (i := 6) sc_interpolate.nd rfl (by first | exact Or.inl rfl | exact Or.inr rfl) (C8.pe_c c_weights hr (by first | decide | omega) rfl (pa_cons (pv 4) (pa_cons (pv 1) (pa_cons (pv 3) pa_nil)))))
      (pss_cons (ps_set (i := 7) sc_interpolate.nd rfl (by first | exact Or.inl rfl | exact Or.inr rfl) pe_int)
      (pss_cons (ps_for PassesOwn.never rfl (pi_zipTL (by rfl) T.n_zip (pa_cons (pv 0) (pa_cons (pv 5) pa_nil))) (pg_tup rfl (pgs_cons (pg_name (i := 8) sc_interpolate.nd rfl (by first | exact Or.inl rfl | exact Or.inr rfl)) (pgs_cons (pg_name (i := 9) sc_interpolate.nd rfl (by first | exact Or.inl rfl | exact Or.inr rfl)) pgs_nil))) (pss_cons (ps_set (i := 10) sc_interpolate.nd rfl (by first | exact Or.inl rfl | exact Or.inr rfl) pe_int)
      (pss_cons (ps_for PassesOwn.never rfl (pi_zipTL (by rfl) T.n_zip (pa_cons (pv 8) (pa_cons (pv 6) pa_nil))) (pg_tup rfl (pgs_cons (pg_name (i := 11) sc_interpolate.nd rfl (by first | exact Or.inl rfl | exact Or.inr rfl)) (pgs_cons (pg_name (i := 12) sc_interpolate.nd rfl (by first | exact Or.inl rfl | exact Or.inr rfl)) pgs_nil))) (pss_one (ps_aug (i := 10) sc_interpolate.nd rfl (by first | exact Or.inl rfl | exact Or.inr rfl) (pe_op op_mul (pv 11) (pv 12)) ip_add)))
      (pss_one (ps_set (i := 7) sc_interpolate.nd rfl (by first | exact Or.inl rfl | exact Or.inr rfl) (pe_op op_mod (pe_op op_add (pv 7) (pe_op op_mul (pv 9) (pv 10))) (pv 1)))))))
      (pss_one (ps_ret (pv 7))))))))), ?_⟩
    obtain ⟨tb, t, p, x, y, rfl, hR, hn, h2, h9, hu, hsq, k⟩ := h
    obtain ⟨a, vs, rfl, ha, hl⟩ := hR
    have hlen := hl.len
    rw [List.length_map] at hlen
    walk_at "rd"
    by_cases hc : (0 ≤ x ∧ x < tb.length) ∧ 0 ≤ y ∧ y < tb.length
    · have hcc := hc
      obtain ⟨⟨x0, x1⟩, y0, y1⟩ := hc
      have e1 : x.toNat < tb.length := by omega
      have e2 : (tb.map fun r => Dt.t (r.map .i))[x.toNat]? = some (.t ((tb.getD x.toNat []).map .i)) := by
        rw [List.getElem?_map, List.getElem?_eq_getElem e1, List.getD_eq_getElem?_getD, List.getElem?_eq_getElem e1]
        rfl
      obtain ⟨v1, hv1, r1⟩ := hl.get e2
      obtain ⟨b, vs2, rfl, hb, hl2⟩ := r1
      have e3 := RpL.eq_ints hl2
      subst e3
      have em : tb.getD x.toNat [] ∈ tb := by
        rw [List.getD_eq_getElem?_getD, List.getElem?_eq_getElem e1]
        exact List.getElem_mem e1
      have e4 : y.toNat < (tb.getD x.toNat []).length := by rw [hsq _ em]; omega
      have e5 : ((tb.getD x.toNat []).map V.int)[y.toNat]? = some (.int ((tb.getD x.toNat []).getD y.toNat 0)) := by
        rw [List.getElem?_map, List.getD_eq_getElem?_getD (l := tb.getD x.toNat []), List.getElem?_eq_getElem e4]
        rfl
      rw [← hlen] at x1 y1
      refine i_d1 x0 ?_
      walk_at "rd"
      refine r_ixT ha (at_nat x0 hv1) ?_
      walk_at "rd"
      refine r_ixT hb (at_nat y0 e5) ?_
      walk_at "rd"
      have e6 : itp tb p x y = (tb.getD x.toNat []).getD y.toNat 0 % p := by
        unfold itp
        rw [if_pos hcc]
      rw [← e6]
      exact k H (Same.refl H)
    · have rest : itp tb p x y = Bf.outer p (wgts p tb.length y) (tb.zip (wgts p tb.length x)) := by
        unfold itp
        rw [if_neg hc]
      refine i_d2 (fun c1 => ?_) (fun c1 => ?_)
      · walk_at "rd"
        refine i_d2 (fun c2 => ?_) (fun c2 => ?_)
        · walk_at "rd"
          refine i_d2 (fun c3 => ?_) (fun c3 => ?_)
          · have c4 : ¬ y < vs.length := fun c4 => hc (by rw [← hlen]; exact ⟨⟨c1, c2⟩, c3, c4⟩)
            walk_at "rd"
            (refine ⟨tb.length, p, x, by rw [hlen]; rfl, hn, h2, h9, hu, fun q1 H1 n1 s1 hq1 => ?_⟩
             walk_at "rd"
             refine ⟨tb.length, p, y, by rw [hlen]; rfl, hn, h2, h9, hu, fun q2 H2 n2 s2 hq2 => ?_⟩
             walk_at "rd"
             replace hq1 := s2 _ _ hq1
             replace ha := s2 _ _ (s1 _ _ ha)
             replace hl := hl.same (s1.trans s2)
             have s3 := s1.trans s2
             refine n_forZ (fun i σ H' => ∃ u1 u2 u3 u4 u5 : Option V, σ = [some (.ref a), some (.int p), some (.int x), some (.int y), some (.int vs.length), some (.ref q1), some (.ref q2), some (.int (Bf.outer p (wgts p tb.length y) ((tb.zip (wgts p tb.length x)).take i))), u1, u2, u3, u4, u5] ∧ Same H2 H') ha hq1 (by rw [hlen, List.length_map, wgts_len])
               ⟨_, _, _, _, _, rfl, Same.refl _⟩ ?_ ?_ ?_
             · rintro i σ H' ⟨u1, u2, u3, u4, u5, rfl, s4⟩
               exact ⟨s4 _ _ ha, s4 _ _ hq1⟩
             · rintro i v v2 T σ H3 H4 hv hv2 ⟨u1, u2, u3, u4, u5, rfl, s4⟩ nT s5 hT
               obtain ⟨wt, hwt, rfl⟩ := map_at hv2
               obtain ⟨dr, hdr, hrv⟩ := hl.at hv
               rw [List.getElem?_map] at hdr
               obtain ⟨row, hrow, rfl⟩ := Option.map_eq_some_iff.mp hdr
               obtain ⟨b, vs2, rfl, hb, hl2⟩ := hrv
               have e3 := RpL.eq_ints hl2
               subst e3
               replace hb := s5 _ _ (s4 _ _ hb)
               have hq2' := s5 _ _ (s4 _ _ hq2)
               have bw := wgts_bd h2 (List.mem_of_getElem? hwt)
               have hz : (tb.zip (wgts p tb.length x))[i]? = some (row, wt) := List.getElem?_zip_eq_some.mpr ⟨hrow, hwt⟩
               walk_at "rd"
               refine n_forZ (fun j σ H' => ∃ u4 u5 : Option V, σ = [some (.ref a), some (.int p), some (.int x), some (.int y), some (.int vs.length), some (.ref q1), some (.ref q2), some (.int (Bf.outer p (wgts p tb.length y) ((tb.zip (wgts p tb.length x)).take i))), some (.ref b), some (.int wt), some (.int (((row.zip (wgts p tb.length y)).take j).foldl (fun (part : Int) (q : Int × Int) => part + q.1 * q.2) 0)), u4, u5] ∧ Same H4 H') hb hq2' (by rw [List.length_map, List.length_map, wgts_len, hsq _ (List.mem_of_getElem? hrow)])
                 ⟨_, _, rfl, Same.refl _⟩ ?_ ?_ ?_
               · rintro j σ H' ⟨u4, u5, rfl, s6⟩
                 exact ⟨s6 _ _ hb, s6 _ _ hq2'⟩
               · rintro j v v2 T2 σ H5 H6 hv hv2 ⟨u4, u5, rfl, s6⟩ nT2 s7 hT2
                 obtain ⟨en, hen, rfl⟩ := map_at hv
                 obtain ⟨wt2, hwt2, rfl⟩ := map_at hv2
                 have bw2 := wgts_bd h2 (List.mem_of_getElem? hwt2)
                 have hz2 : (row.zip (wgts p tb.length y))[j]? = some (en, wt2) := List.getElem?_zip_eq_some.mpr ⟨hen, hwt2⟩
                 walk_at "rd"
                 exact ⟨_, _, by rw [foldl_take _ _ hz2]; rfl, s6.trans s7⟩
               · rintro σ H' ⟨u4, u5, rfl, s6⟩
                 rw [List.length_map, show row.length = (row.zip (wgts p tb.length y)).length by rw [List.length_zip, wgts_len, hsq _ (List.mem_of_getElem? hrow), Nat.min_self], List.take_length]
                 walk_at "rd"
                 have e8 : Bf.outer p (wgts p tb.length y) ((tb.zip (wgts p tb.length x)).take (i + 1)) = _ := foldl_take _ _ hz
                 exact ⟨_, _, _, _, _, by rw [e8]; rfl, s4.trans (s5.trans s6)⟩
             · rintro σ H' ⟨u1, u2, u3, u4, u5, rfl, s4⟩
               rw [show vs.length = (tb.zip (wgts p tb.length x)).length by rw [List.length_zip, wgts_len, hlen, Nat.min_self], List.take_length, ← rest]
               walk_at "rd"
               exact k _ (s3.trans s4))
          · walk_at "rd"
            (refine ⟨tb.length, p, x, by rw [hlen]; rfl, hn, h2, h9, hu, fun q1 H1 n1 s1 hq1 => ?_⟩
             walk_at "rd"
             refine ⟨tb.length, p, y, by rw [hlen]; rfl, hn, h2, h9, hu, fun q2 H2 n2 s2 hq2 => ?_⟩
             walk_at "rd"
             replace hq1 := s2 _ _ hq1
             replace ha := s2 _ _ (s1 _ _ ha)
             replace hl := hl.same (s1.trans s2)
             have s3 := s1.trans s2
             refine n_forZ (fun i σ H' => ∃ u1 u2 u3 u4 u5 : Option V, σ = [some (.ref a), some (.int p), some (.int x), some (.int y), some (.int vs.length), some (.ref q1), some (.ref q2), some (.int (Bf.outer p (wgts p tb.length y) ((tb.zip (wgts p tb.length x)).take i))), u1, u2, u3, u4, u5] ∧ Same H2 H') ha hq1 (by rw [hlen, List.length_map, wgts_len])
               ⟨_, _, _, _, _, rfl, Same.refl _⟩ ?_ ?_ ?_
             · rintro i σ H' ⟨u1, u2, u3, u4, u5, rfl, s4⟩
               exact ⟨s4 _ _ ha, s4 _ _ hq1⟩
             · rintro i v v2 T σ H3 H4 hv hv2 ⟨u1, u2, u3, u4, u5, rfl, s4⟩ nT s5 hT
               obtain ⟨wt, hwt, rfl⟩ := map_at hv2
               obtain ⟨dr, hdr, hrv⟩ := hl.at hv
               rw [List.getElem?_map] at hdr
               obtain ⟨row, hrow, rfl⟩ := Option.map_eq_some_iff.mp hdr
               obtain ⟨b, vs2, rfl, hb, hl2⟩ := hrv
               have e3 := RpL.eq_ints hl2
               subst e3
               replace hb := s5 _ _ (s4 _ _ hb)
               have hq2' := s5 _ _ (s4 _ _ hq2)
               have bw := wgts_bd h2 (List.mem_of_getElem? hwt)
               have hz : (tb.zip (wgts p tb.length x))[i]? = some (row, wt) := List.getElem?_zip_eq_some.mpr ⟨hrow, hwt⟩
               walk_at "rd"
               refine n_forZ (fun j σ H' => ∃ u4 u5 : Option V, σ = [some (.ref a), some (.int p), some (.int x), some (.int y), some (.int vs.length), some (.ref q1), some (.ref q2), some (.int (Bf.outer p (wgts p tb.length y) ((tb.zip (wgts p tb.length x)).take i))), some (.ref b), some (.int wt), some (.int (((row.zip (wgts p tb.length y)).take j).foldl (fun (part : Int) (q : Int × Int) => part + q.1 * q.2) 0)), u4, u5] ∧ Same H4 H') hb hq2' (by rw [List.length_map, List.length_map, wgts_len, hsq _ (List.mem_of_getElem? hrow)])
                 ⟨_, _, rfl, Same.refl _⟩ ?_ ?_ ?_
               · rintro j σ H' ⟨u4, u5, rfl, s6⟩
                 exact ⟨s6 _ _ hb, s6 _ _ hq2'⟩
               · rintro j v v2 T2 σ H5 H6 hv hv2 ⟨u4, u5, rfl, s6⟩ nT2 s7 hT2
                 obtain ⟨en, hen, rfl⟩ := map_at hv
                 obtain ⟨wt2, hwt2, rfl⟩ := map_at hv2
                 have bw2 := wgts_bd h2 (List.mem_of_getElem? hwt2)
                 have hz2 : (row.zip (wgts p tb.length y))[j]? = some (en, wt2) := List.getElem?_zip_eq_some.mpr ⟨hen, hwt2⟩
                 walk_at "rd"
                 exact ⟨_, _, by rw [foldl_take _ _ hz2]; rfl, s6.trans s7⟩
               · rintro σ H' ⟨u4, u5, rfl, s6⟩
                 rw [List.length_map, show row.length = (row.zip (wgts p tb.length y)).length by rw [List.length_zip, wgts_len, hsq _ (List.mem_of_getElem? hrow), Nat.min_self], List.take_length]
                 walk_at "rd"
                 have e8 : Bf.outer p (wgts p tb.length y) ((tb.zip (wgts p tb.length x)).take (i + 1)) = _ := foldl_take _ _ hz
                 exact ⟨_, _, _, _, _, by rw [e8]; rfl, s4.trans (s5.trans s6)⟩
             · rintro σ H' ⟨u1, u2, u3, u4, u5, rfl, s4⟩
               rw [show vs.length = (tb.zip (wgts p tb.length x)).length by rw [List.length_zip, wgts_len, hlen, Nat.min_self], List.take_length, ← rest]
               walk_at "rd"
               exact k _ (s3.trans s4))
        · walk_at "rd"
          (refine ⟨tb.length, p, x, by rw [hlen]; rfl, hn, h2, h9, hu, fun q1 H1 n1 s1 hq1 => ?_⟩
           walk_at "rd"
           refine ⟨tb.length, p, y, by rw [hlen]; rfl, hn, h2, h9, hu, fun q2 H2 n2 s2 hq2 => ?_⟩
           walk_at "rd"
           replace hq1 := s2 _ _ hq1
           replace ha := s2 _ _ (s1 _ _ ha)
           replace hl := hl.same (s1.trans s2)
           have s3 := s1.trans s2
           refine n_forZ (fun i σ H' => ∃ u1 u2 u3 u4 u5 : Option V, σ = [some (.ref a), some (.int p), some (.int x), some (.int y), some (.int vs.length), some (.ref q1), some (.ref q2), some (.int (Bf.outer p (wgts p tb.length y) ((tb.zip (wgts p tb.length x)).take i))), u1, u2, u3, u4, u5] ∧ Same H2 H') ha hq1 (by rw [hlen, List.length_map, wgts_len])
             ⟨_, _, _, _, _, rfl, Same.refl _⟩ ?_ ?_ ?_
           · rintro i σ H' ⟨u1, u2, u3, u4, u5, rfl, s4⟩
             exact ⟨s4 _ _ ha, s4 _ _ hq1⟩
           · rintro i v v2 T σ H3 H4 hv hv2 ⟨u1, u2, u3, u4, u5, rfl, s4⟩ nT s5 hT
             obtain ⟨wt, hwt, rfl⟩ := map_at hv2
             obtain ⟨dr, hdr, hrv⟩ := hl.at hv
             rw [List.getElem?_map] at hdr
             obtain ⟨row, hrow, rfl⟩ := Option.map_eq_some_iff.mp hdr
             obtain ⟨b, vs2, rfl, hb, hl2⟩ := hrv
             have e3 := RpL.eq_ints hl2
             subst e3
             replace hb := s5 _ _ (s4 _ _ hb)
             have hq2' := s5 _ _ (s4 _ _ hq2)
             have bw := wgts_bd h2 (List.mem_of_getElem? hwt)
             have hz : (tb.zip (wgts p tb.length x))[i]? = some (row, wt) := List.getElem?_zip_eq_some.mpr ⟨hrow, hwt⟩
             walk_at "rd"
             refine n_forZ (fun j σ H' => ∃ u4 u5 : Option V, σ = [some (.ref a), some (.int p), some (.int x), some (.int y), some (.int vs.length), some (.ref q1), some (.ref q2), some (.int (Bf.outer p (wgts p tb.length y) ((tb.zip (wgts p tb.length x)).take i))), some (.ref b), some (.int wt), some (.int (((row.zip (wgts p tb.length y)).take j).foldl (fun (part : Int) (q : Int × Int) => part + q.1 * q.2) 0)), u4, u5] ∧ Same H4 H') hb hq2' (by rw [List.length_map, List.length_map, wgts_len, hsq _ (List.mem_of_getElem? hrow)])
               ⟨_, _, rfl, Same.refl _⟩ ?_ ?_ ?_
             · rintro j σ H' ⟨u4, u5, rfl, s6⟩
               exact ⟨s6 _ _ hb, s6 _ _ hq2'⟩
             · rintro j v v2 T2 σ H5 H6 hv hv2 ⟨u4, u5, rfl, s6⟩ nT2 s7 hT2
               obtain ⟨en, hen, rfl⟩ := map_at hv
               obtain ⟨wt2, hwt2, rfl⟩ := map_at hv2
               have bw2 := wgts_bd h2 (List.mem_of_getElem? hwt2)
               have hz2 : (row.zip (wgts p tb.length y))[j]? = some (en, wt2) := List.getElem?_zip_eq_some.mpr ⟨hen, hwt2⟩
               walk_at "rd"
               exact ⟨_, _, by rw [foldl_take _ _ hz2]; rfl, s6.trans s7⟩
             · rintro σ H' ⟨u4, u5, rfl, s6⟩
               rw [List.length_map, show row.length = (row.zip (wgts p tb.length y)).length by rw [List.length_zip, wgts_len, hsq _ (List.mem_of_getElem? hrow), Nat.min_self], List.take_length]
               walk_at "rd"
               have e8 : Bf.outer p (wgts p tb.length y) ((tb.zip (wgts p tb.length x)).take (i + 1)) = _ := foldl_take _ _ hz
               exact ⟨_, _, _, _, _, by rw [e8]; rfl, s4.trans (s5.trans s6)⟩
           · rintro σ H' ⟨u1, u2, u3, u4, u5, rfl, s4⟩
             rw [show vs.length = (tb.zip (wgts p tb.length x)).length by rw [List.length_zip, wgts_len, hlen, Nat.min_self], List.take_length, ← rest]
             walk_at "rd"
             exact k _ (s3.trans s4))
      · walk_at "rd"
        refine ⟨tb.length, p, x, by rw [hlen]; rfl, hn, h2, h9, hu, fun q1 H1 n1 s1 hq1 => ?_⟩
        walk_at "rd"
        refine ⟨tb.length, p, y, by rw [hlen]; rfl, hn, h2, h9, hu, fun q2 H2 n2 s2 hq2 => ?_⟩
        walk_at "rd"
        replace hq1 := s2 _ _ hq1
        replace ha := s2 _ _ (s1 _ _ ha)
        replace hl := hl.same (s1.trans s2)
        have s3 := s1.trans s2
        refine n_forZ (fun i σ H' => ∃ u1 u2 u3 u4 u5 : Option V, σ = [some (.ref a), some (.int p), some (.int x), some (.int y), some (.int vs.length), some (.ref q1), some (.ref q2), some (.int (Bf.outer p (wgts p tb.length y) ((tb.zip (wgts p tb.length x)).take i))), u1, u2, u3, u4, u5] ∧ Same H2 H') ha hq1 (by rw [hlen, List.length_map, wgts_len])
          ⟨_, _, _, _, _, rfl, Same.refl _⟩ ?_ ?_ ?_
        · rintro i σ H' ⟨u1, u2, u3, u4, u5, rfl, s4⟩
          exact ⟨s4 _ _ ha, s4 _ _ hq1⟩
        · rintro i v v2 T σ H3 H4 hv hv2 ⟨u1, u2, u3, u4, u5, rfl, s4⟩ nT s5 hT
          obtain ⟨wt, hwt, rfl⟩ := map_at hv2
          obtain ⟨dr, hdr, hrv⟩ := hl.at hv
          rw [List.getElem?_map] at hdr
          obtain ⟨row, hrow, rfl⟩ := Option.map_eq_some_iff.mp hdr
          obtain ⟨b, vs2, rfl, hb, hl2⟩ := hrv
          have e3 := RpL.eq_ints hl2
          subst e3
          replace hb := s5 _ _ (s4 _ _ hb)
          have hq2' := s5 _ _ (s4 _ _ hq2)
          have bw := wgts_bd h2 (List.mem_of_getElem? hwt)
          have hz : (tb.zip (wgts p tb.length x))[i]? = some (row, wt) := List.getElem?_zip_eq_some.mpr ⟨hrow, hwt⟩
          walk_at "rd"
          refine n_forZ (fun j σ H' => ∃ u4 u5 : Option V, σ = [some (.ref a), some (.int p), some (.int x), some (.int y), some (.int vs.length), some (.ref q1), some (.ref q2), some (.int (Bf.outer p (wgts p tb.length y) ((tb.zip (wgts p tb.length x)).take i))), some (.ref b), some (.int wt), some (.int (((row.zip (wgts p tb.length y)).take j).foldl (fun (part : Int) (q : Int × Int) => part + q.1 * q.2) 0)), u4, u5] ∧ Same H4 H') hb hq2' (by rw [List.length_map, List.length_map, wgts_len, hsq _ (List.mem_of_getElem? hrow)])
            ⟨_, _, rfl, Same.refl _⟩ ?_ ?_ ?_
          · rintro j σ H' ⟨u4, u5, rfl, s6⟩
            exact ⟨s6 _ _ hb, s6 _ _ hq2'⟩
          · rintro j v v2 T2 σ H5 H6 hv hv2 ⟨u4, u5, rfl, s6⟩ nT2 s7 hT2
            obtain ⟨en, hen, rfl⟩ := map_at hv
            obtain ⟨wt2, hwt2, rfl⟩ := map_at hv2
            have bw2 := wgts_bd h2 (List.mem_of_getElem? hwt2)
            have hz2 : (row.zip (wgts p tb.length y))[j]? = some (en, wt2) := List.getElem?_zip_eq_some.mpr ⟨hen, hwt2⟩
            walk_at "rd"
            exact ⟨_, _, by rw [foldl_take _ _ hz2]; rfl, s6.trans s7⟩
          · rintro σ H' ⟨u4, u5, rfl, s6⟩
            rw [List.length_map, show row.length = (row.zip (wgts p tb.length y)).length by rw [List.length_zip, wgts_len, hsq _ (List.mem_of_getElem? hrow), Nat.min_self], List.take_length]
            walk_at "rd"
            have e8 : Bf.outer p (wgts p tb.length y) ((tb.zip (wgts p tb.length x)).take (i + 1)) = _ := foldl_take _ _ hz
            exact ⟨_, _, _, _, _, by rw [e8]; rfl, s4.trans (s5.trans s6)⟩
        · rintro σ H' ⟨u1, u2, u3, u4, u5, rfl, s4⟩
          rw [show vs.length = (tb.zip (wgts p tb.length x)).length by rw [List.length_zip, wgts_len, hlen, Nat.min_self], List.take_length, ← rest]
          walk_at "rd"
          exact k _ (s3.trans s4)
end
end Bf
namespace Bf
open PySem L2
abbrev s_is_factor : Stmt := topS 28
theorem bi_is_factor : ∀ (kV doc pm : Value) (an : Option Addr) (cdv ct : Value) (us : List Value), us.length = 4 → bindArgs (PySem.W.fnOf "is_factor" "is_factor" (defArgs s_is_factor) (defBody s_is_factor) (defScope s_is_factor) .none kV doc pm an cdv ct) ⟨us, []⟩ = pure ((["factor", "target", "cells", "inputs"] : List Str).zip us) := fun _ _ _ _ _ _ us hl => match us, hl with | [_, _, _, _], _ => rfl
theorem sc_is_factor : FnScope ["factor", "target", "cells", "inputs"] ["factor", "target", "cells", "inputs"] (defScope s_is_factor) := C8.fnScope_by (by decide +kernel)
abbrev s_is_table : Stmt := topS 29
theorem bi_is_table : ∀ (kV doc pm : Value) (an : Option Addr) (cdv ct : Value) (us : List Value), us.length = 2 → bindArgs (PySem.W.fnOf "is_table" "is_table" (defArgs s_is_table) (defBody s_is_table) (defScope s_is_table) .none kV doc pm an cdv ct) ⟨us, []⟩ = pure ((["table", "modulus"] : List Str).zip us) := fun _ _ _ _ _ _ us hl => match us, hl with | [_, _], _ => rfl
theorem sc_is_table : FnScope ["table", "modulus", "row", "entry"] ["table", "modulus"] (defScope s_is_table) := C8.fnScope_by (by decide +kernel)
abbrev s_is_add : Stmt := topS 30
theorem bi_is_add : ∀ (kV doc pm : Value) (an : Option Addr) (cdv ct : Value) (us : List Value), us.length = 4 → bindArgs (PySem.W.fnOf "is_add" "is_add" (defArgs s_is_add) (defBody s_is_add) (defScope s_is_add) .none kV doc pm an cdv ct) ⟨us, []⟩ = pure ((["step", "modulus", "cells", "inputs"] : List Str).zip us) := fun _ _ _ _ _ _ us hl => match us, hl with | [_, _, _, _], _ => rfl
theorem sc_is_add : FnScope ["step", "modulus", "cells", "inputs", "_", "target", "coefficient", "factors", "factor"] ["step", "modulus", "cells", "inputs"] (defScope s_is_add) := C8.fnScope_by (by decide +kernel)
abbrev s_is_look : Stmt := topS 31
theorem bi_is_look : ∀ (kV doc pm : Value) (an : Option Addr) (cdv ct : Value) (us : List Value), us.length = 3 → bindArgs (PySem.W.fnOf "is_look" "is_look" (defArgs s_is_look) (defBody s_is_look) (defScope s_is_look) .none kV doc pm an cdv ct) ⟨us, []⟩ = pure ((["step", "modulus", "cells"] : List Str).zip us) := fun _ _ _ _ _ _ us hl => match us, hl with | [_, _, _], _ => rfl
theorem sc_is_look : FnScope ["step", "modulus", "cells", "_", "target", "sign", "table", "a", "b", "cell"] ["step", "modulus", "cells"] (defScope s_is_look) := C8.fnScope_by (by decide +kernel)
abbrev s_is_step : Stmt := topS 32
theorem bi_is_step : ∀ (kV doc pm : Value) (an : Option Addr) (cdv ct : Value) (us : List Value), us.length = 4 → bindArgs (PySem.W.fnOf "is_step" "is_step" (defArgs s_is_step) (defBody s_is_step) (defScope s_is_step) .none kV doc pm an cdv ct) ⟨us, []⟩ = pure ((["step", "modulus", "cells", "inputs"] : List Str).zip us) := fun _ _ _ _ _ _ us hl => match us, hl with | [_, _, _, _], _ => rfl
theorem sc_is_step : FnScope ["step", "modulus", "cells", "inputs"] ["step", "modulus", "cells", "inputs"] (defScope s_is_step) := C8.fnScope_by (by decide +kernel)
def spFactor : Sp := fun vs H Q _ => ∃ (f : Fac) (t c n : Int) (v : V), vs = [v, .int t, .int c, .int n] ∧ Rp H f.d v ∧ f.ok t c n ∧ Q (.bl true) H
def spTable : Sp := fun vs H Q _ => ∃ (tb : List (List Int)) (m : Int) (v : V), vs = [v, .int m] ∧ Rp H (tabD tb) v ∧ IsTab m tb ∧ (tb.length : Int) ≤ m ∧ Q (.bl true) H
section
variable {P : Program} {w : World} {K : PySem.W.Frag} {mg : Str → Option Value} {base : Heap}
theorem cal_is_factor (T : Gs mg) (c_is_number : C8.Cal P w K mg base 2 "is_number" spIsNum []) (F : DefAt K mg "is_factor" s_is_factor) : C8.Cal P w K mg base 3 "is_factor" spFactor [] := by
  refine cal_of F sc_is_factor bi_is_factor (fun vs H Q E h => ?_) (fun f cdv A outer s H vs Q E hr h => ?_)
  · obtain ⟨n, t, p, x, y, rfl, _⟩ := h
    rfl
  · refine ⟨_, (pss_cons (ps_if (PW.pt (pw_or (pt_not (pt_val (pe_callB call_isi (by rfl) T.n_isinstance (by decide +kernel) (pa_cons (pv 0) (pa_cons (pe_bltn (v := .ty "tuple") rfl T.n_tuple (by decide +kernel) rfl) pa_nil))))) (pw_or1 (pt_cmpR op_ne (pe_callB b_len (by rfl) T.n_len PySem.boot_len (pa_cons (pv 0) pa_nil)) pe_int (nomark _))))) (pss_one (ps_ret pe_bl)) pss_nil)
      (pss_cons (ps_if (pt_cmpR op_eq (pe_ix ix_seq (pv 0) pe_int (fun _ _ => rfl)) pe_str (nomark _)) (pss_one (ps_ret (pe_and (C8.pe_c c_is_number hr (by first | decide | omega) rfl (pa_cons (pe_ix ix_seq (pv 0) pe_int (fun _ _ => rfl)) (pa_cons (pv 2) pa_nil))) (pe_one (pe_cmpR op_ne (pe_ix ix_seq (pv 0) pe_int (fun _ _ => rfl)) (pv 1) (nomark _)))))) pss_nil)
      (pss_one (ps_ret (pe_and (pe_cmpR op_eq (pe_ix ix_seq (pv 0) pe_int (fun _ _ => rfl)) pe_str (nomark _)) (pe_one (C8.pe_c c_is_number hr (by first | decide | omega) rfl (pa_cons (pe_ix ix_seq (pv 0) pe_int (fun _ _ => rfl)) (pa_cons (pv 3) pa_nil))))))))), ?_⟩
    obtain ⟨f, t, c, n, v, rfl, hR, ok, k⟩ := h
    cases f with
    | cell i =>
      obtain ⟨a, _, rfl, ha, w1, _, rfl, rfl, w2, _, rfl, rfl, rfl⟩ := hR
      obtain ⟨⟨i0, i1⟩, i2⟩ := ok
      walk_at "rd"
      rw [decide_eq_false i2]
      exact k
    | inp i =>
      obtain ⟨a, _, rfl, ha, w1, _, rfl, rfl, w2, _, rfl, rfl, rfl⟩ := hR
      obtain ⟨i0, i1⟩ := ok
      walk_at "rd"
      exact k
theorem cal_is_table (T : Gs mg) (c_is_number : C8.Cal P w K mg base 2 "is_number" spIsNum []) (F : DefAt K mg "is_table" s_is_table) : C8.Cal P w K mg base 3 "is_table" spTable [] := by
  refine cal_of F sc_is_table bi_is_table (fun vs H Q E h => ?_) (fun f cdv A outer s H vs Q E hr h => ?_)
  · obtain ⟨n, t, p, rfl, _⟩ := h
    rfl
  · refine ⟨_, (pss_cons (ps_if (PW.pt (pw_or (pt_not (pt_val (pe_callB call_isi (by rfl) T.n_isinstance (by decide +kernel) (pa_cons (pv 0) (pa_cons (pe_bltn (v := .ty "tuple") rfl T.n_tuple (by decide +kernel) rfl) pa_nil))))) (pw_or1 (pt_not (pt_chain op_le op_le pe_int (pe_callB b_len (by rfl) T.n_len PySem.boot_len (pa_cons (pv 0) pa_nil)) (pv 1)))))) (pss_one (ps_ret pe_bl)) pss_nil)
      (pss_cons (ps_for PassesOwn.never rfl (pi_tup (pv 0)) (pg_name (i := 2) sc_is_table.nd rfl (by first | exact Or.inl rfl | exact Or.inr rfl)) (pss_cons (ps_if (PW.pt (pw_or (pt_not (pt_val (pe_callB call_isi (by rfl) T.n_isinstance (by decide +kernel) (pa_cons (pv 2) (pa_cons (pe_bltn (v := .ty "tuple") rfl T.n_tuple (by decide +kernel) rfl) pa_nil))))) (pw_or1 (pt_cmpR op_ne (pe_callB b_len (by rfl) T.n_len PySem.boot_len (pa_cons (pv 2) pa_nil)) (pe_callB b_len (by rfl) T.n_len PySem.boot_len (pa_cons (pv 0) pa_nil)) (nomark _))))) (pss_one (ps_ret pe_bl)) pss_nil)
      (pss_one (ps_for PassesOwn.never rfl (pi_tup (pv 2)) (pg_name (i := 3) sc_is_table.nd rfl (by first | exact Or.inl rfl | exact Or.inr rfl)) (pss_one (ps_if (pt_not (pt_val (C8.pe_c c_is_number hr (by first | decide | omega) rfl (pa_cons (pv 3) (pa_cons (pv 1) pa_nil))))) (pss_one (ps_ret pe_bl)) pss_nil))))))
      (pss_one (ps_ret pe_bl)))), ?_⟩
    obtain ⟨tb, m, v, rfl, hR, tab, le, k⟩ := h
    obtain ⟨a, vs, rfl, ha, hl⟩ := hR
    have hlen := hl.len
    rw [List.length_map] at hlen
    have hpos := tab.pos
    walk_at "rd"
    refine n_forT (fun i σ H' => ∃ u1 u2 : Option V, σ = [some (.ref a), some (.int m), u1, u2] ∧ H' = H) ha ⟨_, _, rfl, rfl⟩ (fun i σ H' _ h => by obtain ⟨_, _, _, rfl⟩ := h; exact ha) ?_ ?_
    · rintro i x σ H' hx ⟨u1, u2, rfl, rfl⟩
      obtain ⟨dr, hdr, hrv⟩ := hl.at hx
      obtain ⟨row, hrow, rfl⟩ := Option.map_eq_some_iff.mp (by rwa [List.getElem?_map] at hdr)
      obtain ⟨b, vs2, rfl, hb, hl2⟩ := hrv
      have e3 := RpL.eq_ints hl2
      subst e3
      have hmem := List.mem_of_getElem? hrow
      have hsq := tab.sq _ hmem
      have hrl : (((row.map V.int).length : Nat) : Int) = (vs.length : Nat) := by rw [List.length_map, hsq, hlen]
      walk_at "rd"
      refine n_forT (fun i σ H1 => ∃ u2 : Option V, σ = [some (.ref a), some (.int m), some (.ref b), u2] ∧ H1 = H') hb ⟨_, rfl, rfl⟩ (fun i σ H1 _ h => by obtain ⟨_, _, rfl⟩ := h; exact hb) ?_ ?_
      · rintro j x σ H1 hx ⟨u2, rfl, rfl⟩
        obtain ⟨en, hen, rfl⟩ := map_at hx
        have hbd := tab.bd _ hmem _ (List.mem_of_getElem? hen)
        walk_at "rd"
        exact ⟨_, rfl, rfl⟩
      · rintro σ H1 ⟨u2, rfl, rfl⟩
        walk_at "rd"
        exact ⟨_, _, rfl, rfl⟩
    · rintro σ H' ⟨u1, u2, rfl, rfl⟩
      walk_at "rd"
      exact k
def spAdd : Sp := fun vs H Q _ => ∃ (t k : Int) (fs : List Fac) (m c n : Int) (v : V), vs = [v, .int m, .int c, .int n] ∧ Rp H (Step.add t k fs).d v ∧ (Step.add t k fs).ok m c n ∧ Q (.bl true) H
def spLook : Sp := fun vs H Q _ => ∃ (t s : Int) (tb : List (List Int)) (a b m c : Int) (v : V), vs = [v, .int m, .int c] ∧ Rp H (Step.table t s tb a b).d v ∧ Look m c t s tb a b ∧ ∀ H', Same H H' → Q (.bl true) H'
def spStep : Sp := fun vs H Q _ => ∃ (s : Step) (m c n : Int) (v : V), vs = [v, .int m, .int c, .int n] ∧ Rp H s.d v ∧ s.ok m c n ∧ 2 ≤ m ∧ m ≤ 1000000000 ∧ ∀ H', Same H H' → Q (.bl true) H'
theorem cal_is_add (T : Gs mg) (c_is_number : C8.Cal P w K mg base 2 "is_number" spIsNum []) (c_is_factor : C8.Cal P w K mg base 3 "is_factor" spFactor []) (F : DefAt K mg "is_add" s_is_add) : C8.Cal P w K mg base 4 "is_add" spAdd [] := by
  refine cal_of F sc_is_add bi_is_add (fun vs H Q E h => ?_) (fun f cdv A outer s H vs Q E hr h => ?_)
  · obtain ⟨t, k, fs, m, c, n, v, rfl, _⟩ := h
    rfl
  · refine ⟨_, (pss_cons (ps_asg (pv 0) (pg_tup rfl (pgs_cons (pg_name (i := 4) sc_is_add.nd rfl (by first | exact Or.inl rfl | exact Or.inr rfl)) (pgs_cons (pg_name (i := 5) sc_is_add.nd rfl (by first | exact Or.inl rfl | exact Or.inr rfl)) (pgs_cons (pg_name (i := 6) sc_is_add.nd rfl (by first | exact Or.inl rfl | exact Or.inr rfl)) (pgs_cons (pg_name (i := 7) sc_is_add.nd rfl (by first | exact Or.inl rfl | exact Or.inr rfl)) pgs_nil))))))
      (pss_cons (ps_if (PW.pt (pw_or (pt_not (pt_val (C8.pe_c c_is_number hr (by first | decide | omega) rfl (pa_cons (pv 5) (pa_cons (pv 2) pa_nil))))) (pw_or1 (pt_not (pt_val (C8.pe_c c_is_number hr (by first | decide | omega) rfl (pa_cons (pv 6) (pa_cons (pv 1) pa_nil)))))))) (pss_one (ps_ret pe_bl)) pss_nil)
      (pss_cons (ps_if (PW.pt (pw_or (pt_not (pt_val (pe_callB call_isi (by rfl) T.n_isinstance (by decide +kernel) (pa_cons (pv 7) (pa_cons (pe_bltn (v := .ty "tuple") rfl T.n_tuple (by decide +kernel) rfl) pa_nil))))) (pw_or1 (pt_cmpR op_gt (pe_callB b_len (by rfl) T.n_len PySem.boot_len (pa_cons (pv 7) pa_nil)) (C8.pe_gc rfl T.c_FACTORS) (nomark _))))) (pss_one (ps_ret pe_bl)) pss_nil)
      (pss_cons (ps_for PassesOwn.never rfl (pi_tup (pv 7)) (pg_name (i := 8) sc_is_add.nd rfl (by first | exact Or.inl rfl | exact Or.inr rfl)) (pss_one (ps_if (pt_not (pt_val (C8.pe_c c_is_factor hr (by first | decide | omega) rfl (pa_cons (pv 8) (pa_cons (pv 5) (pa_cons (pv 2) (pa_cons (pv 3) pa_nil))))))) (pss_one (ps_ret pe_bl)) pss_nil)))
      (pss_one (ps_ret pe_bl)))))), ?_⟩
    obtain ⟨t, co, fs, m, c, n, v, rfl, hR, ok, k⟩ := h
    obtain ⟨a, _, rfl, ha, w1, _, rfl, rfl, w2, _, rfl, rfl, w3, _, rfl, rfl, w4, _, rfl, ⟨b, vs, rfl, hb, hl⟩, rfl⟩ := hR
    obtain ⟨⟨t0, t1⟩, ⟨k0, k1⟩, hf3, hf⟩ := ok
    have hlen := hl.len
    rw [List.length_map] at hlen
    walk_at "rd"
    refine n_forT (fun i σ H' => ∃ u1 : Option V, σ = [some (.ref a), some (.int m), some (.int c), some (.int n), some (.str "add"), some (.int t), some (.int co), some (.ref b), u1] ∧ H' = H) hb ⟨_, rfl, rfl⟩ (fun i σ H' _ h => by obtain ⟨_, _, rfl⟩ := h; exact hb) ?_ ?_
    · rintro i x σ H' hx ⟨u1, rfl, rfl⟩
      obtain ⟨df, hdf, hfv⟩ := hl.at hx
      obtain ⟨fc, hfc, rfl⟩ := Option.map_eq_some_iff.mp (by rwa [List.getElem?_map] at hdf)
      walk_at "rd"
      refine ⟨fc, t, c, n, x, rfl, hfv, hf _ (List.mem_of_getElem? hfc), ?_⟩
      walk_at "rd"
      exact ⟨_, rfl, rfl⟩
    · rintro σ H' ⟨u1, rfl, rfl⟩
      walk_at "rd"
      exact k
theorem cal_is_look (T : Gs mg) (c_is_number : C8.Cal P w K mg base 2 "is_number" spIsNum []) (c_is_integer : C8.Cal P w K mg base 1 "is_integer" spIsInt []) (c_is_table : C8.Cal P w K mg base 3 "is_table" spTable []) (F : DefAt K mg "is_look" s_is_look) : C8.Cal P w K mg base 4 "is_look" spLook [] := by
  refine cal_of F sc_is_look bi_is_look (fun vs H Q E h => ?_) (fun f cdv A outer s H vs Q E hr h => ?_)
  · obtain ⟨t, s, tb, a, b, m, c, v, rfl, _⟩ := h
    rfl
  · refine ⟨_, (pss_cons (ps_asg (pv 0) (pg_tup rfl (pgs_cons (pg_name (i := 3) sc_is_look.nd rfl (by first | exact Or.inl rfl | exact Or.inr rfl)) (pgs_cons (pg_name (i := 4) sc_is_look.nd rfl (by first | exact Or.inl rfl | exact Or.inr rfl)) (pgs_cons (pg_name (i := 5) sc_is_look.nd rfl (by first | exact Or.inl rfl | exact Or.inr rfl)) (pgs_cons (pg_name (i := 6) sc_is_look.nd rfl (by first | exact Or.inl rfl | exact Or.inr rfl)) (pgs_cons (pg_name (i := 7) sc_is_look.nd rfl (by first | exact Or.inl rfl | exact Or.inr rfl)) (pgs_cons (pg_name (i := 8) sc_is_look.nd rfl (by first | exact Or.inl rfl | exact Or.inr rfl)) pgs_nil))))))))
      (pss_cons (ps_for PassesOwn.never rfl (pi_tup (pe_tup (pa_cons (pv 4) (pa_cons (pv 7) (pa_cons (pv 8) pa_nil))))) (pg_name (i := 9) sc_is_look.nd rfl (by first | exact Or.inl rfl | exact Or.inr rfl)) (pss_one (ps_if (pt_not (pt_val (C8.pe_c c_is_number hr (by first | decide | omega) rfl (pa_cons (pv 9) (pa_cons (pv 2) pa_nil))))) (pss_one (ps_ret pe_bl)) pss_nil)))
      (pss_cons (ps_if (PW.pt (pw_or (pt_cmpR op_eq (pv 4) (pv 7) (nomark _)) (pw_or (pt_cmpR op_eq (pv 4) (pv 8) (nomark _)) (pw_or (pt_cmpR op_eq (pv 7) (pv 8) (nomark _)) (pw_or1 (pt_not (pt_val (C8.pe_c c_is_integer hr (by first | decide | omega) rfl (pa_cons (pv 5) pa_nil))))))))) (pss_one (ps_ret pe_bl)) pss_nil)
      (pss_cons (ps_if (PW.pt (pw_and (pt_cmpR op_ne (pv 5) pe_int (nomark _)) (pw_and1 (pt_cmpR op_ne (pv 5) (pe_op op_sub (pv 1) pe_int) (nomark _))))) (pss_one (ps_ret pe_bl)) pss_nil)
      (pss_one (ps_ret (C8.pe_c c_is_table hr (by first | decide | omega) rfl (pa_cons (pv 6) (pa_cons (pv 1) pa_nil))))))))), ?_⟩
    obtain ⟨t, sg, tb, a, b, m, c, v, rfl, hR, lk, k⟩ := h
    obtain ⟨p, _, rfl, hp, w1, _, rfl, rfl, w2, _, rfl, rfl, w3, _, rfl, rfl, w4, _, rfl, hT, w5, _, rfl, rfl, w6, _, rfl, rfl, rfl⟩ := hR
    obtain ⟨t0, t1⟩ := lk.ht
    obtain ⟨a0, a1⟩ := lk.ha
    obtain ⟨b0, b1⟩ := lk.hb
    have hta := lk.hta
    have htb := lk.htb
    have hab := lk.hab
    walk_at "rd"
    refine n_tup (Nat.le_of_ble_eq_true rfl) fun q H1 nq s1 hq => ?_
    walk_at "rd"
    refine n_forT (fun i σ H' => ∃ u1 : Option V, σ = [some (.ref p), some (.int m), some (.int c), some (.str "table"), some (.int t), some (.int sg), some w4, some (.int a), some (.int b), u1] ∧ H' = H1) hq ⟨_, rfl, rfl⟩ (fun i σ H' _ h => by obtain ⟨_, _, rfl⟩ := h; exact hq) ?_ ?_
    · rintro i x σ H' hx ⟨u1, rfl, rfl⟩
      have hc : ∃ z : Int, x = .int z ∧ 0 ≤ z ∧ z < c := by
        rcases i with _ | _ | _ | i
        · exact ⟨t, by simpa using hx.symm, t0, t1⟩
        · exact ⟨a, by simpa using hx.symm, a0, a1⟩
        · exact ⟨b, by simpa using hx.symm, b0, b1⟩
        · simp at hx
      obtain ⟨z, rfl, z0, z1⟩ := hc
      walk_at "rd"
      exact ⟨_, rfl, rfl⟩
    · rintro σ H' ⟨u1, rfl, rfl⟩
      have kk := k H' s1
      have hT' := hT.same s1
      rcases lk.hs with e | e
      · subst e
        walk_at "rd"
        exact ⟨tb, m, w4, rfl, hT', lk.tab, lk.le, kk⟩
      · by_cases e2 : sg = 1
        · subst e2
          walk_at "rd"
          exact ⟨tb, m, w4, rfl, hT', lk.tab, lk.le, kk⟩
        · walk_at "rd"
          exact ⟨tb, m, w4, rfl, hT', lk.tab, lk.le, kk⟩
theorem cal_is_step (T : Gs mg) (c_is_number : C8.Cal P w K mg base 2 "is_number" spIsNum []) (c_inverse_of : C8.Cal P w K mg base 1 "inverse_of" spInv []) (c_is_add : C8.Cal P w K mg base 4 "is_add" spAdd []) (c_is_look : C8.Cal P w K mg base 4 "is_look" spLook []) (F : DefAt K mg "is_step" s_is_step) : C8.Cal P w K mg base 5 "is_step" spStep [] := by
  refine cal_of F sc_is_step bi_is_step (fun vs H Q E h => ?_) (fun f cdv A outer s H vs Q E hr h => ?_)
  · obtain ⟨s, m, c, n, v, rfl, _⟩ := h
    rfl
  · refine ⟨_, (pss_cons (ps_if (PW.pt (pw_or (pt_not (pt_val (pe_callB call_isi (by rfl) T.n_isinstance (by decide +kernel) (pa_cons (pv 0) (pa_cons (pe_bltn (v := .ty "tuple") rfl T.n_tuple (by decide +kernel) rfl) pa_nil))))) (pw_or1 (pt_cmpR op_lt (pe_callB b_len (by rfl) T.n_len PySem.boot_len (pa_cons (pv 0) pa_nil)) pe_int (nomark _))))) (pss_one (ps_ret pe_bl)) pss_nil)
      (pss_cons (ps_if (PW.pt (pw_and (pt_cmpR op_eq (pe_ix ix_seq (pv 0) pe_int (fun _ _ => rfl)) pe_str (nomark _)) (pw_and1 (pt_cmpR op_eq (pe_callB b_len (by rfl) T.n_len PySem.boot_len (pa_cons (pv 0) pa_nil)) pe_int (nomark _))))) (pss_one (ps_ret (C8.pe_c c_is_add hr (by first | decide | omega) rfl (pa_cons (pv 0) (pa_cons (pv 1) (pa_cons (pv 2) (pa_cons (pv 3) pa_nil))))))) pss_nil)
      (pss_cons (ps_if (PW.pt (pw_and (pt_cmpR op_eq (pe_ix ix_seq (pv 0) pe_int (fun _ _ => rfl)) pe_str (nomark _)) (pw_and1 (pt_cmpR op_eq (pe_callB b_len (by rfl) T.n_len PySem.boot_len (pa_cons (pv 0) pa_nil)) pe_int (nomark _))))) (pss_cons (ps_if (PW.pt (pw_or (pt_not (pt_val (C8.pe_c c_is_number hr (by first | decide | omega) rfl (pa_cons (pe_ix ix_seq (pv 0) pe_int (fun _ _ => rfl)) (pa_cons (pv 2) pa_nil))))) (pw_or1 (pt_not (pt_val (C8.pe_c c_is_number hr (by first | decide | omega) rfl (pa_cons (pe_ix ix_seq (pv 0) pe_int (fun _ _ => rfl)) (pa_cons (pv 1) pa_nil)))))))) (pss_one (ps_ret pe_bl)) pss_nil)
      (pss_one (ps_ret (pe_cmpR op_notN (C8.pe_c c_inverse_of hr (by first | decide | omega) rfl (pa_cons (pe_ix ix_seq (pv 0) pe_int (fun _ _ => rfl)) (pa_cons (pv 1) pa_nil))) pe_non (nomark _))))) pss_nil)
      (pss_cons (ps_if (PW.pt (pw_and (pt_cmpR op_eq (pe_ix ix_seq (pv 0) pe_int (fun _ _ => rfl)) pe_str (nomark _)) (pw_and1 (pt_cmpR op_eq (pe_callB b_len (by rfl) T.n_len PySem.boot_len (pa_cons (pv 0) pa_nil)) pe_int (nomark _))))) (pss_cons (ps_if (PW.pt (pw_or (pt_not (pt_val (C8.pe_c c_is_number hr (by first | decide | omega) rfl (pa_cons (pe_ix ix_seq (pv 0) pe_int (fun _ _ => rfl)) (pa_cons (pv 2) pa_nil))))) (pw_or1 (pt_not (pt_val (C8.pe_c c_is_number hr (by first | decide | omega) rfl (pa_cons (pe_ix ix_seq (pv 0) pe_int (fun _ _ => rfl)) (pa_cons (pv 2) pa_nil)))))))) (pss_one (ps_ret pe_bl)) pss_nil)
      (pss_one (ps_ret (pe_cmpR op_ne (pe_ix ix_seq (pv 0) pe_int (fun _ _ => rfl)) (pe_ix ix_seq (pv 0) pe_int (fun _ _ => rfl)) (nomark _))))) pss_nil)
      (pss_one (ps_ret (pe_and (pe_cmpR op_eq (pe_ix ix_seq (pv 0) pe_int (fun _ _ => rfl)) pe_str (nomark _)) (pe_and (pe_cmpR op_eq (pe_callB b_len (by rfl) T.n_len PySem.boot_len (pa_cons (pv 0) pa_nil)) pe_int (nomark _)) (pe_one (C8.pe_c c_is_look hr (by first | decide | omega) rfl (pa_cons (pv 0) (pa_cons (pv 1) (pa_cons (pv 2) pa_nil))))))))))))), ?_⟩
    obtain ⟨s, m, c, n, v, rfl, hR, ok, m2, m9, k⟩ := h
    have hR0 := hR
    cases s with
    | add t co fs =>
      obtain ⟨a, _, rfl, ha, w1, _, rfl, rfl, w2, _, rfl, rfl, w3, _, rfl, rfl, w4, _, rfl, hF, rfl⟩ := hR
      walk_at "rd"
      exact ⟨t, co, fs, m, c, n, _, rfl, hR0, ok, k H (Same.refl H)⟩
    | scale t co =>
      obtain ⟨a, _, rfl, ha, w1, _, rfl, rfl, w2, _, rfl, rfl, w3, _, rfl, rfl, rfl⟩ := hR
      obtain ⟨⟨t0, t1⟩, ⟨k0, k1⟩, hg⟩ := ok
      walk_at "rd"
      refine ⟨co, m, rfl, m2, m9, fun _ H' s' => ?_, fun z => absurd hg z⟩
      walk_at "rd"
      exact ⟨rfl, k H' s'⟩
    | swap a b =>
      obtain ⟨p, _, rfl, ha, w1, _, rfl, rfl, w2, _, rfl, rfl, w3, _, rfl, rfl, rfl⟩ := hR
      obtain ⟨⟨t0, t1⟩, ⟨k0, k1⟩, hg⟩ := ok
      walk_at "rd"
      rw [decide_eq_false hg]
      exact k H (Same.refl H)
    | table t sg tb a b =>
      obtain ⟨p, _, rfl, hp, w1, _, rfl, rfl, w2, _, rfl, rfl, w3, _, rfl, rfl, w4, _, rfl, hT, w5, _, rfl, rfl, w6, _, rfl, rfl, rfl⟩ := hR
      walk_at "rd"
      exact ⟨t, sg, tb, a, b, m, c, _, rfl, hR0, ok, k⟩
end
end Bf
namespace Bf
open PySem L2
abbrev s_inverse_step : Stmt := topS 33
theorem bi_inverse_step : ∀ (kV doc pm : Value) (an : Option Addr) (cdv ct : Value) (us : List Value), us.length = 2 → bindArgs (PySem.W.fnOf "inverse_step" "inverse_step" (defArgs s_inverse_step) (defBody s_inverse_step) (defScope s_inverse_step) .none kV doc pm an cdv ct) ⟨us, []⟩ = pure ((["step", "modulus"] : List Str).zip us) := fun _ _ _ _ _ _ us hl => match us, hl with | [_, _], _ => rfl
theorem sc_inverse_step : FnScope ["step", "modulus"] ["step", "modulus"] (defScope s_inverse_step) := C8.fnScope_by (by decide +kernel)
abbrev s_perform : Stmt := topS 34
theorem bi_perform : ∀ (kV doc pm : Value) (an : Option Addr) (cdv ct : Value) (us : List Value), us.length = 4 → bindArgs (PySem.W.fnOf "perform" "perform" (defArgs s_perform) (defBody s_perform) (defScope s_perform) .none kV doc pm an cdv ct) ⟨us, []⟩ = pure ((["step", "memory", "given", "modulus"] : List Str).zip us) := fun _ _ _ _ _ _ us hl => match us, hl with | [_, _, _, _], _ => rfl
theorem sc_perform : FnScope ["step", "memory", "given", "modulus", "total", "kind", "index", "kept", "value"] ["step", "memory", "given", "modulus"] (defScope s_perform) := C8.fnScope_by (by decide +kernel)
abbrev s_check_steps : Stmt := topS 35
theorem bi_check_steps : ∀ (kV doc pm : Value) (an : Option Addr) (cdv ct : Value) (us : List Value), us.length = 5 → bindArgs (PySem.W.fnOf "check_steps" "check_steps" (defArgs s_check_steps) (defBody s_check_steps) (defScope s_check_steps) .none kV doc pm an cdv ct) ⟨us, []⟩ = pure ((["steps", "modulus", "cells", "inputs", "most"] : List Str).zip us) := fun _ _ _ _ _ _ us hl => match us, hl with | [_, _, _, _, _], _ => rfl
theorem sc_check_steps : FnScope ["steps", "modulus", "cells", "inputs", "most", "looks", "step"] ["steps", "modulus", "cells", "inputs", "most"] (defScope s_check_steps) := C8.fnScope_by (by decide +kernel)
abbrev s_check_numbers : Stmt := topS 41
theorem bi_check_numbers : ∀ (kV doc pm : Value) (an : Option Addr) (cdv ct : Value) (us : List Value), us.length = 3 → bindArgs (PySem.W.fnOf "check_numbers" "check_numbers" (defArgs s_check_numbers) (defBody s_check_numbers) (defScope s_check_numbers) .none kV doc pm an cdv ct) ⟨us, []⟩ = pure ((["values", "many", "modulus"] : List Str).zip us) := fun _ _ _ _ _ _ us hl => match us, hl with | [_, _, _], _ => rfl
theorem sc_check_numbers : FnScope ["values", "many", "modulus", "value"] ["values", "many", "modulus"] (defScope s_check_numbers) := C8.fnScope_by (by decide +kernel)
def spInvStep : Sp := fun vs H Q _ => ∃ (s : Step) (m c n : Int) (v : V), vs = [v, .int m] ∧ Rp H s.d v ∧ s.ok m c n ∧ 2 ≤ m ∧ m ≤ 1000000000 ∧ ∀ v' H', Same H H' → Rp H' (s.inv m).d v' → Q v' H'
def spPerf : Sp := fun vs H Q _ => ∃ (s : Step) (m c n : Int) (v : V) (l g : Addr) (mem given : List Int), vs = [v, .ref l, .ref g, .int m] ∧ Rp H s.d v ∧ s.ok m c n ∧ 2 ≤ m ∧ m ≤ 1000000000 ∧ H l = some (.lst (mem.map V.int)) ∧ H g = some (.lst (given.map V.int)) ∧ Mem m c mem ∧ Mem m n given ∧
  ∀ H', Kp l H H' → H' l = some (.lst ((perf m given mem s).map V.int)) → Q .non H'
def spCheck : Sp := fun vs H Q _ => ∃ (ss : List Step) (m c n most : Int) (p : Addr) (ws : List V), vs = [.ref p, .int m, .int c, .int n, .int most] ∧ H p = some (.lst ws) ∧ RpL H (ss.map Step.d) ws ∧ (∀ s ∈ ss, s.ok m c n) ∧ 2 ≤ m ∧ m ≤ 1000000000 ∧ (ss.length : Int) ≤ most ∧ ((∃ s ∈ ss, s.isTable = true) → Pr m) ∧ ∀ H', Same H H' → Q .non H'
def spNums : Sp := fun vs H Q _ => ∃ (xs : List Int) (m c : Int) (p : Addr), vs = [.ref p, .int c, .int m] ∧ H p = some (.lst (xs.map V.int)) ∧ Mem m c xs ∧ Q .non H
theorem gt_V {l : List Int} {i : Int} (h0 : 0 ≤ i) (h1 : i < l.length) : atI (l.map V.int) i = some (.int (gt l i)) := at_nat h0 (by rw [List.getElem?_map, gt_at h0 h1]; rfl)
theorem set_V {l : List Int} {i : Nat} {x : Int} : (l.map V.int).set i (.int x) = (l.set i x).map V.int := by rw [List.map_set]
theorem tot_bd {m co : Int} {mem given : List Int} (hm : 0 < m) (h0 : 0 ≤ co) (h1 : co < m) : ∀ {fs : List Fac}, 0 ≤ tot m mem given co fs ∧ tot m mem given co fs < m := by
  intro fs
  unfold tot
  induction fs generalizing co with
  | nil => exact ⟨h0, h1⟩
  | cons f r ih => exact ih (Int.emod_nonneg _ (by omega)) (Int.emod_lt_of_pos _ hm)
theorem kind_at {m c n : Int} {s : Step} {H : Hp} {v : V} (h : Rp H s.d v) : ∃ (a : Addr) (xs : List V) (z : Str), v = .ref a ∧ H a = some (.tup xs) ∧ xs[0]? = some (.str z) ∧ decide (z = ("table" : Str)) = s.isTable := by
  cases s with
  | add t k fs =>
    obtain ⟨a, _, rfl, ha, w1, _, rfl, rfl, _⟩ := h
    exact ⟨a, _, _, rfl, ha, rfl, show decide (("add" : Str) = ("table" : Str)) = false by decide +kernel⟩
  | scale t k =>
    obtain ⟨a, _, rfl, ha, w1, _, rfl, rfl, _⟩ := h
    exact ⟨a, _, _, rfl, ha, rfl, show decide (("scale" : Str) = ("table" : Str)) = false by decide +kernel⟩
  | swap t k =>
    obtain ⟨a, _, rfl, ha, w1, _, rfl, rfl, _⟩ := h
    exact ⟨a, _, _, rfl, ha, rfl, show decide (("swap" : Str) = ("table" : Str)) = false by decide +kernel⟩
  | table t k tb b c =>
    obtain ⟨a, _, rfl, ha, w1, _, rfl, rfl, _⟩ := h
    exact ⟨a, _, _, rfl, ha, rfl, show decide (("table" : Str) = ("table" : Str)) = true by decide +kernel⟩
section
variable {P : Program} {w : World} {K : PySem.W.Frag} {mg : Str → Option Value} {base : Heap}
theorem cal_inverse_step (T : Gs mg) (c_inverse_of : C8.Cal P w K mg base 1 "inverse_of" spInv []) (F : DefAt K mg "inverse_step" s_inverse_step) : C8.Cal P w K mg base 2 "inverse_step" spInvStep [] := by
  refine cal_of F sc_inverse_step bi_inverse_step (fun vs H Q E h => ?_) (fun f cdv A outer s H vs Q E hr h => ?_)
  · obtain ⟨s, m, c, n, v, rfl, _⟩ := h
    rfl
  · refine ⟨_, (pss_cons (ps_if (pt_cmpR op_eq (pe_ix ix_seq (pv 0) pe_int (fun _ _ => rfl)) pe_str (nomark _)) (pss_one (ps_ret (pe_tup (pa_cons pe_str (pa_cons (pe_ix ix_seq (pv 0) pe_int (fun _ _ => rfl)) (pa_cons (pe_op op_mod (pe_un un_neg (pe_ix ix_seq (pv 0) pe_int (fun _ _ => rfl))) (pv 1)) (pa_cons (pe_ix ix_seq (pv 0) pe_int (fun _ _ => rfl)) pa_nil))))))) pss_nil)
      (pss_cons (ps_if (pt_cmpR op_eq (pe_ix ix_seq (pv 0) pe_int (fun _ _ => rfl)) pe_str (nomark _)) (pss_one (ps_ret (pe_tup (pa_cons pe_str (pa_cons (pe_ix ix_seq (pv 0) pe_int (fun _ _ => rfl)) (pa_cons (C8.pe_c c_inverse_of hr (by first | decide | omega) rfl (pa_cons (pe_ix ix_seq (pv 0) pe_int (fun _ _ => rfl)) (pa_cons (pv 1) pa_nil))) pa_nil)))))) pss_nil)
      (pss_cons (ps_if (pt_cmpR op_eq (pe_ix ix_seq (pv 0) pe_int (fun _ _ => rfl)) pe_str (nomark _)) (pss_one (ps_ret (pe_op op_catT (pe_tup (pa_cons pe_str (pa_cons (pe_ix ix_seq (pv 0) pe_int (fun _ _ => rfl)) (pa_cons (pe_op op_sub (pv 1) (pe_ix ix_seq (pv 0) pe_int (fun _ _ => rfl))) pa_nil)))) (pe_slice sl_tup (pv 0) (po_some pe_int) po_none)))) pss_nil)
      (pss_one (ps_ret (pv 0)))))), ?_⟩
    obtain ⟨s, m, c, n, v, rfl, hR, ok, m2, m9, k⟩ := h
    have hR0 := hR
    cases s with
    | add t co fs =>
      obtain ⟨a, _, rfl, ha, w1, _, rfl, rfl, w2, _, rfl, rfl, w3, _, rfl, rfl, w4, _, rfl, hF, rfl⟩ := hR
      walk_at "rd"
      refine n_tup (Nat.le_of_ble_eq_true rfl) fun q H1 nq s1 hq => ?_
      exact k _ _ s1 ⟨q, _, rfl, hq, _, _, rfl, rfl, _, _, rfl, rfl, _, _, rfl, rfl, _, _, rfl, hF.same s1, rfl⟩
    | scale t co =>
      obtain ⟨a, _, rfl, ha, w1, _, rfl, rfl, w2, _, rfl, rfl, w3, _, rfl, rfl, rfl⟩ := hR
      obtain ⟨⟨t0, t1⟩, ⟨k0, k1⟩, hg⟩ := ok
      walk_at "rd"
      refine ⟨co, m, rfl, m2, m9, fun _ H' s' => ?_, fun z => absurd hg z⟩
      walk_at "rd"
      refine n_tup (Nat.le_of_ble_eq_true rfl) fun q H1 nq s1 hq => ?_
      exact k _ _ (s'.trans s1) ⟨q, _, rfl, hq, _, _, rfl, rfl, _, _, rfl, rfl, _, _, rfl, rfl, rfl⟩
    | swap a b =>
      obtain ⟨p, _, rfl, ha, w1, _, rfl, rfl, w2, _, rfl, rfl, w3, _, rfl, rfl, rfl⟩ := hR
      walk_at "rd"
      exact k _ _ (Same.refl H) hR0
    | table t sg tb a b =>
      obtain ⟨p, _, rfl, hp, w1, _, rfl, rfl, w2, _, rfl, rfl, w3, _, rfl, rfl, w4, _, rfl, hT, w5, _, rfl, rfl, w6, _, rfl, rfl, rfl⟩ := hR
      walk_at "rd"
      refine n_tup (Nat.le_of_ble_eq_true rfl) fun q H1 nq s1 hq => ?_
      have hp1 := s1 _ _ hp
      walk_at "rd"
      refine n_slT hp1 (fun z => absurd (show (3 : Nat) = 0 from z.1) (by decide)) (cut_from (by decide)) fun q2 H2 nq2 s2 hq2 => ?_
      refine n_catT (s2 _ _ hq) hq2 (by simp) (by simp) (Nat.le_of_ble_eq_true rfl) fun q3 H3 nq3 s3 hq3 => ?_
      exact k _ _ (s1.trans (s2.trans s3)) ⟨q3, _, rfl, hq3, _, _, rfl, rfl, _, _, rfl, rfl, _, _, rfl, rfl, _, _, rfl, hT.same (s1.trans (s2.trans s3)), _, _, rfl, rfl, _, _, rfl, rfl, rfl⟩
theorem cal_check_numbers (T : Gs mg) (c_is_number : C8.Cal P w K mg base 2 "is_number" spIsNum []) (F : DefAt K mg "check_numbers" s_check_numbers) : C8.Cal P w K mg base 3 "check_numbers" spNums [] := by
  refine cal_of F sc_check_numbers bi_check_numbers (fun vs H Q E h => ?_) (fun f cdv A outer s H vs Q E hr h => ?_)
  · obtain ⟨s, m, c, n, rfl, _⟩ := h
    rfl
  · refine ⟨_, (pss_cons (ps_if (PW.pt (pw_or (pt_not (pt_val (pe_callB call_isi (by rfl) T.n_isinstance (by decide +kernel) (pa_cons (pv 0) (pa_cons (pe_bltn (v := .ty "list") rfl T.n_list (by decide +kernel) rfl) pa_nil))))) (pw_or1 (pt_cmpR op_ne (pe_callB b_len (by rfl) T.n_len PySem.boot_len (pa_cons (pv 0) pa_nil)) (pv 1) (nomark _))))) (pss_one (ps_never)) pss_nil)
      (pss_one (ps_for PassesOwn.never rfl (pi_list (pv 0)) (pg_name (i := 3) sc_check_numbers.nd rfl (by first | exact Or.inl rfl | exact Or.inr rfl)) (pss_one (ps_if (pt_not (pt_val (C8.pe_c c_is_number hr (by first | decide | omega) rfl (pa_cons (pv 3) (pa_cons (pv 2) pa_nil))))) (pss_one (ps_never)) pss_nil))))), ?_⟩
    obtain ⟨xs, m, c, p, rfl, hp, hm, k⟩ := h
    have hl : (((xs.map V.int).length : Nat) : Int) = c := by rw [List.length_map]; exact hm.1
    walk_at "rd"
    refine n_forL (fun i σ H' => ∃ u1 : Option V, σ = [some (.ref p), some (.int c), some (.int m), u1] ∧ H' = H) hp ⟨_, rfl, rfl⟩ (fun i σ H' _ h => by obtain ⟨_, _, rfl⟩ := h; exact SqL.of hp) ?_ ?_
    · rintro i x σ H' hx ⟨u1, rfl, rfl⟩
      obtain ⟨en, hen, rfl⟩ := map_at hx
      have hb := hm.2 _ (List.mem_of_getElem? hen)
      walk_at "rd"
      exact ⟨_, rfl, rfl⟩
    · rintro σ H' ⟨u1, rfl, rfl⟩
      walk_at "rd"
      exact k
theorem cal_check_steps (T : Gs mg) (c_is_prime : C8.Cal P w K mg base 1 "is_prime" spPrime []) (c_is_step : C8.Cal P w K mg base 5 "is_step" spStep []) (F : DefAt K mg "check_steps" s_check_steps) : C8.Cal P w K mg base 6 "check_steps" spCheck [] := by
  refine cal_of F sc_check_steps bi_check_steps (fun vs H Q E h => ?_) (fun f cdv A outer s H vs Q E hr h => ?_)
  · obtain ⟨ss, m, c, n, most, p, ws, rfl, _⟩ := h
    rfl
  · refine ⟨_, (pss_cons (ps_if (PW.pt (pw_or (pt_not (pt_val (pe_callB call_isi (by rfl) T.n_isinstance (by decide +kernel) (pa_cons (pv 0) (pa_cons (pe_bltn (v := .ty "list") rfl T.n_list (by decide +kernel) rfl) pa_nil))))) (pw_or1 (pt_cmpR op_gt (pe_callB b_len (by rfl) T.n_len PySem.boot_len (pa_cons (pv 0) pa_nil)) (pv 4) (nomark _))))) (pss_one (ps_never)) pss_nil)
      (pss_cons (ps_set (i := 5) sc_check_steps.nd rfl (by first | exact Or.inl rfl | exact Or.inr rfl) pe_bl)
      (pss_cons (ps_for PassesOwn.never rfl (pi_list (pv 0)) (pg_name (i := 6) sc_check_steps.nd rfl (by first | exact Or.inl rfl | exact Or.inr rfl)) (pss_cons (ps_if (pt_not (pt_val (C8.pe_c c_is_step hr (by first | decide | omega) rfl (pa_cons (pv 6) (pa_cons (pv 1) (pa_cons (pv 2) (pa_cons (pv 3) pa_nil))))))) (pss_one (ps_never)) pss_nil)
      (pss_one (ps_set (i := 5) sc_check_steps.nd rfl (by first | exact Or.inl rfl | exact Or.inr rfl) (pe_or (pv 5) (pe_one (pe_cmpR op_eq (pe_ix ix_seq (pv 6) pe_int (fun _ _ => rfl)) pe_str (nomark _))))))))
      (pss_one (ps_if (PW.pt (pw_and (pt_val (pv 5)) (pw_and1 (pt_not (pt_val (C8.pe_c c_is_prime hr (by first | decide | omega) rfl (pa_cons (pv 1) pa_nil))))))) (pss_one (ps_never)) pss_nil))))), ?_⟩
    obtain ⟨ss, m, c, n, most, p, ws, rfl, hp, hl, ok, m2, m9, hmost, hpr, k⟩ := h
    have hlen := hl.len
    rw [List.length_map] at hlen
    walk_at "rd"
    refine n_forL (fun i σ H' => ∃ (u1 : Option V), σ = [some (.ref p), some (.int m), some (.int c), some (.int n), some (.int most), some (.bl ((ss.take i).any Step.isTable)), u1] ∧ Same H H') hp ⟨_, rfl, Same.refl H⟩ (fun i σ H' _ h => by obtain ⟨_, _, s1⟩ := h; exact SqL.of (s1 _ _ hp)) ?_ ?_
    · rintro i x σ H' hx ⟨u1, rfl, s1⟩
      obtain ⟨df, hdf, hfv⟩ := hl.at hx
      obtain ⟨st, hst, rfl⟩ := Option.map_eq_some_iff.mp (by rwa [List.getElem?_map] at hdf)
      walk_at "rd"
      refine ⟨st, m, c, n, x, rfl, hfv.same s1, ok _ (List.mem_of_getElem? hst), m2, m9, fun H2 s2 => ?_⟩
      walk_at "rd"
      obtain ⟨a, xs, z, rfl, ha, h0, hz⟩ := kind_at (m := m) (c := c) (n := n) (hfv.same (s1.trans s2))
      have e : (ss.take (i + 1)).any Step.isTable = ((ss.take i).any Step.isTable || st.isTable) := by
        rw [take_snoc hst, List.any_append]
        simp
      by_cases hb : (ss.take i).any Step.isTable = true
      · rw [hb]
        walk_at "rd"
        exact ⟨_, by rw [e, hb]; rfl, s1.trans s2⟩
      · rw [Bool.not_eq_true] at hb
        rw [hb]
        walk_at "rd"
        refine r_ixT ha (at_nat (by decide) h0) ?_
        walk_at "rd"
        refine ⟨_, by rw [e, hb, hz]; rfl, s1.trans s2⟩
    · rintro σ H' ⟨u1, rfl, s1⟩
      rw [show ws.length = ss.length from hlen, List.take_length]
      by_cases hb : ss.any Step.isTable = true
      · rw [hb]
        walk_at "rd"
        refine ⟨m, rfl, m2, by omega, fun _ => ?_, fun z => absurd (hpr (by
          obtain ⟨s, h1, h2⟩ := List.any_eq_true.mp hb
          exact ⟨s, h1, h2⟩)) z⟩
        walk_at "rd"
        exact k _ s1
      · rw [Bool.not_eq_true] at hb
        rw [hb]
        walk_at "rd"
        exact k _ s1
theorem cal_perform (T : Gs mg) (c_interpolate : C8.Cal P w K mg base 3 "interpolate" spItp []) (F : DefAt K mg "perform" s_perform) : C8.Cal P w K mg base 4 "perform" spPerf [] := by
  refine cal_of F sc_perform bi_perform (fun vs H Q E h => ?_) (fun f cdv A outer s H vs Q E hr h => ?_)
  · obtain ⟨s, m, c, n, v, l, g, mem, given, rfl, _⟩ := h
    rfl
  · refine ⟨_, (pss_one (ps_if (pt_cmpR op_eq (pe_ix ix_seq (pv 0) pe_int (fun _ _ => rfl)) pe_str (nomark _)) (pss_cons (ps_set (i := 4) sc_perform.nd rfl (by first | exact Or.inl rfl | exact Or.inr rfl) (pe_ix ix_seq (pv 0) pe_int (fun _ _ => rfl)))
      (pss_cons (ps_for PassesOwn.never rfl (pi_tup (pe_ix ix_seq (pv 0) pe_int (fun _ _ => rfl))) (pg_tup rfl (pgs_cons (pg_name (i := 5) sc_perform.nd rfl (by first | exact Or.inl rfl | exact Or.inr rfl)) (pgs_cons (pg_name (i := 6) sc_perform.nd rfl (by first | exact Or.inl rfl | exact Or.inr rfl)) pgs_nil))) (pss_one (ps_set (i := 4) sc_perform.nd rfl (by first | exact Or.inl rfl | exact Or.inr rfl) (pe_op op_mod (pe_op op_mul (pv 4) (pe_ifExp (pt_cmpR op_eq (pv 5) pe_str (nomark _)) (pe_ix ix_seq (pv 1) (pv 6) (fun _ _ => rfl)) (pe_ix ix_seq (pv 2) (pv 6) (fun _ _ => rfl)))) (pv 3)))))
      (pss_one (ps_asg (pe_op op_mod (pe_op op_add (pe_ix ix_seq (pv 1) (pe_ix ix_seq (pv 0) pe_int (fun _ _ => rfl)) (fun _ _ => rfl)) (pv 4)) (pv 3)) (pg_sub (pv 1) (pe_ix ix_seq (pv 0) pe_int (fun _ _ => rfl)) set_list))))) (pss_one (ps_if (pt_cmpR op_eq (pe_ix ix_seq (pv 0) pe_int (fun _ _ => rfl)) pe_str (nomark _)) (pss_one (ps_asg (pe_op op_mod (pe_op op_mul (pe_ix ix_seq (pv 1) (pe_ix ix_seq (pv 0) pe_int (fun _ _ => rfl)) (fun _ _ => rfl)) (pe_ix ix_seq (pv 0) pe_int (fun _ _ => rfl))) (pv 3)) (pg_sub (pv 1) (pe_ix ix_seq (pv 0) pe_int (fun _ _ => rfl)) set_list))) (pss_one (ps_if (pt_cmpR op_eq (pe_ix ix_seq (pv 0) pe_int (fun _ _ => rfl)) pe_str (nomark _)) (pss_cons (ps_set (i := 7) sc_perform.nd rfl (by first | exact Or.inl rfl | exact Or.inr rfl) (pe_ix ix_seq (pv 1) (pe_ix ix_seq (pv 0) pe_int (fun _ _ => rfl)) (fun _ _ => rfl)))
      (pss_cons (ps_asg (pe_ix ix_seq (pv 1) (pe_ix ix_seq (pv 0) pe_int (fun _ _ => rfl)) (fun _ _ => rfl)) (pg_sub (pv 1) (pe_ix ix_seq (pv 0) pe_int (fun _ _ => rfl)) set_list))
      (pss_one (ps_asg (pv 7) (pg_sub (pv 1) (pe_ix ix_seq (pv 0) pe_int (fun _ _ => rfl)) set_list))))) (pss_cons (ps_set (i := 8) sc_perform.nd rfl (by first | exact Or.inl rfl | exact Or.inr rfl) (C8.pe_c c_interpolate hr (by first | decide | omega) rfl (pa_cons (pe_ix ix_seq (pv 0) pe_int (fun _ _ => rfl)) (pa_cons (pv 3) (pa_cons (pe_ix ix_seq (pv 1) (pe_ix ix_seq (pv 0) pe_int (fun _ _ => rfl)) (fun _ _ => rfl)) (pa_cons (pe_ix ix_seq (pv 1) (pe_ix ix_seq (pv 0) pe_int (fun _ _ => rfl)) (fun _ _ => rfl)) pa_nil))))))
      (pss_one (ps_asg (pe_op op_mod (pe_op op_add (pe_ix ix_seq (pv 1) (pe_ix ix_seq (pv 0) pe_int (fun _ _ => rfl)) (fun _ _ => rfl)) (pe_op op_mul (pe_ix ix_seq (pv 0) pe_int (fun _ _ => rfl)) (pv 8))) (pv 3)) (pg_sub (pv 1) (pe_ix ix_seq (pv 0) pe_int (fun _ _ => rfl)) set_list)))))))))), ?_⟩
    obtain ⟨s, m, c, n, v, l, g, mem, given, rfl, hR, ok, m2, m9, hl, hg, hM, hG, k⟩ := h
    have hR0 := hR
    have hM1 := hM.1
    have hG1 := hG.1
    have hML : ∀ {i : Int}, i < c → i < mem.length := fun h => by omega
    have hGL : ∀ {i : Int}, i < n → i < given.length := fun h => by omega
    cases s with
    | add t co fs =>
      obtain ⟨a, _, rfl, ha, w1, _, rfl, rfl, w2, _, rfl, rfl, w3, _, rfl, rfl, w4, _, rfl, ⟨b, vs, rfl, hb, hF⟩, rfl⟩ := hR
      obtain ⟨⟨t0, t1⟩, ⟨k0, k1⟩, hf3, hf⟩ := ok
      have hlen := hF.len
      rw [List.length_map] at hlen
      walk_at "rd"
      refine n_forT (fun i σ H' => ∃ u1 u2 u3 u4 : Option V, σ = [some (.ref a), some (.ref l), some (.ref g), some (.int m), some (.int (tot m mem given co (fs.take i))), u1, u2, u3, u4] ∧ H' = H) hb ⟨_, _, _, _, rfl, rfl⟩ (fun i σ H' _ h => by obtain ⟨_, _, _, _, _, rfl⟩ := h; exact hb) ?_ ?_
      · rintro i x σ H' hx ⟨u1, u2, u3, u4, rfl, rfl⟩
        obtain ⟨df, hdf, hfv⟩ := hF.at hx
        obtain ⟨fc, hfc, rfl⟩ := Option.map_eq_some_iff.mp (by rwa [List.getElem?_map] at hdf)
        have hok := hf _ (List.mem_of_getElem? hfc)
        have e : tot m mem given co (fs.take (i + 1)) = tot m mem given co (fs.take i) * facV mem given fc % m := foldl_take _ _ hfc
        obtain ⟨tb0, tb1⟩ := tot_bd (m := m) (co := co) (mem := mem) (given := given) (by omega) k0 k1 (fs := fs.take i)
        cases fc with
        | cell j =>
          obtain ⟨d, _, rfl, hd, w1, _, rfl, rfl, w2, _, rfl, rfl, rfl⟩ := hfv
          obtain ⟨⟨j0, j1⟩, j2⟩ := hok
          walk_at "rd"
          refine r_ixL hl (gt_V j0 (hML j1)) ?_
          walk_at "rd"
          exact ⟨_, _, _, _, by rw [e]; rfl, rfl⟩
        | inp j =>
          obtain ⟨d, _, rfl, hd, w1, _, rfl, rfl, w2, _, rfl, rfl, rfl⟩ := hfv
          obtain ⟨j0, j1⟩ := hok
          walk_at "rd"
          refine r_ixL hg (gt_V j0 (hGL j1)) ?_
          walk_at "rd"
          exact ⟨_, _, _, _, by rw [e]; rfl, rfl⟩
      · rintro σ H' ⟨u1, u2, u3, u4, rfl, rfl⟩
        rw [show vs.length = fs.length from hlen, List.take_length]
        walk_at "rd"
        refine r_ixL hl (gt_V t0 (hML t1)) ?_
        walk_at "rd"
        refine n_setL hl t0 (by rw [List.length_map]; exact hML t1) fun H2 k2 h2 => ?_
        walk_at "rd"
        exact k _ k2 (by rw [h2, set_V, perf_add])
    | scale t co =>
      obtain ⟨a, _, rfl, ha, w1, _, rfl, rfl, w2, _, rfl, rfl, w3, _, rfl, rfl, rfl⟩ := hR
      obtain ⟨⟨t0, t1⟩, ⟨k0, k1⟩, hgc⟩ := ok
      obtain ⟨gb0, gb1⟩ := gt_bd hM t0 t1
      walk_at "rd"
      refine r_ixL hl (gt_V t0 (hML t1)) ?_
      walk_at "rd"
      refine n_setL hl t0 (by rw [List.length_map]; exact hML t1) fun H2 k2 h2 => ?_
      walk_at "rd"
      exact k _ k2 (by rw [h2, set_V, perf_scale])
    | swap a b =>
      obtain ⟨p, _, rfl, ha, w1, _, rfl, rfl, w2, _, rfl, rfl, w3, _, rfl, rfl, rfl⟩ := hR
      obtain ⟨⟨a0, a1⟩, ⟨b0, b1⟩, hab⟩ := ok
      have hpl : p ≠ l := ne_of ha hl (by intro z; cases z)
      walk_at "rd"
      refine r_ixL hl (gt_V a0 (hML a1)) ?_
      walk_at "rd"
      refine r_ixL hl (gt_V b0 (hML b1)) ?_
      walk_at "rd"
      refine n_setL hl a0 (by rw [List.length_map]; exact hML a1) fun H2 k2 h2 => ?_
      have ha2 := k2 _ _ hpl ha
      walk_at "rd"
      refine n_setL h2 b0 (by rw [List.length_set, List.length_map]; exact hML b1) fun H3 k3 h3 => ?_
      walk_at "rd"
      exact k _ (k2.trans k3) (by rw [h3, set_V, set_V, perf_swap])
    | table t sg tb a b =>
      obtain ⟨p, _, rfl, hp, w1, _, rfl, rfl, w2, _, rfl, rfl, w3, _, rfl, rfl, w4, _, rfl, hT, w5, _, rfl, rfl, w6, _, rfl, rfl, rfl⟩ := hR
      obtain ⟨t0, t1⟩ := ok.ht
      obtain ⟨a0, a1⟩ := ok.ha
      obtain ⟨b0, b1⟩ := ok.hb
      walk_at "rd"
      refine r_ixL hl (gt_V a0 (hML a1)) ?_
      walk_at "rd"
      refine r_ixL hl (gt_V b0 (hML b1)) ?_
      walk_at "rd"
      refine ⟨tb, w4, m, _, _, rfl, hT, ok.sz, m2, m9, ok.un, ok.tab.sq, fun H1 s1 => ?_⟩
      replace hl := s1 _ _ hl
      replace hp := s1 _ _ hp
      have hsg : 0 ≤ sg ∧ sg < m := by rcases ok.hs with e | e <;> omega
      walk_at "rd"
      refine r_ixL hl (gt_V t0 (hML t1)) ?_
      walk_at "rd"
      refine n_setL hl t0 (by rw [List.length_map]; exact hML t1) fun H2 k2 h2 => ?_
      walk_at "rd"
      exact k _ ((Kp.of s1).trans k2) (by rw [h2, set_V, perf_table])
end
end Bf
namespace Bf
open PySem L2
abbrev s_Program___init__ : Stmt := inClass (topS 42) 0
theorem bi_Program___init__ : ∀ (kV doc pm : Value) (an : Option Addr) (cdv ct : Value) (us : List Value), us.length = 5 → bindArgs (PySem.W.fnOf "__init__" "Program.__init__" (defArgs s_Program___init__) (defBody s_Program___init__) (defScope s_Program___init__) .none kV doc pm an cdv ct) ⟨us, []⟩ = pure ((["self", "modulus", "cells", "inputs", "steps"] : List Str).zip us) := fun _ _ _ _ _ _ us hl => match us, hl with | [_, _, _, _, _], _ => rfl
theorem sc_Program___init__ : FnScope ["self", "modulus", "cells", "inputs", "steps"] ["self", "modulus", "cells", "inputs", "steps"] (defScope s_Program___init__) := C8.fnScope_by (by decide +kernel)
abbrev s_Program___len__ : Stmt := inClass (topS 42) 1
theorem bi_Program___len__ : ∀ (kV doc pm : Value) (an : Option Addr) (cdv ct : Value) (us : List Value), us.length = 1 → bindArgs (PySem.W.fnOf "__len__" "Program.__len__" (defArgs s_Program___len__) (defBody s_Program___len__) (defScope s_Program___len__) .none kV doc pm an cdv ct) ⟨us, []⟩ = pure ((["self"] : List Str).zip us) := fun _ _ _ _ _ _ us hl => match us, hl with | [_], _ => rfl
theorem sc_Program___len__ : FnScope ["self"] ["self"] (defScope s_Program___len__) := C8.fnScope_by (by decide +kernel)
abbrev s_Program___neg__ : Stmt := inClass (topS 42) 3
theorem bi_Program___neg__ : ∀ (kV doc pm : Value) (an : Option Addr) (cdv ct : Value) (us : List Value), us.length = 1 → bindArgs (PySem.W.fnOf "__neg__" "Program.__neg__" (defArgs s_Program___neg__) (defBody s_Program___neg__) (defScope s_Program___neg__) .none kV doc pm an cdv ct) ⟨us, []⟩ = pure ((["self"] : List Str).zip us) := fun _ _ _ _ _ _ us hl => match us, hl with | [_], _ => rfl
theorem sc_Program___neg__ : FnScope ["self", "steps", "step"] ["self"] (defScope s_Program___neg__) := C8.fnScope_by (by decide +kernel)
abbrev s_Program_run : Stmt := inClass (topS 42) 4
theorem bi_Program_run : ∀ (kV doc pm : Value) (an : Option Addr) (cdv ct : Value) (us : List Value), us.length = 3 → bindArgs (PySem.W.fnOf "run" "Program.run" (defArgs s_Program_run) (defBody s_Program_run) (defScope s_Program_run) .none kV doc pm an cdv ct) ⟨us, []⟩ = pure ((["self", "memory", "given"] : List Str).zip us) := fun _ _ _ _ _ _ us hl => match us, hl with | [_, _, _], _ => rfl
theorem sc_Program_run : FnScope ["self", "memory", "given", "cells", "step"] ["self", "memory", "given"] (defScope s_Program_run) := C8.fnScope_by (by decide +kernel)
abbrev s_Program_part : Stmt := inClass (topS 42) 5
theorem bi_Program_part : ∀ (kV doc pm : Value) (an : Option Addr) (cdv ct : Value) (us : List Value), us.length = 2 → bindArgs (PySem.W.fnOf "part" "Program.part" (defArgs s_Program_part) (defBody s_Program_part) (defScope s_Program_part) .none kV doc pm an cdv ct) ⟨us, []⟩ = pure ((["self", "n"] : List Str).zip us) := fun _ _ _ _ _ _ us hl => match us, hl with | [_, _], _ => rfl
theorem sc_Program_part : FnScope ["self", "n"] ["self", "n"] (defScope s_Program_part) := C8.fnScope_by (by decide +kernel)
abbrev s_Program_called_back : Stmt := inClass (topS 42) 6
theorem bi_Program_called_back : ∀ (kV doc pm : Value) (an : Option Addr) (cdv ct : Value) (us : List Value), us.length = 2 → bindArgs (PySem.W.fnOf "called_back" "Program.called_back" (defArgs s_Program_called_back) (defBody s_Program_called_back) (defScope s_Program_called_back) .none kV doc pm an cdv ct) ⟨us, []⟩ = pure ((["self", "n"] : List Str).zip us) := fun _ _ _ _ _ _ us hl => match us, hl with | [_, _], _ => rfl
theorem sc_Program_called_back : FnScope ["self", "n"] ["self", "n"] (defScope s_Program_called_back) := C8.fnScope_by (by decide +kernel)
/-- the program at a: its fields, its steps in a list of its own -/
def Prg (C : Addr) (H : Hp) (a : Addr) (m c n : Int) (ss : List Step) : Prop := ∃ dx q vs, H a = some (.ins C dx [("modulus", .int m), ("cells", .int c), ("inputs", .int n), ("steps", .ref q)]) ∧ H q = some (.lst vs) ∧ RpL H (ss.map Step.d) vs
theorem Prg.same {C : Addr} {H H' : Hp} {a : Addr} {m c n : Int} {ss : List Step} (h : Prg C H a m c n ss) (s : Same H H') : Prg C H' a m c n ss := by
  obtain ⟨dx, q, vs, h1, h2, h3⟩ := h
  exact ⟨dx, q, vs, s _ _ h1, s _ _ h2, h3.same s⟩
theorem Prg.kp {C : Addr} {H H' : Hp} {a d : Addr} {xs : List V} {m c n : Int} {ss : List Step} (h : Prg C H a m c n ss) (hd : H d = some (.lst xs)) (k : Kp d H H') (hq : ∀ q dx, H a = some (.ins C dx [("modulus", .int m), ("cells", .int c), ("inputs", .int n), ("steps", .ref q)]) → q ≠ d) : Prg C H' a m c n ss := by
  obtain ⟨dx, q, vs, h1, h2, h3⟩ := h
  exact ⟨dx, q, vs, k _ _ (ne_of h1 hd (by intro z; cases z)) h1, k _ _ (hq q dx h1) h2, h3.tk (TK.kp hd k) (steps_flat ss)⟩
structure PgC (K : PySem.W.Frag) (C : Addr) : Prop where
  cls : Cls K C
  mo : NoAttr K C "modulus"
  ce : NoAttr K C "cells"
  inp : NoAttr K C "inputs"
  st : NoAttr K C "steps"
/-- a method of the class at C, of no default -/
structure MetAt (K : PySem.W.Frag) (C : Addr) (m qual : Str) (st : Stmt) : Prop where
  ex : ∃ (f : Addr) (fd : FuncData), FunD K m qual (defArgs st) (defBody st) (defScope st) [] [] f fd ∧ Meth K C m f
structure MakAt (K : PySem.W.Frag) (mg : Str → Option Value) (x : Str) (C : Addr) (qual : Str) (st : Stmt) : Prop where
  ex : ∃ (f : Addr) (fd : FuncData), FunD K "__init__" qual (defArgs st) (defBody st) (defScope st) [] [] f fd ∧ Mk K C f ∧ mg x = some (.ref C)
def spInit (C : Addr) : Sp := fun vs H Q _ => ∃ (x p : Addr) (dx : Addr) (m c n : Int) (ss : List Step) (ws : List V), vs = [.ref x, .int m, .int c, .int n, .ref p] ∧ H x = some (.ins C dx []) ∧ H p = some (.lst ws) ∧ RpL H (ss.map Step.d) ws ∧ Vp m c n ss ∧
  ∀ H', Kp x H H' → Prg C H' x m c n ss → Q .non H'
def spLen (C : Addr) : Sp := fun vs H Q _ => ∃ (x : Addr) (m c n : Int) (ss : List Step), vs = [.ref x] ∧ Prg C H x m c n ss ∧ Q (.int ss.length) H
def spNeg (C : Addr) : Sp := fun vs H Q _ => ∃ (x : Addr) (m c n : Int) (ss : List Step), vs = [.ref x] ∧ Prg C H x m c n ss ∧ Vp m c n ss ∧ ∀ y H', Same H H' → Prg C H' y m c n (Bf.inverse m ss) → Q (.ref y) H'
def spPart (C : Addr) : Sp := fun vs H Q _ => ∃ (x : Addr) (m c n k : Int) (ss : List Step), vs = [.ref x, .int k] ∧ Prg C H x m c n ss ∧ Vp m c n ss ∧ (0 ≤ k ∧ k ≤ ss.length) ∧ ∀ y H', Same H H' → Prg C H' y m c n (ss.take k.toNat) → Q (.ref y) H'
def spBack (C : Addr) : Sp := fun vs H Q _ => ∃ (x : Addr) (m c n k : Int) (ss : List Step), vs = [.ref x, .int k] ∧ Prg C H x m c n ss ∧ Vp m c n ss ∧ (0 ≤ k ∧ k ≤ ss.length) ∧ ∀ y H', Same H H' → Prg C H' y m c n (Bf.inverse m (ss.take k.toNat)) → Q (.ref y) H'
def spRun (C : Addr) : Sp := fun vs H Q _ => ∃ (x l g : Addr) (m c n : Int) (ss : List Step) (mem given : List Int), vs = [.ref x, .ref l, .ref g] ∧ Prg C H x m c n ss ∧ Vp m c n ss ∧ H l = some (.lst (mem.map V.int)) ∧ H g = some (.lst (given.map V.int)) ∧ Mem m c mem ∧ Mem m n given ∧
  ∀ q H', H q = none → Same H H' → H' q = some (.lst ((runs m given mem ss).map V.int)) → Q (.ref q) H'
section
variable {P : Program} {w : World} {K : PySem.W.Frag} {mg : Str → Option Value} {base : Heap}
theorem met_of {m qual : Str} {C : Addr} {st : Stmt} {N ps : List Str} {k : Nat} {sp : Sp} (G : PgC K C) (F : MetAt K C m qual st) (S : FnScope N ps (defScope st))
    (b : ∀ (kV doc pm : Value) (an : Option Addr) (cdv ct : Value) (us : List Value), us.length = ps.length → bindArgs (PySem.W.fnOf m qual (defArgs st) (defBody st) (defScope st) .none kV doc pm an cdv ct) ⟨us, []⟩ = pure (ps.zip us))
    (len : ∀ vs H Q E, sp vs H Q E → vs.length = ps.length)
    (hbody : ∀ (f : Addr) (cdv : Value) (A : Around) (outer : List Env) (s : Shared) (H : Hp) (vs : List V) (Q : VK) (E : XK), Room k (A.deeper (PyProof.Rows.envOfC qual (defScope st) s.heap.objs.size f cdv)) → sp vs H Q E →
      ∃ t, PSs (cxOf CX0 P w K mg base N qual (defScope st) f cdv A outer s H E).nox (defBody st) t ∧ t ⟨fun _ H' => Q .non H', Q, fun _ _ => False, fun _ _ => False⟩ (start N vs) H) : C8.Met P w K mg base (k + 1) C m sp [] := by
  obtain ⟨f, fd, D, me⟩ := F.ex
  refine ⟨f, fd, ps, [], G.cls, me, FunD.ok D S len fun cdv A outer s H vs Q E hr h => ?_, FunD.bindsN D b, .nil⟩
  obtain ⟨t, h1, h2⟩ := hbody f cdv A outer s H vs Q E hr h
  exact ⟨t, h1.nox, h2⟩
theorem mak_of {x qual : Str} {C : Addr} {st : Stmt} {N ps : List Str} {k : Nat} {sp : Sp} (F : MakAt K mg x C qual st) (S : FnScope N ps (defScope st))
    (b : ∀ (kV doc pm : Value) (an : Option Addr) (cdv ct : Value) (us : List Value), us.length = ps.length → bindArgs (PySem.W.fnOf "__init__" qual (defArgs st) (defBody st) (defScope st) .none kV doc pm an cdv ct) ⟨us, []⟩ = pure (ps.zip us))
    (len : ∀ vs H Q E, sp vs H Q E → vs.length = ps.length)
    (hbody : ∀ (f : Addr) (cdv : Value) (A : Around) (outer : List Env) (s : Shared) (H : Hp) (vs : List V) (Q : VK) (E : XK), Room k (A.deeper (PyProof.Rows.envOfC qual (defScope st) s.heap.objs.size f cdv)) → sp vs H Q E →
      ∃ t, PSs (cxOf CX0 P w K mg base N qual (defScope st) f cdv A outer s H E).nox (defBody st) t ∧ t ⟨fun _ H' => Q .non H', Q, fun _ _ => False, fun _ _ => False⟩ (start N vs) H) : C8.Mak P w K mg base (k + 1) x C sp [] := by
  obtain ⟨f, fd, D, me, hm⟩ := F.ex
  refine ⟨f, fd, ps, [], me, FunD.ok D S len fun cdv A outer s H vs Q E hr h => ?_, hm, FunD.bindsN D b, .nil⟩
  obtain ⟨t, h1, h2⟩ := hbody f cdv A outer s H vs Q E hr h
  exact ⟨t, h1.nox, h2⟩
variable {C : Addr}
theorem mak_Program (T : Gs mg) (G : PgC K C) (c_is_integer : C8.Cal P w K mg base 1 "is_integer" spIsInt []) (c_check_steps : C8.Cal P w K mg base 6 "check_steps" spCheck []) (F : MakAt K mg "Program" C "Program.__init__" s_Program___init__) : C8.Mak P w K mg base 7 "Program" C (spInit C) [] := by
  refine mak_of F sc_Program___init__ bi_Program___init__ (fun vs H Q E h => ?_) (fun f cdv A outer s H vs Q E hr h => ?_)
  · obtain ⟨x, p, dx, m, c, n, ss, ws, rfl, _⟩ := h
    rfl
  · refine ⟨_, (pss_cons (ps_if (PW.pt (pw_or (pt_not (pt_val (C8.pe_c c_is_integer hr (by first | decide | omega) rfl (pa_cons (pv 1) pa_nil)))) (pw_or1 (pt_not (pt_chain op_le op_le pe_int (pv 1) (C8.pe_gc rfl T.c_MODULUS)))))) (pss_one (ps_never)) pss_nil)
      (pss_cons (ps_if (PW.pt (pw_or (pt_not (pt_val (C8.pe_c c_is_integer hr (by first | decide | omega) rfl (pa_cons (pv 2) pa_nil)))) (pw_or1 (pt_not (pt_chain op_le op_le pe_int (pv 2) (C8.pe_gc rfl T.c_CELLS_programs)))))) (pss_one (ps_never)) pss_nil)
      (pss_cons (ps_if (PW.pt (pw_or (pt_not (pt_val (C8.pe_c c_is_integer hr (by first | decide | omega) rfl (pa_cons (pv 3) pa_nil)))) (pw_or1 (pt_not (pt_chain op_le op_le pe_int (pv 3) (C8.pe_gc rfl T.c_INPUTS_programs)))))) (pss_one (ps_never)) pss_nil)
      (pss_cons (ps_expr (C8.pe_c c_check_steps hr (by first | decide | omega) rfl (pa_cons (pv 4) (pa_cons (pv 1) (pa_cons (pv 2) (pa_cons (pv 3) (pa_cons (C8.pe_gc rfl T.c_STEPS) pa_nil)))))))
      (pss_cons (ps_fld (pv 0) (pv 1) rfl)
      (pss_cons (ps_fld (pv 0) (pv 2) rfl)
      (pss_cons (ps_fld (pv 0) (pv 3) rfl)
      (pss_one (ps_fld (pv 0) (pe_callTy b_list (by rfl) T.n_list (by decide +kernel) (pa_cons (pv 4) pa_nil)) rfl))))))))), ?_⟩
    obtain ⟨x, p, dx, m, c, n, ss, ws, rfl, hx, hp, hl, vp, k⟩ := h
    have m2 := vp.m2
    have m9 := vp.m9
    have c1 := vp.c1
    have c9 := vp.c9
    have n1 := vp.n1
    have n9 := vp.n9
    walk_at "rd"
    refine ⟨ss, m, c, n, _, p, ws, rfl, hp, hl, vp.ok, m2, m9, by have := vp.le; omega, vp.pr, fun H1 s1 => ?_⟩
    walk_at "rd"
    refine n_sfld (s1 _ _ hx) G.cls G.mo (by decide) fun H2 k2 h2 => ?_
    walk_at "rd"
    refine n_sfld h2 G.cls G.ce (Nat.le_of_ble_eq_true rfl) fun H3 k3 h3 => ?_
    replace h3 : H3 x = some (.ins C dx [("modulus", .int m), ("cells", .int c)]) := by with_unfolding_all exact h3
    walk_at "rd"
    refine n_sfld h3 G.cls G.inp (Nat.le_of_ble_eq_true rfl) fun H4 k4 h4 => ?_
    replace h4 : H4 x = some (.ins C dx [("modulus", .int m), ("cells", .int c), ("inputs", .int n)]) := by with_unfolding_all exact h4
    walk_at "rd"
    have kk : Kp x H H4 := ((Kp.of s1).trans (k2.trans k3)).trans k4
    have hpx : p ≠ x := ne_of hp hx (by intro z; cases z)
    have hp4 := kk _ _ hpx hp
    have hl4 := hl.tk (TK.kpi hx kk) (steps_flat ss)
    refine n_listL hp4 fun q H5 nq s5 hq => ?_
    walk_at "rd"
    refine n_sfld (s5 _ _ h4) G.cls G.st (Nat.le_of_ble_eq_true rfl) fun H6 k6 h6 => ?_
    replace h6 : H6 x = some (.ins C dx [("modulus", .int m), ("cells", .int c), ("inputs", .int n), ("steps", .ref q)]) := by with_unfolding_all exact h6
    walk_at "rd"
    have hxq : q ≠ x := fun e => by rw [e, h4] at nq; cases nq
    exact k _ (kk.trans ((Kp.of s5).trans k6)) ⟨dx, q, ws, h6, k6 _ _ hxq hq, (hl4.same s5).tk (TK.kpi (s5 _ _ h4) k6) (steps_flat ss)⟩
theorem n_mk {vs : List V} {H : Hp} {Q : VK} {p : Addr} {m c n : Int} {ss : List Step} {ws : List V} (e : vs = [.int m, .int c, .int n, .ref p]) (hp : H p = some (.lst ws)) (hl : RpL H (ss.map Step.d) ws) (vp : Vp m c n ss)
    (k : ∀ x H', H x = none → Same H H' → Prg C H' x m c n ss → Q (.ref x) H') : rMake C (spInit C) [] C8.E0 vs H Q :=
  n_make fun x dx H1 nx s1 hx => ⟨x, p, dx, m, c, n, ss, ws, by subst e; rfl, hx, s1 _ _ hp, hl.same s1, vp, fun H2 k2 pr => ⟨rfl, k x H2 nx (same_kp nx s1 k2) pr⟩⟩
theorem met_len (T : Gs mg) (G : PgC K C) (F : MetAt K C "__len__" "Program.__len__" s_Program___len__) : C8.Met P w K mg base 1 C "__len__" (spLen C) [] := by
  refine met_of G F sc_Program___len__ bi_Program___len__ (fun vs H Q E h => ?_) (fun f cdv A outer s H vs Q E hr h => ?_)
  · obtain ⟨x, m, c, n, ss, rfl, _⟩ := h
    rfl
  · refine ⟨_, (pss_one (ps_ret (pe_callB b_len (by rfl) T.n_len PySem.boot_len (pa_cons (pe_fld (pv 0) rfl) pa_nil)))), ?_⟩
    obtain ⟨x, m, c, n, ss, rfl, ⟨dx, q, ws, hx, hq, hl⟩, k⟩ := h
    have hlen := hl.len
    rw [List.length_map] at hlen
    have g1 := G.cls
    have g2 := G.st
    walk_at "rd"
    rw [hlen]
    exact k
theorem met_part (T : Gs mg) (G : PgC K C) (c_is_integer : C8.Cal P w K mg base 1 "is_integer" spIsInt []) (c_Program : C8.Mak P w K mg base 7 "Program" C (spInit C) []) (F : MetAt K C "part" "Program.part" s_Program_part) : C8.Met P w K mg base 9 C "part" (spPart C) [] := by
  refine met_of G F sc_Program_part bi_Program_part (fun vs H Q E h => ?_) (fun f cdv A outer s H vs Q E hr h => ?_)
  · obtain ⟨x, m, c, n, k, ss, rfl, _⟩ := h
    rfl
  · refine ⟨_, (pss_cons (ps_if (PW.pt (pw_or (pt_not (pt_val (C8.pe_c c_is_integer hr (by first | decide | omega) rfl (pa_cons (pv 1) pa_nil)))) (pw_or1 (pt_not (pt_chain op_le op_le pe_int (pv 1) (pe_callB b_len (by rfl) T.n_len PySem.boot_len (pa_cons (pe_fld (pv 0) rfl) pa_nil))))))) (pss_one (ps_never)) pss_nil)
      (pss_one (ps_ret (C8.pe_mk c_Program hr (by first | decide | omega) rfl (pa_cons (pe_fld (pv 0) rfl) (pa_cons (pe_fld (pv 0) rfl) (pa_cons (pe_fld (pv 0) rfl) (pa_cons (pe_slice sl_list (pe_fld (pv 0) rfl) po_none (po_some (pv 1))) pa_nil)))))))), ?_⟩
    obtain ⟨x, m, c, n, kk, ss, rfl, ⟨dx, q, ws, hx, hq, hl⟩, vp, ⟨k0, k1⟩, k⟩ := h
    have hlen := hl.len
    rw [List.length_map] at hlen
    have g1 := G.cls
    have g2 := G.st
    have g3 := G.mo
    have g4 := G.ce
    have g5 := G.inp
    rw [← hlen] at k1
    walk_at "rd"
    refine n_slL hq (cut_to k0) fun r H1 nr s1 hr1 => ?_
    replace hx := s1 _ _ hx
    walk_at "rd"
    refine n_mk rfl hr1 ?_ (vp.take _) fun y H2 ny s2 pr => k y H2 (s1.trans s2) pr
    rw [List.map_take]
    exact (hl.take _).same s1
theorem met_neg (T : Gs mg) (G : PgC K C) (c_inverse_step : C8.Cal P w K mg base 2 "inverse_step" spInvStep []) (c_Program : C8.Mak P w K mg base 7 "Program" C (spInit C) []) (F : MetAt K C "__neg__" "Program.__neg__" s_Program___neg__) : C8.Met P w K mg base 9 C "__neg__" (spNeg C) [] := by
  refine met_of G F sc_Program___neg__ bi_Program___neg__ (fun vs H Q E h => ?_) (fun f cdv A outer s H vs Q E hr h => ?_)
  · obtain ⟨x, m, c, n, ss, rfl, _⟩ := h
    rfl
  · refine ⟨_, (pss_cons (ps_setLc (i := 1) (own := [("step", 2)]) (g := gName 2) (tt := tYes) rfl sc_Program___neg__.nd rfl rfl (sw_true rfl rfl rfl (by decide +kernel)) (pi_list (pe_fld (pv 0) rfl)) (blkOk_by (by first | decide +kernel | kernel_rfl)) (fun _ _ _ _ _ => pg_name (i := 2) sc_Program___neg__.nd rfl (by first | exact Or.inl rfl | exact Or.inr rfl)) (fun _ _ _ _ _ => pts_nil) (fun _ _ _ _ _ => (C8.pe_c c_inverse_step hr (by first | decide | omega) rfl (pa_cons (pv 2) (pa_cons (pe_fldK (K := K) rfl (pv 0) rfl) pa_nil)))))
      (pss_one (ps_ret (C8.pe_mk c_Program hr (by first | decide | omega) rfl (pa_cons (pe_fld (pv 0) rfl) (pa_cons (pe_fld (pv 0) rfl) (pa_cons (pe_fld (pv 0) rfl) (pa_cons (pe_revL (pv 1)) pa_nil)))))))), ?_⟩
    obtain ⟨x, m, c, n, ss, rfl, ⟨dx, q, ws, hx, hq, hl⟩, vp, k⟩ := h
    have hlen := hl.len
    rw [List.length_map] at hlen
    have g1 := G.cls
    have g2 := G.st
    have g3 := G.mo
    have g4 := G.ce
    have g5 := G.inp
    walk_at "rd"
    refine n_lcL hq fun D H0 nD s0 hD => ⟨fun i H' => ∃ acc, Same H H' ∧ H' D = some (.lst acc) ∧ RpL H' ((ss.take i).map fun s => (s.inv m).d) acc, ⟨[], s0, hD, rfl⟩, fun i H' h => ?_, fun i y H' hy h => ?_, fun H' h => ?_⟩
    · obtain ⟨acc, s1, _⟩ := h
      exact s1 _ _ hq
    · obtain ⟨acc, s1, hacc, hra⟩ := h
      obtain ⟨df, hdf, hfv⟩ := hl.at hy
      obtain ⟨st, hst, rfl⟩ := Option.map_eq_some_iff.mp (by rwa [List.getElem?_map] at hdf)
      have hx1 := s1 _ _ hx
      walk_at "rd"
      refine ⟨st, m, c, n, y, rfl, hfv.same s1, vp.ok _ (List.mem_of_getElem? hst), vp.m2, vp.m9, fun v' H2 s2 hv' => ?_⟩
      have hal := hra.len
      refine n_acc (s2 _ _ hacc) (by
        rw [hal, List.length_map, List.length_take]
        have := vp.le
        have : sizeLine = 2 ^ 24 := rfl
        omega) fun H3 k3 h3 => ⟨_, same_kp nD (s1.trans s2) k3, h3, ?_⟩
      rw [take_snoc hst, List.map_append]
      have fl := flats_map (f := fun s : Step => (s.inv m).d) (fun s => step_flat _) (ss.take i ++ [st])
      rw [List.map_append] at fl
      exact ((hra.same s2).snoc hv').tk (TK.kp (s2 _ _ hacc) k3) fl
    · obtain ⟨acc, s1, hacc, hra⟩ := h
      rw [show ws.length = ss.length from hlen, List.take_length] at hra
      replace hx := s1 _ _ hx
      walk_at "rd"
      refine n_revL hacc fun r H1 nr s2 hr1 => ?_
      refine n_mk rfl hr1 ?_ vp.inverse fun y H2 ny s3 pr => k y H2 (s1.trans (s2.trans s3)) pr
      unfold Bf.inverse
      rw [List.map_reverse, List.map_map]
      exact (hra.rev).same s2
theorem met_back (T : Gs mg) (G : PgC K C) (m_part : C8.Met P w K mg base 9 C "part" (spPart C) []) (m___neg__ : C8.Met P w K mg base 9 C "__neg__" (spNeg C) []) (F : MetAt K C "called_back" "Program.called_back" s_Program_called_back) : C8.Met P w K mg base 10 C "called_back" (spBack C) [] := by
  refine met_of G F sc_Program_called_back bi_Program_called_back (fun vs H Q E h => ?_) (fun f cdv A outer s H vs Q E hr h => ?_)
  · obtain ⟨x, m, c, n, k, ss, rfl, _⟩ := h
    rfl
  · refine ⟨_, (pss_one (ps_ret (pe_un (un_own m___neg__ hr (by decide)) (C8.pe_mt m_part hr (by first | decide | omega) (pv 0) (pa_cons (pv 1) pa_nil))))), ?_⟩
    obtain ⟨x, m, c, n, kk, ss, rfl, pr, vp, ⟨k0, k1⟩, k⟩ := h
    have pr0 := pr
    obtain ⟨dx, q, ws, hx, hq, hl⟩ := pr
    walk_at "rd"
    refine ⟨x, m, c, n, kk, ss, rfl, pr0, vp, ⟨k0, k1⟩, fun y H1 s1 pr1 => ?_⟩
    have pr2 := pr1
    obtain ⟨dx1, q1, ws1, hx1, _⟩ := pr1
    exact ⟨y, dx1, _, rfl, hx1, y, m, c, n, _, rfl, pr2, vp.take _, fun z H2 s2 pr3 => k z H2 (s1.trans s2) pr3⟩
theorem met_run (T : Gs mg) (G : PgC K C) (c_check_numbers : C8.Cal P w K mg base 3 "check_numbers" spNums []) (c_perform : C8.Cal P w K mg base 4 "perform" spPerf []) (F : MetAt K C "run" "Program.run" s_Program_run) : C8.Met P w K mg base 5 C "run" (spRun C) [] := by
  refine met_of G F sc_Program_run bi_Program_run (fun vs H Q E h => ?_) (fun f cdv A outer s H vs Q E hr h => ?_)
  · obtain ⟨x, l, g, m, c, n, ss, mem, given, rfl, _⟩ := h
    rfl
  · refine ⟨_, (pss_cons (ps_expr (C8.pe_c c_check_numbers hr (by first | decide | omega) rfl (pa_cons (pv 1) (pa_cons (pe_fld (pv 0) rfl) (pa_cons (pe_fld (pv 0) rfl) pa_nil)))))
      (pss_cons (ps_expr (C8.pe_c c_check_numbers hr (by first | decide | omega) rfl (pa_cons (pv 2) (pa_cons (pe_fld (pv 0) rfl) (pa_cons (pe_fld (pv 0) rfl) pa_nil)))))
      (pss_cons (ps_set (i := 3) sc_Program_run.nd rfl (by first | exact Or.inl rfl | exact Or.inr rfl) (pe_callTy b_list (by rfl) T.n_list (by decide +kernel) (pa_cons (pv 1) pa_nil)))
      (pss_cons (ps_for PassesOwn.never rfl (pi_list (pe_fld (pv 0) rfl)) (pg_name (i := 4) sc_Program_run.nd rfl (by first | exact Or.inl rfl | exact Or.inr rfl)) (pss_one (ps_expr (C8.pe_c c_perform hr (by first | decide | omega) rfl (pa_cons (pv 4) (pa_cons (pv 3) (pa_cons (pv 2) (pa_cons (pe_fld (pv 0) rfl) pa_nil))))))))
      (pss_one (ps_ret (pv 3))))))), ?_⟩
    obtain ⟨x, l, g, m, c, n, ss, mem, given, rfl, ⟨dx, q, ws, hx, hq, hl⟩, vp, hm, hg, hM, hG, k⟩ := h
    have hlen := hl.len
    rw [List.length_map] at hlen
    have g1 := G.cls
    have g2 := G.st
    have g3 := G.mo
    have g4 := G.ce
    have g5 := G.inp
    walk_at "rd"
    refine ⟨mem, m, c, l, rfl, hm, hM, ?_⟩
    walk_at "rd"
    refine ⟨given, m, n, g, rfl, hg, hG, ?_⟩
    walk_at "rd"
    refine n_listL hm fun r H1 nr s1 hr1 => ?_
    have hx0 := hx
    replace hx := s1 _ _ hx
    walk_at "rd"
    refine n_forL (fun i σ H' => ∃ u1 : Option V, σ = [some (.ref x), some (.ref l), some (.ref g), some (.ref r), u1] ∧ Same H H' ∧ H' r = some (.lst ((runs m given mem (ss.take i)).map V.int))) (s1 _ _ hq) ⟨_, rfl, s1, hr1⟩ (fun i σ H' _ h => by obtain ⟨_, _, s2, _⟩ := h; exact SqL.of (s2 _ _ hq)) ?_ ?_
    · rintro i y σ H' hy ⟨u1, rfl, s2, hr2⟩
      have hx2 : H' x = some (.ins C dx [("modulus", .int m), ("cells", .int c), ("inputs", .int n), ("steps", .ref q)]) := s2 _ _ hx0
      obtain ⟨df, hdf, hfv⟩ := hl.at hy
      obtain ⟨st, hst, rfl⟩ := Option.map_eq_some_iff.mp (by rwa [List.getElem?_map] at hdf)
      have hok := vp.ok _ (List.mem_of_getElem? hst)
      walk_at "rd"
      refine ⟨st, m, c, n, y, r, g, runs m given mem (ss.take i), given, rfl, hfv.same s2, hok, vp.m2, vp.m9, hr2, s2 _ _ hg, runs_mem vp.m2 hM (fun s hs => vp.ok s (List.mem_of_mem_take hs)), hG, fun H3 k3 h3 => ?_⟩
      walk_at "rd"
      refine ⟨_, rfl, same_kp nr s2 k3, ?_⟩
      have e : runs m given mem (ss.take (i + 1)) = perf m given (runs m given mem (ss.take i)) st := foldl_take _ _ hst
      rw [h3, e]
    · rintro σ H' ⟨u1, rfl, s2, hr2⟩
      rw [show ws.length = ss.length from hlen, List.take_length] at hr2
      walk_at "rd"
      exact k r H' nr s2 hr2
end
end Bf
/-! the program's methods, as the law calls them -/
namespace Bf
open PySem L2
theorem Prg.ds {C : Addr} {D : DD} {H H' : Hp} {x : Addr} {m c n : Int} {ss : List Step} (h : Prg C H x m c n ss) (dr : Drw D H) (s : Ds D H H') : Prg C H' x m c n ss := by
  obtain ⟨dx, q, ws, h1, h2, h3⟩ := h
  refine ⟨dx, q, ws, s.kp _ _ (fun e => ?_) h1, s.kp _ _ (steps_ne dr h2 h3) h2, h3.tk (Ds.tk dr s) (steps_flat ss)⟩
  obtain ⟨⟨k, h4, _⟩, _⟩ := dr
  rw [e, h4] at h1
  cases h1
section
variable {K : PySem.W.Frag} {C : Addr} {σ : St} {H : Hp} {Q : VK} {x la lg : Addr} {m c n : Int} {ss : List Step} {mem given : List Int} {i j g : Nat}
theorem n_methP {nm : Str} {sp : Sp} {ts : TA} {E : XK} (pr : Prg C H x m c n ss) (l : ∀ q, List.lookup nm [("modulus", V.int m), ("cells", .int c), ("inputs", .int n), ("steps", .ref q)] = none) (k : ts σ H fun vs H2 => sp (.ref x :: (vs ++ [])) H2 Q E) : rMeth C nm sp [] E ts σ (.ref x) H Q := by
  obtain ⟨dx, q, ws, h1, h2, h3⟩ := pr
  exact n_meth h1 (l q) k
theorem n_run (pr : Prg C H x m c n ss) (vp : Vp m c n ss) (ha : σ[j]? = some (some (.ref la))) (hb : σ[g]? = some (some (.ref lg))) (hla : H la = some (.lst (mem.map V.int))) (hlg : H lg = some (.lst (given.map V.int))) (hM : Mem m c mem) (hG : Mem m n given)
    (k : ∀ q H', Same H H' → H' q = some (.lst ((runs m given mem ss).map V.int)) → Mem m c (runs m given mem ss) → Q (.ref q) H') :
    rMeth C "run" (spRun C) [] C8.E0 (tCons (tCB (rListOf K) (tCons (tVar j) tNil)) (tCons (tCB (rListOf K) (tCons (tVar g) tNil)) tNil)) σ (.ref x) H Q := by
  refine n_methP pr (fun _ => by with_unfolding_all rfl) ?_
  refine r_cons (r_CB (r_cons (r_var ha (r_nil (n_listL hla fun l1 H1 n1 s1 h1 => ?_)))))
  refine r_cons (r_CB (r_cons (r_var hb (r_nil (n_listL (s1 _ _ hlg) fun l2 H2 n2 s2 h2 => ?_)))))
  exact r_nil ⟨x, l1, l2, m, c, n, ss, mem, given, rfl, pr.same (s1.trans s2), vp, s2 _ _ h1, h2, hM, hG, fun q H3 nq s3 hq => k q H3 (s1.trans (s2.trans s3)) hq (runs_mem vp.m2 hM vp.ok)⟩
theorem n_neg (pr : Prg C H x m c n ss) (vp : Vp m c n ss) (k : ∀ y H', Same H H' → Prg C H' y m c n (Bf.inverse m ss) → Q (.ref y) H') : rNegO C (spNeg C) (.ref x) H Q := by
  have pr0 := pr
  obtain ⟨dx, q, ws, h1, h2, h3⟩ := pr
  exact ⟨x, dx, _, rfl, h1, x, m, c, n, ss, rfl, pr0, vp, k⟩
theorem n_part {v : Int} (pr : Prg C H x m c n ss) (vp : Vp m c n ss) (ha : σ[j]? = some (some (.int v))) (h0 : 0 ≤ v ∧ v ≤ ss.length) (k : ∀ y H', Same H H' → Prg C H' y m c n (ss.take v.toNat) → Q (.ref y) H') : rMeth C "part" (spPart C) [] C8.E0 (tCons (tVar j) tNil) σ (.ref x) H Q := by
  refine n_methP pr (fun _ => by with_unfolding_all rfl) ?_
  exact r_cons (r_var ha (r_nil ⟨x, m, c, n, v, ss, rfl, pr, vp, h0, k⟩))
theorem n_back {v : Int} (pr : Prg C H x m c n ss) (vp : Vp m c n ss) (ha : σ[j]? = some (some (.int v))) (h0 : 0 ≤ v ∧ v ≤ ss.length) (k : ∀ y H', Same H H' → Prg C H' y m c n (Bf.inverse m (ss.take v.toNat)) → Q (.ref y) H') : rMeth C "called_back" (spBack C) [] C8.E0 (tCons (tVar j) tNil) σ (.ref x) H Q := by
  refine n_methP pr (fun _ => by with_unfolding_all rfl) ?_
  exact r_cons (r_var ha (r_nil ⟨x, m, c, n, v, ss, rfl, pr, vp, h0, k⟩))
theorem n_lenP (pr : Prg C H x m c n ss) (hl : ss.length ≤ 1000000) (k : Q (.int ss.length) H) : rLenO C (spLen C) [.ref x] H Q := by
  have pr0 := pr
  obtain ⟨dx, q, ws, h1, h2, h3⟩ := pr
  exact ⟨x, dx, _, rfl, h1, x, m, c, n, ss, rfl, pr0, ss.length, rfl, by omega, k⟩
theorem n_steps {P : V → Prop} (G : PgC K C) (pr : Prg C H x m c n ss) (k : ∀ q ws, H q = some (.lst ws) → RpL H (ss.map Step.d) ws → P (.ref q)) :
    ∃ a' C' dx fs w, V.ref x = .ref a' ∧ H a' = some (.ins C' dx fs) ∧ Cls K C' ∧ NoAttr K C' "steps" ∧ fs.lookup ("steps" : Str) = some w ∧ P w := by
  obtain ⟨dx, q, ws, h1, h2, h3⟩ := pr
  exact ⟨x, C, dx, _, .ref q, rfl, h1, G.cls, G.st, by with_unfolding_all rfl, k q ws h2 h3⟩
theorem steps_wid {l : List Step} (h : ∀ s ∈ l, s.ok m c n) (hl : l.length ≤ 1000000) : (Dt.l (l.map Step.d)).wid ≤ 1000000 := by
  have h1 := wids_map (f := Step.d) (k := 1000000) (l := l) fun s hs => step_wid (h s hs)
  show max (l.map Step.d).length _ ≤ _
  rw [List.length_map]
  omega
theorem steps_dep {l : List Step} : (Dt.l (l.map Step.d)).dep ≤ 4 := by
  have h1 := deps_map (f := Step.d) (k := 3) (l := l) fun s hs => step_dep s
  show Dt.deps _ + 1 ≤ 4
  omega
theorem n_eqI {a b : Addr} {xs : List Int} {E : XK} (ha : H a = some (.lst (xs.map V.int))) (hb : H b = some (.lst (xs.map V.int))) (hl : xs.length ≤ 1000000) (q : Q (.bl true) H) : spEq 4 ([.ref a, .ref b] ++ []) H Q E := by
  refine n_eq (d := .l (xs.map .i)) ⟨a, _, rfl, ha, RpL.ints xs⟩ ⟨b, _, rfl, hb, RpL.ints xs⟩ ?_ ?_ q
  · have := deps_map (f := Dt.i) (k := 0) (l := xs) fun x _ => Nat.le_refl _
    show Dt.deps _ + 1 ≤ 4
    omega
  · have := ints_wid xs
    show max (xs.map Dt.i).length _ ≤ _
    rw [List.length_map]
    omega
theorem n_eqP {a b : Addr} {us ws : List V} {E : XK} (vp : Vp m c n ss) (ha : H a = some (.lst us)) (hb : H b = some (.lst ws)) (h1 : RpL H (ss.map Step.d) us) (h2 : RpL H (ss.map Step.d) ws) (q : Q (.bl true) H) : spEq 4 ([.ref a, .ref b] ++ []) H Q E :=
  n_eq (d := .l (ss.map Step.d)) ⟨a, _, rfl, ha, h1⟩ ⟨b, _, rfl, hb, h2⟩ steps_dep (steps_wid vp.ok (by have := vp.le; omega)) q
end
end Bf
namespace Bf
open PySem L2
abbrev s__law_mixed : Stmt := topS 71
theorem bi__law_mixed : ∀ (kV doc pm : Value) (an : Option Addr) (cdv ct : Value) (us : List Value), us.length = 2 → bindArgs (PySem.W.fnOf "_law_mixed" "_law_mixed" (defArgs s__law_mixed) (defBody s__law_mixed) (defScope s__law_mixed) .none kV doc pm an cdv ct) ⟨us, []⟩ = pure ((["_law_number", "_law_k"] : List Str).zip us) := fun _ _ _ _ _ _ us hl => match us, hl with | [_, _], _ => rfl
theorem sc__law_mixed : FnScope ["_law_number", "_law_k", "_law_step"] ["_law_number", "_law_k"] (defScope s__law_mixed) := C8.fnScope_by (by decide +kernel)
abbrev s__law_numbers : Stmt := topS 72
theorem bi__law_numbers : ∀ (kV doc pm : Value) (an : Option Addr) (cdv ct : Value) (us : List Value), us.length = 1 → bindArgs (PySem.W.fnOf "_law_numbers" "_law_numbers" (defArgs s__law_numbers) (defBody s__law_numbers) (defScope s__law_numbers) .none kV doc pm an cdv ct) ⟨us, []⟩ = pure ((["_law_script"] : List Str).zip us) := fun _ _ _ _ _ _ us hl => match us, hl with | [_], _ => rfl
theorem sc__law_numbers : FnScope ["_law_script", "_law_numbers_here", "_law_cell", "_law_rest", "_law_k"] ["_law_script"] (defScope s__law_numbers) := C8.fnScope_by (by decide +kernel)
abbrev s__law_draw : Stmt := topS 73
theorem bi__law_draw : ∀ (kV doc pm : Value) (an : Option Addr) (cdv ct : Value) (us : List Value), us.length = 1 → bindArgs (PySem.W.fnOf "_law_draw" "_law_draw" (defArgs s__law_draw) (defBody s__law_draw) (defScope s__law_draw) .none kV doc pm an cdv ct) ⟨us, []⟩ = pure ((["_law_draws"] : List Str).zip us) := fun _ _ _ _ _ _ us hl => match us, hl with | [_], _ => rfl
theorem sc__law_draw : FnScope ["_law_draws", "_law_at", "_law_first"] ["_law_draws"] (defScope s__law_draw) := C8.fnScope_by (by decide +kernel)
def spNumbers (K : PySem.W.Frag) : Sp := fun vs H Q _ => ∃ (xs : List Int) (p : Addr), vs = [.ref p] ∧ SqL K H p (xs.map V.int) ∧ xs.length ≤ 100 ∧ ∀ (q : Addr) (ns : List Int) (H' : Hp), H q = none → Same H H' → H' q = some (.lst (ns.map V.int)) → (∀ x ∈ ns, 0 ≤ x ∧ x < 1000000) → Q (.ref q) H'
section
variable {P : Program} {w : World} {K : PySem.W.Frag} {mg : Str → Option Value} {base : Heap}
theorem cal__law_mixed (T : Gs mg) (F : DefAt K mg "_law_mixed" s__law_mixed) : C8.Cal P w K mg base 1 "_law_mixed" spMixed [] := by
  refine cal_of F sc__law_mixed bi__law_mixed (fun vs H Q E h => ?_) (fun f cdv A outer s H vs Q E hr h => ?_)
  · obtain ⟨n, k, rfl, _⟩ := h
    rfl
  · refine ⟨_, (pss_cons (ps_set (i := 2) sc__law_mixed.nd rfl (by first | exact Or.inl rfl | exact Or.inr rfl) (pe_op op_mod (pe_op op_add (pe_op op_add (pe_op op_mul (pv 0) pe_int) (pe_op op_mul (pv 1) pe_int)) pe_int) pe_int))
      (pss_one (ps_ret (pe_op op_mod (pe_op op_add (pe_op op_mul (pv 2) (pe_op op_add (pe_op op_fdivN (pv 2) pe_int) pe_int)) (pv 1)) pe_int)))), ?_⟩
    obtain ⟨n, k, rfl, h⟩ := h
    have hb : 0 ≤ (n * 48271 + k * 69621 + 12345) % 2147483647 ∧ (n * 48271 + k * 69621 + 12345) % 2147483647 < 2147483647 := ⟨Int.emod_nonneg _ (by decide), Int.emod_lt_of_pos _ (by decide)⟩
    walk_at "rd"
    rw [Int.fdiv_eq_ediv_of_nonneg _ (by decide)]
    exact h
theorem cal__law_draw (T : Gs mg) (c__law_mixed : C8.Cal P w K mg base 1 "_law_mixed" spMixed []) (F : DefAt K mg "_law_draw" s__law_draw) : C8.Cal P w K mg base 2 "_law_draw" spDraw [] := by
  refine cal_of F sc__law_draw bi__law_draw (fun vs H Q E h => ?_) (fun f cdv A outer s H vs Q E hr h => ?_)
  · obtain ⟨D, rfl, _⟩ := h
    rfl
  · refine ⟨_, (pss_cons (ps_set (i := 1) sc__law_draw.nd rfl (by first | exact Or.inl rfl | exact Or.inr rfl) (pe_ix ix_seq (pv 0) pe_int (fun _ _ => rfl)))
      (pss_cons (ps_asg (pe_op op_add (pv 1) pe_int) (pg_sub (pv 0) pe_int set_list))
      (pss_cons (ps_if (pt_cmpR op_lt (pv 1) (pe_callB b_len (by rfl) T.n_len PySem.boot_len (pa_cons (pe_ix ix_seq (pv 0) pe_int (fun _ _ => rfl)) pa_nil)) (nomark _)) (pss_one (ps_ret (pe_ix ix_seq (pe_ix ix_seq (pv 0) pe_int (fun _ _ => rfl)) (pv 1) (fun _ _ => rfl)))) pss_nil)
      (pss_cons (ps_set (i := 2) sc__law_draw.nd rfl (by first | exact Or.inl rfl | exact Or.inr rfl) (pe_op op_add pe_int (pv 1)))
      (pss_cons (ps_if (pt_cmpR op_gt (pe_callB b_len (by rfl) T.n_len PySem.boot_len (pa_cons (pe_ix ix_seq (pv 0) pe_int (fun _ _ => rfl)) pa_nil)) pe_int (nomark _)) (pss_one (ps_set (i := 2) sc__law_draw.nd rfl (by first | exact Or.inl rfl | exact Or.inr rfl) (pe_op op_add (pv 2) (pe_op op_mul pe_int (pe_ix ix_seq (pe_ix ix_seq (pv 0) pe_int (fun _ _ => rfl)) pe_int (fun _ _ => rfl)))))) pss_nil)
      (pss_one (ps_ret (pe_op op_mod (C8.pe_c c__law_mixed hr (by first | decide | omega) rfl (pa_cons (C8.pe_c c__law_mixed hr (by first | decide | omega) rfl (pa_cons (pv 2) (pa_cons (pv 1) pa_nil))) (pa_cons pe_int pa_nil))) pe_int)))))))), ?_⟩
    obtain ⟨D, rfl, dr, k⟩ := h
    have dr0 := dr
    obtain ⟨⟨at_, h1, h2⟩, h3, h4⟩ := dr
    walk_at "rd"
    refine n_setL h1 (by decide) (by simp) fun H1 k1 hd1 => ?_
    have hl1 := k1 _ _ dr0.ld h3
    replace hd1 : H1 D.d = some (.lst [.ref D.l, .int (at_ + 1)]) := hd1
    have ds : Ds D H H1 := ⟨k1, ⟨_, hd1, by omega⟩, hl1, h4⟩
    walk_at "rd"
    refine i_d2 (fun c1 => ?_) (fun c1 => ?_)
    · walk_at "rd"
      rw [List.length_map] at c1
      have e1 : at_.toNat < D.ns.length := by omega
      refine r_ixL hl1 (at_nat h2 (by rw [List.getElem?_map, List.getElem?_eq_getElem e1]; rfl)) ?_
      have hb := h4 _ (List.getElem_mem e1)
      exact k _ _ hb.1 hb.2 ds
    · have fin : ∀ z : Int, 0 ≤ z % 1000000 ∧ z % 1000000 < 1000000 := fun z => ⟨Int.emod_nonneg _ (by decide), Int.emod_lt_of_pos _ (by decide)⟩
      walk_at "rd"
      refine i_d2 (fun c2 => ?_) (fun c2 => ?_)
      · rw [List.length_map] at c2
        walk_at "rd"
        refine r_ixL hl1 (at_nat (by decide) (by rw [List.getElem?_map, List.getElem?_eq_getElem (show (0 : Int).toNat < _ by show 0 < _; omega)]; rfl)) ?_
        walk_at "rd"
        exact k _ _ (fin _).1 (fin _).2 ds
      · walk_at "rd"
        exact k _ _ (fin _).1 (fin _).2 ds
theorem cal__law_numbers (T : Gs mg) (c__law_mixed : C8.Cal P w K mg base 1 "_law_mixed" spMixed []) (F : DefAt K mg "_law_numbers" s__law_numbers) : C8.Cal P w K mg base 2 "_law_numbers" (spNumbers K) [] := by
  refine cal_of F sc__law_numbers bi__law_numbers (fun vs H Q E h => ?_) (fun f cdv A outer s H vs Q E hr h => ?_)
  · obtain ⟨xs, p, rfl, _⟩ := h
    rfl
  · refine ⟨_, (pss_cons (ps_set (i := 1) sc__law_numbers.nd rfl (by first | exact Or.inl rfl | exact Or.inr rfl) (pe_lst pa_nil))
      (pss_cons (ps_for PassesOwn.never rfl (pi_list (pv 0)) (pg_name (i := 2) sc__law_numbers.nd rfl (by first | exact Or.inl rfl | exact Or.inr rfl)) (pss_one (ps_if (pt_cmpR op_ge (pv 2) (pe_op op_pow pe_int pe_int) (nomark _)) (pss_cons (ps_set (i := 3) sc__law_numbers.nd rfl (by first | exact Or.inl rfl | exact Or.inr rfl) (pv 2))
      (pss_one (ps_for PassesOwn.never rfl (pi_range1 rfl T.n_range (pa_cons pe_int pa_nil)) (pg_name (i := 4) sc__law_numbers.nd rfl (by first | exact Or.inl rfl | exact Or.inr rfl)) (pss_one (ps_if (pt_cmpR op_gt (pv 3) pe_int (nomark _)) (pss_cons (ps_expr (pe_bm PySem.F.plainAttrs_list PySem.F.slot_list_append PySem.F.type_list_append mt_append (pv 1) (pa_cons (pe_op op_mod (pv 3) pe_int) pa_nil)))
      (pss_one (ps_set (i := 3) sc__law_numbers.nd rfl (by first | exact Or.inl rfl | exact Or.inr rfl) (pe_op op_fdivN (pv 3) pe_int)))) pss_nil))))) (pss_cons (ps_expr (pe_bm PySem.F.plainAttrs_list PySem.F.slot_list_append PySem.F.type_list_append mt_append (pv 1) (pa_cons (pe_op op_mod (pv 2) pe_int) pa_nil)))
      (pss_one (ps_for PassesOwn.never rfl (pi_range1 rfl T.n_range (pa_cons pe_int pa_nil)) (pg_name (i := 4) sc__law_numbers.nd rfl (by first | exact Or.inl rfl | exact Or.inr rfl)) (pss_one (ps_expr (pe_bm PySem.F.plainAttrs_list PySem.F.slot_list_append PySem.F.type_list_append mt_append (pv 1) (pa_cons (pe_op op_mod (C8.pe_c c__law_mixed hr (by first | decide | omega) rfl (pa_cons (C8.pe_c c__law_mixed hr (by first | decide | omega) rfl (pa_cons (pe_op op_mod (pv 2) pe_int) (pa_cons (pv 4) pa_nil))) (pa_cons (pe_op op_add (pv 4) pe_int) pa_nil))) pe_int) pa_nil))))))))))
      (pss_one (ps_ret (pv 1))))), ?_⟩
    obtain ⟨xs, p, rfl, hp, hlen, k⟩ := h
    walk_at "rd"
    refine n_lst (by decide) fun q H1 nq s1 hq => ?_
    walk_at "rd"
    refine n_forSL (fun i σ H' => ∃ (u1 u2 u3 : Option V) (ns : List Int), σ = [some (.ref p), some (.ref q), u1, u2, u3] ∧ Same H H' ∧ H' q = some (.lst (ns.map V.int)) ∧ ns.length ≤ i * 60 ∧ ∀ x ∈ ns, 0 ≤ x ∧ x < 1000000) (sql_same hp s1) ⟨_, _, _, [], rfl, s1, hq, by simp, by simp⟩ (fun i σ H' _ h => by obtain ⟨_, _, _, _, _, s2, _⟩ := h; exact sql_same hp s2) ?_ ?_
    · rintro i x σ H' hx ⟨u1, u2, u3, ns, rfl, s2, hq2, hl2, hb2⟩
      obtain ⟨cell, hcell, rfl⟩ := map_at hx
      have hi : i < 100 := by
        have := (List.getElem?_eq_some_iff.mp hcell).1
        omega
      have fin : ∀ z : Int, 0 ≤ z % 1000000 ∧ z % 1000000 < 1000000 := fun z => ⟨Int.emod_nonneg _ (by decide), Int.emod_lt_of_pos _ (by decide)⟩
      have snoc : ∀ (ms : List Int) (z : Int), (∀ x ∈ ms, 0 ≤ x ∧ x < 1000000) → ∀ x ∈ ms ++ [z % 1000000], 0 ≤ x ∧ x < 1000000 := fun ms z h x hx => by
        rcases List.mem_append.mp hx with q | q
        · exact h x q
        · rw [List.mem_singleton.mp q]
          exact fin z
      have hsz : sizeLine = 2 ^ 24 := rfl
      walk_at "rd"
      refine i_d2 (fun hc => ?_) (fun hc => ?_)
      · walk_at "rd"
        refine n_forR (fun j σ H2 => ∃ (u3 : Option V) (rest : Int) (ms : List Int), σ = [some (.ref p), some (.ref q), some (.int cell), some (.int rest), u3] ∧ Same H H2 ∧ H2 q = some (.lst (ms.map V.int)) ∧ ms.length ≤ i * 60 + j ∧ ∀ x ∈ ms, 0 ≤ x ∧ x < 1000000) (by decide) ⟨_, _, ns, rfl, s2, hq2, hl2, hb2⟩ ?_ ?_
        · rintro j σ H2 hj ⟨u3, rest, ms, rfl, s3, hq3, hl3, hb3⟩
          have hj' : j < 60 := hj
          walk_at "rd"
          refine i_d2 (fun hc => ?_) (fun hc => ?_)
          · walk_at "rd"
            refine n_app hq3 (by rw [List.length_map]; omega) fun H4 k4 hq4 => ?_
            walk_at "rd"
            exact ⟨_, _, ms ++ [rest % 1000000], rfl, same_kp nq s3 k4, by rw [hq4, List.map_append]; rfl, by rw [List.length_append]; simp; omega, snoc _ _ hb3⟩
          · walk_at "rd"
            exact ⟨_, _, ms, rfl, s3, hq3, by omega, hb3⟩
        · rintro σ H2 ⟨u3, rest, ms, rfl, s3, hq3, hl3, hb3⟩
          exact ⟨_, _, _, ms, rfl, s3, hq3, by have : (60 : Int).toNat = 60 := rfl; omega, hb3⟩
      · walk_at "rd"
        refine n_app hq2 (by rw [List.length_map]; omega) fun H2 k2 hq3 => ?_
        have s3 := same_kp nq s2 k2
        walk_at "rd"
        refine n_forR (fun j σ H2 => ∃ (u2 u3 : Option V) (ms : List Int), σ = [some (.ref p), some (.ref q), some (.int cell), u2, u3] ∧ Same H H2 ∧ H2 q = some (.lst (ms.map V.int)) ∧ ms.length ≤ i * 60 + 1 + j ∧ ∀ x ∈ ms, 0 ≤ x ∧ x < 1000000) (by decide) ⟨_, _, ns ++ [cell % 1000000], rfl, s3, by rw [hq3, List.map_append]; rfl, by rw [List.length_append]; simp; omega, snoc _ _ hb2⟩ ?_ ?_
        · rintro j σ H3 hj ⟨u2, u3, ms, rfl, s4, hq4, hl4, hb4⟩
          have hj' : j < 5 := hj
          walk_at "rd"
          refine n_app hq4 (by rw [List.length_map]; omega) fun H5 k5 hq5 => ?_
          walk_at "rd"
          exact ⟨_, _, _, rfl, same_kp nq s4 k5, by rw [hq5, ← List.map_singleton, ← List.map_append], by rw [List.length_append]; simp; omega, snoc _ _ hb4⟩
        · rintro σ H3 ⟨u2, u3, ms, rfl, s4, hq4, hl4, hb4⟩
          exact ⟨_, _, _, ms, rfl, s4, hq4, by have : (5 : Int).toNat = 5 := rfl; omega, hb4⟩
    · rintro σ H' ⟨u1, u2, u3, ns, rfl, s2, hq2, hl2, hb2⟩
      walk_at "rd"
      exact k q ns H' nq s2 hq2 hb2
end
end Bf
namespace Bf
open PySem L2
abbrev s__law_equal : Stmt := topS 74
theorem bi__law_equal : ∀ (kV doc pm : Value) (an : Option Addr) (cdv ct : Value) (us : List Value), us.length = 2 → bindArgs (PySem.W.fnOf "_law_equal" "_law_equal" (defArgs s__law_equal) (defBody s__law_equal) (defScope s__law_equal) .none kV doc pm an cdv ct) ⟨us, []⟩ = pure ((["_law_actual", "_law_due"] : List Str).zip us) := fun _ _ _ _ _ _ us hl => match us, hl with | [_, _], _ => rfl
theorem sc__law_equal : FnScope ["_law_actual", "_law_due"] ["_law_actual", "_law_due"] (defScope s__law_equal) := C8.fnScope_by (by decide +kernel)
abbrev s__law_all_equal : Stmt := topS 75
theorem bi__law_all_equal : ∀ (kV doc pm : Value) (an : Option Addr) (cdv ct : Value) (us : List Value), us.length = 2 → bindArgs (PySem.W.fnOf "_law_all_equal" "_law_all_equal" (defArgs s__law_all_equal) (defBody s__law_all_equal) (defScope s__law_all_equal) .none kV doc pm an cdv ct) ⟨us, []⟩ = pure ((["_law_actual", "_law_due"] : List Str).zip us) := fun _ _ _ _ _ _ us hl => match us, hl with | [_, _], _ => rfl
theorem sc__law_all_equal : FnScope ["_law_actual", "_law_due", "_law_k"] ["_law_actual", "_law_due"] (defScope s__law_all_equal) := C8.fnScope_by (by decide +kernel)
theorem q_self {z : Str} {H : Hp} {Q : VK} (k : Q (.bl true) H) : Q (.bl (decide (z = z))) H := by rw [decide_eq_true rfl]; exact k
section
variable {P : Program} {w : World} {K : PySem.W.Frag} {mg : Str → Option Value} {base : Heap}
theorem cal_all0 (T : Gs mg) (F : DefAt K mg "_law_all_equal" s__law_all_equal) : C8.Cal P w K mg base 1 "_law_all_equal" (spAllEq 0) [] := by
  refine cal_of F sc__law_all_equal bi__law_all_equal (fun vs H Q E h => ?_) (fun f cdv A outer s H vs Q E hr h => ?_)
  · obtain ⟨ds, p, q, as, bs, rfl, _⟩ := h
    rfl
  · obtain ⟨ds, p, q, as, bs, rfl, _, _, _, _, hd, _⟩ := h
    exact absurd hd (Nat.not_lt_zero _)
theorem cal_allS (T : Gs mg) {k : Nat} (c__law_equal : C8.Cal P w K mg base (2 * k + 2) "_law_equal" (spEq k) []) (F : DefAt K mg "_law_all_equal" s__law_all_equal) : C8.Cal P w K mg base (2 * k + 3) "_law_all_equal" (spAllEq (k + 1)) [] := by
  refine cal_of F sc__law_all_equal bi__law_all_equal (fun vs H Q E h => ?_) (fun f cdv A outer s H vs Q E hr h => ?_)
  · obtain ⟨ds, p, q, as, bs, rfl, _⟩ := h
    rfl
  · refine ⟨_, (pss_cons (ps_for PassesOwn.never rfl (pi_range1 rfl T.n_range (pa_cons (pe_callB b_len (by rfl) T.n_len PySem.boot_len (pa_cons (pv 1) pa_nil)) pa_nil)) (pg_name (i := 2) sc__law_all_equal.nd rfl (by first | exact Or.inl rfl | exact Or.inr rfl)) (pss_one (ps_if (pt_not (pt_val (C8.pe_c c__law_equal hr (by first | decide | omega) rfl (pa_cons (pe_ix ix_seq (pv 0) (pv 2) (fun _ _ => rfl)) (pa_cons (pe_ix ix_seq (pv 1) (pv 2) (fun _ _ => rfl)) pa_nil))))) (pss_one (ps_ret pe_bl)) pss_nil)))
      (pss_one (ps_ret pe_bl))), ?_⟩
    obtain ⟨ds, p, q, as, bs, rfl, hp, hq, hra, hrb, hd, hsz, hw, kk⟩ := h
    have hal := hra.len
    have hbl := hrb.len
    have hz : sizeLine = 2 ^ 24 := rfl
    have lenq : ∀ {K : PySem.W.Frag} {Q : VK}, Q (.int bs.length) H → rLen K [.ref q] H Q := fun h => by
      rcases hq with e | e
      · exact r_lenL e h
      · exact r_lenT e h
    have ixp : ∀ {K : PySem.W.Frag} {Q : VK} {i : Nat} {v : V}, as[i]? = some v → Q v H → rIx K (.ref p) (.int i) H Q := fun h1 h2 => by
      rcases hp with e | e
      · exact r_ixL e (atI_nat h1) h2
      · exact r_ixT e (atI_nat h1) h2
    have ixq : ∀ {K : PySem.W.Frag} {Q : VK} {i : Nat} {v : V}, bs[i]? = some v → Q v H → rIx K (.ref q) (.int i) H Q := fun h1 h2 => by
      rcases hq with e | e
      · exact r_ixL e (atI_nat h1) h2
      · exact r_ixT e (atI_nat h1) h2
    walk_at "rd"
    refine lenq ?_
    walk_at "rd"
    refine n_forR (fun i σ H' => ∃ u1 : Option V, σ = [some (.ref p), some (.ref q), u1] ∧ H' = H) (by omega) ⟨_, rfl, rfl⟩ ?_ ?_
    · rintro i σ H' hi ⟨u1, rfl, rfl⟩
      have hi' : i < ds.length := by omega
      have hdi : ds[i]? = some ds[i] := List.getElem?_eq_getElem hi'
      obtain ⟨a, ha, ra⟩ := hra.get hdi
      obtain ⟨b, hb, rb⟩ := hrb.get hdi
      walk_at "rd"
      refine ixp ha ?_
      walk_at "rd"
      refine ixq hb ?_
      walk_at "rd"
      refine ⟨ds[i], a, b, rfl, ra, rb, deps_mem (by omega) hdi, wids_mem hw hdi, ?_⟩
      walk_at "rd"
      exact ⟨_, rfl, rfl⟩
    · rintro σ H' ⟨u1, rfl, rfl⟩
      walk_at "rd"
      exact kk
theorem cal_eqS (T : Gs mg) {k : Nat} (c__law_all_equal : C8.Cal P w K mg base (2 * k + 1) "_law_all_equal" (spAllEq k) []) (F : DefAt K mg "_law_equal" s__law_equal) : C8.Cal P w K mg base (2 * k + 2) "_law_equal" (spEq k) [] := by
  refine cal_of F sc__law_equal bi__law_equal (fun vs H Q E h => ?_) (fun f cdv A outer s H vs Q E hr h => ?_)
  · obtain ⟨d, a, b, rfl, _⟩ := h
    rfl
  · refine ⟨_, (pss_cons (ps_if (pt_val (pe_callB call_isi (by rfl) T.n_isinstance (by decide +kernel) (pa_cons (pv 1) (pa_cons (pe_bltn (v := .ty "list") rfl T.n_list (by decide +kernel) rfl) pa_nil)))) (pss_cons (ps_if (PW.pt (pw_or (pt_not (pt_val (pe_callB call_isi (by rfl) T.n_isinstance (by decide +kernel) (pa_cons (pv 0) (pa_cons (pe_bltn (v := .ty "list") rfl T.n_list (by decide +kernel) rfl) pa_nil))))) (pw_or1 (pt_cmpR op_ne (pe_callB b_len (by rfl) T.n_len PySem.boot_len (pa_cons (pv 0) pa_nil)) (pe_callB b_len (by rfl) T.n_len PySem.boot_len (pa_cons (pv 1) pa_nil)) (nomark _))))) (pss_one (ps_ret pe_bl)) pss_nil)
      (pss_one (ps_ret (C8.pe_c c__law_all_equal hr (by first | decide | omega) rfl (pa_cons (pv 0) (pa_cons (pv 1) pa_nil)))))) pss_nil)
      (pss_cons (ps_if (pt_val (pe_callB call_isi (by rfl) T.n_isinstance (by decide +kernel) (pa_cons (pv 1) (pa_cons (pe_bltn (v := .ty "tuple") rfl T.n_tuple (by decide +kernel) rfl) pa_nil)))) (pss_cons (ps_if (PW.pt (pw_or (pt_not (pt_val (pe_callB call_isi (by rfl) T.n_isinstance (by decide +kernel) (pa_cons (pv 0) (pa_cons (pe_bltn (v := .ty "tuple") rfl T.n_tuple (by decide +kernel) rfl) pa_nil))))) (pw_or1 (pt_cmpR op_ne (pe_callB b_len (by rfl) T.n_len PySem.boot_len (pa_cons (pv 0) pa_nil)) (pe_callB b_len (by rfl) T.n_len PySem.boot_len (pa_cons (pv 1) pa_nil)) (nomark _))))) (pss_one (ps_ret pe_bl)) pss_nil)
      (pss_one (ps_ret (C8.pe_c c__law_all_equal hr (by first | decide | omega) rfl (pa_cons (pv 0) (pa_cons (pv 1) pa_nil)))))) pss_nil)
      (pss_cons (ps_if (pt_val (pe_callB call_isi (by rfl) T.n_isinstance (by decide +kernel) (pa_cons (pv 1) (pa_cons (pe_bltn (v := .ty "bool") rfl T.n_bool (by decide +kernel) rfl) pa_nil)))) (pss_one (ps_ret (pe_and (pe_callB call_isi (by rfl) T.n_isinstance (by decide +kernel) (pa_cons (pv 0) (pa_cons (pe_bltn (v := .ty "bool") rfl T.n_bool (by decide +kernel) rfl) pa_nil))) (pe_one (pe_cmpR op_eq (pv 0) (pv 1) (nomark _)))))) pss_nil)
      (pss_cons (ps_if (pt_val (pe_callB call_isi (by rfl) T.n_isinstance (by decide +kernel) (pa_cons (pv 1) (pa_cons (pe_bltn (v := .ty "int") rfl T.n_int (by decide +kernel) rfl) pa_nil)))) (pss_one (ps_ret (pe_and (pe_callB call_isi (by rfl) T.n_isinstance (by decide +kernel) (pa_cons (pv 0) (pa_cons (pe_bltn (v := .ty "int") rfl T.n_int (by decide +kernel) rfl) pa_nil))) (pe_and (pe_not (pe_callB call_isi (by rfl) T.n_isinstance (by decide +kernel) (pa_cons (pv 0) (pa_cons (pe_bltn (v := .ty "bool") rfl T.n_bool (by decide +kernel) rfl) pa_nil)))) (pe_one (pe_cmpR op_eq (pv 0) (pv 1) (nomark _))))))) pss_nil)
      (pss_cons (ps_if (pt_val (pe_callB call_isi (by rfl) T.n_isinstance (by decide +kernel) (pa_cons (pv 1) (pa_cons (pe_bltn (v := .ty "str") rfl T.n_str (by decide +kernel) rfl) pa_nil)))) (pss_one (ps_ret (pe_and (pe_callB call_isi (by rfl) T.n_isinstance (by decide +kernel) (pa_cons (pv 0) (pa_cons (pe_bltn (v := .ty "str") rfl T.n_str (by decide +kernel) rfl) pa_nil))) (pe_one (pe_cmpR op_eq (pv 0) (pv 1) (nomark _)))))) pss_nil)
      (pss_one (ps_ret (pe_cmpR op_isN (pv 0) pe_non (nomark _))))))))), ?_⟩
    obtain ⟨d, a, b, rfl, ha, hb, hd, hw, kk⟩ := h
    cases d with
    | i n =>
      cases (show a = _ from ha)
      cases (show b = _ from hb)
      walk_at "rd"
      rw [decide_eq_true (rfl : n = n)]
      exact kk
    | s z =>
      cases (show a = _ from ha)
      cases (show b = _ from hb)
      walk_at "rd"
      exact q_self kk
    | b z =>
      cases (show a = _ from ha)
      cases (show b = _ from hb)
      walk_at "rd"
      exact ⟨rfl, by rw [decide_eq_true (rfl : V.bl z = V.bl z)]; exact kk⟩
    | non =>
      cases (show a = _ from ha)
      cases (show b = _ from hb)
      walk_at "rd"
      exact ⟨rfl, by rw [decide_eq_true (rfl : V.non = V.non)]; exact kk⟩
    | t ds =>
      obtain ⟨p, as, rfl, hp, hra⟩ := ha
      obtain ⟨q, bs, rfl, hq, hrb⟩ := hb
      have hal := hra.len
      have hbl := hrb.len
      have hlen : (as.length : Int) = bs.length := by omega
      walk_at "rd"
      have h1 : Dt.deps ds + 1 ≤ k := hd
      have h2 : max ds.length (Dt.wids ds) ≤ 1000000 := hw
      exact ⟨ds, p, q, as, bs, rfl, .inr hp, .inr hq, hra, hrb, by omega, by omega, by omega, kk⟩
    | l ds =>
      obtain ⟨p, as, rfl, hp, hra⟩ := ha
      obtain ⟨q, bs, rfl, hq, hrb⟩ := hb
      have hal := hra.len
      have hbl := hrb.len
      have hlen : (as.length : Int) = bs.length := by omega
      walk_at "rd"
      have h1 : Dt.deps ds + 1 ≤ k := hd
      have h2 : max ds.length (Dt.wids ds) ≤ 1000000 := hw
      exact ⟨ds, p, q, as, bs, rfl, .inl hp, .inl hq, hra, hrb, by omega, by omega, by omega, kk⟩
theorem cal_both (T : Gs mg) (F : DefAt K mg "_law_equal" s__law_equal) (F2 : DefAt K mg "_law_all_equal" s__law_all_equal) : ∀ k, C8.Cal P w K mg base (2 * k + 1) "_law_all_equal" (spAllEq k) []
  | 0 => cal_all0 T F2
  | k + 1 => cal_allS T (cal_eqS T (cal_both T F F2 k) F) F2
theorem cal__law_equal (T : Gs mg) (F : DefAt K mg "_law_equal" s__law_equal) (F2 : DefAt K mg "_law_all_equal" s__law_all_equal) (k : Nat) : C8.Cal P w K mg base (2 * k + 2) "_law_equal" (spEq k) [] := cal_eqS T (cal_both T F F2 k) F
end
end Bf
/-! trees: data, rows, the listing machine, costs -/
namespace Bf
open PySem
inductive Tr where
  | leaf (v : Int) | node (tb : List (List Int)) (l r : Tr)
def Tr.d : Tr → Dt
  | .leaf v => .t [.s "leaf", .i v]
  | .node tb l r => .t [.s "node", tabD tb, l.d, r.d]
def Tr.size : Tr → Nat
  | .leaf _ => 1
  | .node _ l r => l.size + r.size + 1
def Tr.dep : Tr → Nat
  | .leaf _ => 1
  | .node _ l r => max l.dep r.dep + 1
def Tr.cost (p : Nat) : Tr → Nat
  | .leaf _ => 1
  | .node _ l r => (p - 1) * (2 * (l.cost p + r.cost p) + 5)
def Tr.ok (K : Nat) : Tr → Prop
  | .leaf v => 0 ≤ v ∧ v < K
  | .node tb l r => IsTab K tb ∧ tb.length = K ∧ l.ok K ∧ r.ok K
theorem Tr.flat : ∀ t : Tr, t.d.flat = true
  | .leaf _ => rfl
  | .node tb l r => by
    show Dt.flats [.s "node", tabD tb, l.d, r.d] = true
    simp only [Dt.flats, Dt.flat, tab_flat, l.flat, r.flat, Bool.and_true]
theorem Tr.size_pos : ∀ t : Tr, 1 ≤ t.size
  | .leaf _ => Nat.le_refl _
  | .node _ l r => by unfold Tr.size; omega
theorem Tr.cost_pos {p : Nat} (hp : 2 ≤ p) : ∀ t : Tr, 1 ≤ t.cost p
  | .leaf _ => Nat.le_refl _
  | .node _ l r => by
    show 1 ≤ (p - 1) * (2 * (l.cost p + r.cost p) + 5)
    exact Nat.mul_pos (by omega) (by omega)
/-! ### rows -/
structure Row where
  t : Tr
  l : Int
  r : Int
def Row.d (x : Row) : Dt := .t [x.t.d, .i x.l, .i x.r]
theorem Row.flat (x : Row) : x.d.flat = true := by
  show Dt.flats [x.t.d, .i x.l, .i x.r] = true
  simp only [Dt.flats, Dt.flat, x.t.flat, Bool.and_true]
def Has (rows : List Row) (i : Nat) (t : Tr) : Prop := ∃ x, rows[i]? = some x ∧ x.t = t
def RowOk (K : Nat) (rows : List Row) (i : Nat) (x : Row) : Prop := x.t.ok K ∧ match x.t with
  | .leaf _ => x.l = -1 ∧ x.r = -1
  | .node _ a b => ∃ li ri : Nat, x.l = li ∧ x.r = ri ∧ li < i ∧ ri < i ∧ Has rows li a ∧ Has rows ri b
def Wf (K : Nat) (rows : List Row) : Prop := ∀ i x, rows[i]? = some x → RowOk K rows i x
theorem Has.snoc {rows : List Row} {i : Nat} {t : Tr} (h : Has rows i t) (y : Row) : Has (rows ++ [y]) i t := by
  obtain ⟨x, h1, h2⟩ := h
  exact ⟨x, by rw [List.getElem?_append_left (List.getElem?_eq_some_iff.mp h1).1]; exact h1, h2⟩
theorem RowOk.snoc {K : Nat} {rows : List Row} {i : Nat} {x : Row} (h : RowOk K rows i x) (y : Row) : RowOk K (rows ++ [y]) i x := by
  obtain ⟨h1, h2⟩ := h
  refine ⟨h1, ?_⟩
  cases e : x.t with
  | leaf v => rw [e] at h2; exact h2
  | node tb a b =>
    rw [e] at h2
    obtain ⟨li, ri, a1, a2, a3, a4, a5, a6⟩ := h2
    exact ⟨li, ri, a1, a2, a3, a4, a5.snoc y, a6.snoc y⟩
theorem Wf.snoc {K : Nat} {rows : List Row} {y : Row} (h : Wf K rows) (hy : RowOk K rows rows.length y) : Wf K (rows ++ [y]) := by
  intro i x hx
  by_cases hi : i < rows.length
  · rw [List.getElem?_append_left hi] at hx
    exact (h i x hx).snoc y
  · rw [List.getElem?_append_right (by omega)] at hx
    have e : i = rows.length := by
      have := (List.getElem?_eq_some_iff.mp hx).1
      simp at this
      omega
    subst e
    simp at hx
    subst hx
    exact hy.snoc y
theorem Wf.nil {K : Nat} : Wf K [] := fun i x h => by simp at h
/-! ### the listing machine: rows, places, tasks (top first) -/
structure Tk where
  t : Tr
  d : Int
  o : Bool
def Tk.dt (x : Tk) : Dt := .t [x.t.d, .i x.d, .b x.o]
theorem Tk.flat (x : Tk) : x.dt.flat = true := by
  show Dt.flats [x.t.d, .i x.d, .b x.o] = true
  simp only [Dt.flats, Dt.flat, x.t.flat, Bool.and_true]
inductive Safe (K : Nat) (Fin : List Row → List Int → Prop) : Nat → List Row → List Int → List Tk → Prop
  | fin {rows pl} : Fin rows pl → Safe K Fin 0 rows pl []
  | opn {n rows tb a b d l r pl todo} : rows.length < 1000 → pl.length < 1000 → Safe K Fin n (rows ++ [⟨.node tb a b, l, r⟩]) ((rows.length : Int) :: pl) todo → Safe K Fin (n + 1) rows (r :: l :: pl) (⟨.node tb a b, d, true⟩ :: todo)
  | leaf {n rows d pl todo} {v : Int} : (0 ≤ v ∧ v < (K : Int)) → d ≤ 40 → rows.length + todo.length < 200 → pl.length < 1000 → Safe K Fin n (rows ++ [⟨.leaf v, -1, -1⟩]) ((rows.length : Int) :: pl) todo → Safe K Fin (n + 1) rows pl (⟨.leaf v, d, false⟩ :: todo)
  | node {n rows tb a b d pl todo} : Tr.ok K (.node tb a b) → d ≤ 40 → rows.length + todo.length < 200 → Safe K Fin n rows pl (⟨a, d + 1, false⟩ :: ⟨b, d + 1, false⟩ :: ⟨.node tb a b, d, true⟩ :: todo) → Safe K Fin (n + 1) rows pl (⟨.node tb a b, d, false⟩ :: todo)
theorem safe_tree {K : Nat} {Fin : List Row → List Int → Prop} : ∀ (t : Tr) (rows : List Row) (pl : List Int) (todo : List Tk) (d : Int), t.ok K → Wf K rows → d + t.dep ≤ 41 → rows.length + todo.length + t.size + t.dep + pl.length ≤ 150 →
    (∀ new : List Row, Wf K (rows ++ new) → new.length = t.size → Has (rows ++ new) (rows.length + t.size - 1) t → ∃ n, Safe K Fin n (rows ++ new) (((rows.length + t.size - 1 : Nat) : Int) :: pl) todo) →
    ∃ n, Safe K Fin n rows pl (⟨t, d, false⟩ :: todo)
  | .leaf v, rows, pl, todo, d, ok, wf, hd, hs, k => by
    have e1 : (Tr.leaf v).size = 1 := rfl
    have e2 : (Tr.leaf v).dep = 1 := rfl
    rw [e1, e2] at hs
    rw [e2] at hd
    obtain ⟨n, h⟩ := k [⟨.leaf v, -1, -1⟩] (wf.snoc ⟨ok, rfl, rfl⟩) rfl ⟨⟨.leaf v, -1, -1⟩, by simp [e1], rfl⟩
    rw [e1, Nat.add_sub_cancel] at h
    have c1 : d ≤ 40 := by omega
    have c2 : rows.length + todo.length < 200 := by omega
    have c3 : pl.length < 1000 := by omega
    exact ⟨n + 1, .leaf (show 0 ≤ v ∧ v < (K : Int) from ok) c1 c2 c3 h⟩
  | .node tb a b, rows, pl, todo, d, ok, wf, hd, hs, k => by
    have e1 : (Tr.node tb a b).size = a.size + b.size + 1 := rfl
    have e2 : (Tr.node tb a b).dep = max a.dep b.dep + 1 := rfl
    rw [e1, e2] at hs
    rw [e2] at hd
    have a1 := a.size_pos
    have b1 := b.size_pos
    obtain ⟨n, h⟩ := safe_tree (Fin := Fin) a rows pl (⟨b, d + 1, false⟩ :: ⟨.node tb a b, d, true⟩ :: todo) (d + 1) ok.2.2.1 wf (by omega) (by simp only [List.length_cons]; omega) fun new wf1 hl1 has1 => by
      refine safe_tree (Fin := Fin) b (rows ++ new) _ (⟨.node tb a b, d, true⟩ :: todo) (d + 1) ok.2.2.2 wf1 (by omega) (by simp only [List.length_cons, List.length_append]; omega) fun new2 wf2 hl2 has2 => ?_
      have hA : Has (rows ++ new ++ new2) (rows.length + a.size - 1) a := by
        obtain ⟨x, h1, h2⟩ := has1
        exact ⟨x, by rw [List.getElem?_append_left (List.getElem?_eq_some_iff.mp h1).1]; exact h1, h2⟩
      have el : (rows ++ new).length + b.size - 1 = rows.length + a.size + b.size - 1 := by rw [List.length_append, hl1]
      rw [el] at has2
      have el2 : (rows ++ new ++ new2).length = rows.length + a.size + b.size := by rw [List.length_append, List.length_append, hl1, hl2]
      have rok : RowOk K (rows ++ new ++ new2) (rows ++ new ++ new2).length ⟨.node tb a b, ((rows.length + a.size - 1 : Nat) : Int), ((rows.length + a.size + b.size - 1 : Nat) : Int)⟩ :=
        ⟨ok, _, _, rfl, rfl, by omega, by omega, hA, has2⟩
      obtain ⟨m, hm⟩ := k (new ++ new2 ++ [⟨.node tb a b, ((rows.length + a.size - 1 : Nat) : Int), ((rows.length + a.size + b.size - 1 : Nat) : Int)⟩])
        (by rw [← List.append_assoc, ← List.append_assoc]; exact wf2.snoc rok) (by rw [List.length_append, List.length_append, hl1, hl2]; rfl)
        ⟨_, by
          rw [← List.append_assoc, ← List.append_assoc, e1, show rows.length + (a.size + b.size + 1) - 1 = (rows ++ new ++ new2).length by omega, List.getElem?_append_right (Nat.le_refl _), Nat.sub_self]
          rfl, rfl⟩
      refine ⟨m + 1, ?_⟩
      rw [el]
      refine .opn (by omega) (by omega) ?_
      rw [el2]
      rw [← List.append_assoc, ← List.append_assoc, e1] at hm
      rw [show rows.length + (a.size + b.size + 1) - 1 = rows.length + a.size + b.size by omega] at hm
      exact hm
    exact ⟨n + 1, .node ok (by omega) (by omega) h⟩
/-- what listed leads to -/
structure Lst (K : Nat) (T : Tr) (rows : List Row) : Prop where
  wf : Wf K rows
  len : rows.length = T.size
  last : Has rows (T.size - 1) T
theorem safe_start {K : Nat} {T : Tr} (ok : T.ok K) (hd : T.dep ≤ 40) (hs : T.size + T.dep ≤ 150) : ∃ n, Safe K (fun rows _ => Lst K T rows) n [] [] [⟨T, 1, false⟩] := by
  refine safe_tree T [] [] [] 1 ok Wf.nil (by omega) (by simp; omega) fun new wf hl has => ⟨0, .fin ⟨wf, by simpa using hl, by simpa using has⟩⟩
/-! ### costs by rows -/
def rcost (p : Nat) (x : Row) : Int := (x.t.cost p : Int)
theorem rcost_leaf {K : Nat} {p : Nat} {rows : List Row} {i : Nat} {x : Row} (wf : Wf K rows) (h : rows[i]? = some x) (hl : x.l < 0) : rcost p x = 1 := by
  have r := wf i x h
  obtain ⟨t, l, rr⟩ := x
  cases t with
  | leaf v => rfl
  | node tb a b =>
    obtain ⟨li, ri, e1, _⟩ := r.2
    have e : l = li := e1
    omega
end Bf
/-! trees: primes, compile's tasks -/
namespace Bf
open PySem
def pOf : Nat → Nat
  | 1 => 3 | 2 => 5 | 3 => 7 | 4 => 11 | 5 => 11 | _ => 3
theorem pOf_fact {K : Nat} (h1 : 1 ≤ K) (h5 : K ≤ 5) : Pr (pOf K) ∧ max 3 (2 * K) ≤ pOf K ∧ pOf K ≤ 11 ∧ K ≤ pOf K ∧ ∀ x : Int, ((max 3 (2 * K) : Nat) : Int) ≤ x → x < pOf K → ¬ Pr x := by
  have hK : K = 1 ∨ K = 2 ∨ K = 3 ∨ K = 4 ∨ K = 5 := by omega
  have ev : ∀ {x : Int}, 3 ≤ x → x % 2 = 0 → ¬ Pr x := fun h he hp => by
    have := (pr_even (by omega) he).mp hp
    omega
  rcases hK with e | e | e | e | e <;> subst e
  · exact ⟨pr_trial (n := 3) (k := 0) (by decide) (by decide), by decide, by decide, by decide, fun x h1 h2 => by
      have a1 : (3 : Int) ≤ x := h1
      have a2 : x < (3 : Int) := h2
      omega⟩
  · exact ⟨pr_trial (n := 5) (k := 1) (by decide) (by decide), by decide, by decide, by decide, fun x h1 h2 => by
      have a1 : (4 : Int) ≤ x := h1
      have a2 : x < (5 : Int) := h2
      exact ev (by omega) (by omega)⟩
  · exact ⟨pr_trial (n := 7) (k := 1) (by decide) (by decide), by decide, by decide, by decide, fun x h1 h2 => by
      have a1 : (6 : Int) ≤ x := h1
      have a2 : x < (7 : Int) := h2
      exact ev (by omega) (by omega)⟩
  · exact ⟨pr_trial (n := 11) (k := 2) (by decide) (by decide), by decide, by decide, by decide, fun x h1 h2 => by
      have a1 : (8 : Int) ≤ x := h1
      have a2 : x < (11 : Int) := h2
      by_cases h9 : x = 9
      · subst h9
        intro hp
        exact hp 3 (by decide) (by decide) (by decide)
      · exact ev (by omega) (by omega)⟩
  · exact ⟨pr_trial (n := 11) (k := 2) (by decide) (by decide), by decide, by decide, by decide, fun x h1 h2 => by
      have a1 : (10 : Int) ≤ x := h1
      have a2 : x < (11 : Int) := h2
      exact ev (by omega) (by omega)⟩
theorem atI_end {α : Type} {xs : List α} {v : α} (h : xs[xs.length - 1]? = some v) : L2.atI xs (-1) = some v := by
  have hne : xs ≠ [] := fun e => by rw [e] at h; simp at h
  have e : xs = xs.dropLast ++ [v] := by
    have h2 := List.dropLast_concat_getLast hne
    have h3 : xs.getLast hne = v := by
      rw [List.getLast_eq_getElem]
      rw [List.getElem?_eq_getElem (by have := List.length_pos_iff.mpr hne; omega)] at h
      exact Option.some.inj h
    rw [h3] at h2
    exact h2.symm
  rw [e]
  exact L2.atI_last _ _
/-! ### compile's tasks -/
inductive CT where
  | idx (T : Tr) (i t s : Int)
  | st (s : Step)
def CT.d : CT → Dt
  | .idx _ i t s => .t [.i i, .i t, .i s]
  | .st s => s.d
theorem CT.flat : ∀ x : CT, x.d.flat = true
  | .idx .. => rfl
  | .st s => step_flat s
def Tr.mes (p : Nat) : Tr → Nat
  | .leaf _ => 1
  | .node _ l r => 1 + (p - 1) * (2 * (l.mes p + r.mes p) + 5)
def CT.wt (p : Nat) : CT → Nat
  | .idx T .. => T.cost p
  | .st _ => 1
def CT.mes (p : Nat) : CT → Nat
  | .idx T .. => T.mes p
  | .st _ => 1
def sumW (p : Nat) (l : List CT) : Nat := (l.map (CT.wt p)).sum
def sumM (p : Nat) (l : List CT) : Nat := (l.map (CT.mes p)).sum
theorem sumW_cons {p : Nat} {x : CT} {l : List CT} : sumW p (x :: l) = x.wt p + sumW p l := by simp [sumW]
theorem sumM_cons {p : Nat} {x : CT} {l : List CT} : sumM p (x :: l) = x.mes p + sumM p l := by simp [sumM]
theorem sumW_app {p : Nat} {l m : List CT} : sumW p (l ++ m) = sumW p l + sumW p m := by simp [sumW]
theorem sumM_app {p : Nat} {l m : List CT} : sumM p (l ++ m) = sumM p l + sumM p m := by simp [sumM]
theorem len_le_sumW {p : Nat} (hp : 2 ≤ p) : ∀ l : List CT, l.length ≤ sumW p l
  | [] => Nat.zero_le _
  | x :: r => by
    have h1 := len_le_sumW hp r
    have h2 : 1 ≤ x.wt p := by
      cases x with
      | idx T i t s => exact T.cost_pos hp
      | st s => exact Nat.le_refl 1
    rw [sumW_cons, List.length_cons]
    omega
def Step.plain : Step → Prop
  | .add _ _ fs => fs = []
  | _ => True
def CT.ok (p : Nat) (rows : List Row) : CT → Prop
  | .idx T i t s => 0 ≤ i ∧ Has rows i.toNat T ∧ (t = 0 ∨ t = 1 ∨ t = 2) ∧ (s = 1 ∨ s = -1)
  | .st s => s.ok p 3 0 ∧ s.plain
def oA (t : Int) : Int := if t = 0 then 1 else 0
def oB (t : Int) : Int := if t = 2 then 1 else 2
noncomputable def roundT (p : Nat) (tb : List (List Int)) (a b : Tr) (li ri t s u : Int) : List CT :=
  [.st (.scale (oA t) u), .st (.scale (oB t) u), .idx a li (oA t) 1, .idx b ri (oB t) 1, .st (.table t (if s < 0 then 1 else p - 1) tb (oA t) (oB t)), .idx a li (oA t) (-1), .idx b ri (oB t) (-1), .st (.scale (oA t) (invOf u p)), .st (.scale (oB t) (invOf u p))]
theorem round_W {p : Nat} {tb : List (List Int)} {a b : Tr} {li ri t s u : Int} : sumW p (roundT p tb a b li ri t s u) = 2 * (a.cost p + b.cost p) + 5 := by
  simp [sumW, roundT, CT.wt]
  omega
theorem round_M {p : Nat} {tb : List (List Int)} {a b : Tr} {li ri t s u : Int} : sumM p (roundT p tb a b li ri t s u) = 2 * (a.mes p + b.mes p) + 5 := by
  simp [sumM, roundT, CT.mes]
  omega
theorem tab_le {K p : Nat} (h : K ≤ p) {tb : List (List Int)} (tab : IsTab K tb) : IsTab p tb := { tab with bd := fun r hr e he => by have := tab.bd r hr e he; omega }
theorem round_ok {K p : Nat} (h1 : 1 ≤ K) (hKp : K ≤ p) (p2 : 2 ≤ p) (p9 : p ≤ 1000) (hp : Pr p) {rows : List Row} {tb : List (List Int)} {a b : Tr} {li ri : Nat} {t s u : Int} (tab : IsTab K tb) (tl : tb.length = K) (ha : Has rows li a) (hb : Has rows ri b) (ht : t = 0 ∨ t = 1 ∨ t = 2) (u1 : 1 ≤ u) (u2 : u < p) :
    ∀ x ∈ roundT p tb a b li ri t s u, x.ok p rows := by
  have un : Units (p : Int) p := pr_units (by omega) hp (Int.le_refl _)
  have hg : Int.gcd u p = 1 := by
    have := un u.toNat (by omega) (by omega)
    rwa [show ((u.toNat : Nat) : Int) = u by omega] at this
  have hi := invOf_unit (m := p) (by omega) hg
  have tA : 0 ≤ oA t ∧ oA t < 3 ∧ 0 ≤ oB t ∧ oB t < 3 ∧ oA t ≠ oB t ∧ t ≠ oA t ∧ t ≠ oB t ∧ (oA t = 0 ∨ oA t = 1 ∨ oA t = 2) ∧ (oB t = 0 ∨ oB t = 1 ∨ oB t = 2) := by
    unfold oA oB
    rcases ht with e | e | e <;> subst e <;> decide
  obtain ⟨a0, a3, b0, b3, ab, ta, tb', hA, hB⟩ := tA
  have sc : ∀ c v : Int, 0 ≤ c → c < 3 → 0 ≤ v → v < p → Int.gcd v p = 1 → CT.ok p rows (.st (.scale c v)) := fun c v c0 c3 v0 v1 g => ⟨⟨⟨c0, c3⟩, ⟨v0, v1⟩, g⟩, trivial⟩
  have ix : ∀ (T : Tr) (i : Nat) (c v : Int), Has rows i T → (c = 0 ∨ c = 1 ∨ c = 2) → (v = 1 ∨ v = -1) → CT.ok p rows (.idx T i c v) := fun T i c v h1 h2 h3 => ⟨by omega, h1, h2, h3⟩
  intro x hx
  simp only [roundT, List.mem_cons, List.not_mem_nil, or_false] at hx
  rcases hx with e | e | e | e | e | e | e | e | e <;> subst e
  · exact sc _ _ a0 a3 (by omega) u2 hg
  · exact sc _ _ b0 b3 (by omega) u2 hg
  · exact ix _ _ _ _ ha hA (.inl rfl)
  · exact ix _ _ _ _ hb hB (.inl rfl)
  · refine ⟨⟨by omega, ⟨a0, a3⟩, ⟨b0, b3⟩, ta, tb', ab, ?_, tab_le hKp tab, by omega, by omega, pr_units (by omega) hp (by omega)⟩, trivial⟩
    by_cases hs : s < 0
    · rw [if_pos hs]; exact .inl rfl
    · rw [if_neg hs]; exact .inr rfl
  · exact ix _ _ _ _ ha hA (.inr rfl)
  · exact ix _ _ _ _ hb hB (.inr rfl)
  · exact sc _ _ a0 a3 hi.1 hi.2.1 (inv_gcd hi)
  · exact sc _ _ b0 b3 hi.1 hi.2.1 (inv_gcd hi)
theorem unit_gcd {p : Nat} (p2 : 2 ≤ p) (hp : Pr p) {u : Int} (u1 : 1 ≤ u) (u2 : u < p) : Int.gcd u p = 1 := by
  have := pr_units (m := p) (by omega) hp (Int.le_refl _) u.toNat (by omega) (by omega)
  rwa [show ((u.toNat : Nat) : Int) = u by omega] at this
end Bf
/-! sources: nodes, their unfolding, value, cost, the steps of a task -/
namespace Bf
open PySem
inductive Nd where
  | const (n : Int) | input (i : Nat) | sum (i j : Nat) | product (i j : Nat) | scaled (n : Int) (i : Nat) | choose (i j l : Nat)
def Nd.d : Nd → Dt
  | .const n => .t [.s "const", .i n]
  | .input i => .t [.s "input", .i i]
  | .sum i j => .t [.s "sum", .i i, .i j]
  | .product i j => .t [.s "product", .i i, .i j]
  | .scaled n i => .t [.s "scaled", .i n, .i i]
  | .choose i j l => .t [.s "choose", .i i, .i j, .i l]
theorem Nd.flat (x : Nd) : x.d.flat = true := by cases x <;> rfl
def Nd.ok (k : Nat) : Nd → Prop
  | .const n => 0 ≤ n ∧ n < 1000000000
  | .input i => i < 60
  | .sum i j => i < k ∧ j < k
  | .product i j => i < k ∧ j < k
  | .scaled n i => (0 ≤ n ∧ n < 1000000000) ∧ i < k
  | .choose i j l => i < k ∧ j < k ∧ l < k
def SrcOk (src : List Nd) : Prop := ∀ (k : Nat) (nd : Nd), src[k]? = some nd → nd.ok k
inductive Ex where
  | const (n : Int) | input (i : Nat) | sum (a b : Ex) | prod (a b : Ex) | scal (n : Int) (a : Ex) | cho (a b d : Ex)
inductive Un (src : List Nd) : Nat → Ex → Prop
  | const {k n} : src[k]? = some (.const n) → Un src k (.const n)
  | input {k i} : src[k]? = some (.input i) → Un src k (.input i)
  | sum {k i j a b} : src[k]? = some (.sum i j) → Un src i a → Un src j b → Un src k (.sum a b)
  | prod {k i j a b} : src[k]? = some (.product i j) → Un src i a → Un src j b → Un src k (.prod a b)
  | scal {k n i a} : src[k]? = some (.scaled n i) → Un src i a → Un src k (.scal n a)
  | cho {k i j l a b d} : src[k]? = some (.choose i j l) → Un src i a → Un src j b → Un src l d → Un src k (.cho a b d)
theorem un_all {src : List Nd} (h : SrcOk src) : ∀ k, k < src.length → ∃ e, Un src k e := by
  intro k
  induction k using Nat.strongRecOn with
  | ind k ih =>
    intro hk
    have e := List.getElem?_eq_getElem hk
    have ok := h k _ e
    cases hn : src[k] with
    | const n => rw [hn] at e; exact ⟨_, .const e⟩
    | input i => rw [hn] at e; exact ⟨_, .input e⟩
    | sum i j =>
      rw [hn] at e ok
      obtain ⟨a, ha⟩ := ih i ok.1 (by have := ok.1; omega)
      obtain ⟨b, hb⟩ := ih j ok.2 (by have := ok.2; omega)
      exact ⟨_, .sum e ha hb⟩
    | product i j =>
      rw [hn] at e ok
      obtain ⟨a, ha⟩ := ih i ok.1 (by have := ok.1; omega)
      obtain ⟨b, hb⟩ := ih j ok.2 (by have := ok.2; omega)
      exact ⟨_, .prod e ha hb⟩
    | scaled n i =>
      rw [hn] at e ok
      obtain ⟨a, ha⟩ := ih i ok.2 (by have := ok.2; omega)
      exact ⟨_, .scal e ha⟩
    | choose i j l =>
      rw [hn] at e ok
      obtain ⟨a, ha⟩ := ih i ok.1 (by have := ok.1; omega)
      obtain ⟨b, hb⟩ := ih j ok.2.1 (by have := ok.2.1; omega)
      obtain ⟨d, hd⟩ := ih l ok.2.2 (by have := ok.2.2; omega)
      exact ⟨_, .cho e ha hb hd⟩
theorem un_lt {src : List Nd} {k : Nat} {e : Ex} (h : Un src k e) : k < src.length := by
  cases h <;> exact (List.getElem?_eq_some_iff.mp (by assumption)).1
theorem un_one {src : List Nd} : ∀ {e e' : Ex} {k : Nat}, Un src k e → Un src k e' → e = e' := by
  intro e
  induction e with
  | const n => intro e' k h h'; cases h with | const q => cases h' <;> simp_all
  | input i => intro e' k h h'; cases h with | input q => cases h' <;> simp_all
  | sum a b iha ihb =>
    intro e' k h h'
    cases h with
    | sum q ha hb =>
      cases h' with
      | sum q' ha' hb' => rw [q] at q'; cases q'; rw [iha ha ha', ihb hb hb']
      | _ => simp_all
  | prod a b iha ihb =>
    intro e' k h h'
    cases h with
    | prod q ha hb =>
      cases h' with
      | prod q' ha' hb' => rw [q] at q'; cases q'; rw [iha ha ha', ihb hb hb']
      | _ => simp_all
  | scal n a iha =>
    intro e' k h h'
    cases h with
    | scal q ha =>
      cases h' with
      | scal q' ha' => rw [q] at q'; cases q'; rw [iha ha ha']
      | _ => simp_all
  | cho a b d iha ihb ihd =>
    intro e' k h h'
    cases h with
    | cho q ha hb hd =>
      cases h' with
      | cho q' ha' hb' hd' => rw [q] at q'; cases q'; rw [iha ha ha', ihb hb hb', ihd hd hd']
      | _ => simp_all
def Ex.val (m : Int) (g : List Int) : Ex → Int
  | .const n => n % m
  | .input i => gt g i
  | .sum a b => (a.val m g + b.val m g) % m
  | .prod a b => a.val m g * b.val m g % m
  | .scal n a => n * a.val m g % m
  | .cho a b d => (d.val m g + a.val m g * b.val m g - a.val m g * d.val m g) % m
def Ex.cost : Ex → Nat
  | .const _ => 1
  | .input _ => 1
  | .sum a b => a.cost + b.cost
  | .prod a b => 2 * (a.cost + b.cost)
  | .scal _ a => a.cost
  | .cho a b d => d.cost + 2 * (a.cost + b.cost + d.cost)
def fac : Option Int → List Fac
  | none => []
  | some u => [.cell u]
def usd (t : Int) (f : Option Int) (s : Int) : Int := match f with
  | none => 3 - t - s
  | some u => u
def stp (m : Int) : Ex → Int → Int → Option Int → Int → List Step
  | .const n, t, c, f, _ => [.add t (c * n % m) (fac f)]
  | .input i, t, c, f, _ => [.add t c (fac f ++ [.inp i])]
  | .scal n a, t, c, f, s => stp m a t (c * n % m) f s
  | .sum a b, t, c, f, s => stp m a t c f s ++ stp m b t c f s
  | .prod a b, t, c, f, s => (stp m a t (-1 * 1 * c % m) (some s) (usd t f s) ++ stp m b s (- -1 * 1 % m) f t) ++ (stp m a t (1 * 1 * c % m) (some s) (usd t f s) ++ stp m b s (-1 * 1 % m) f t)
  | .cho a b d, t, c, f, s => stp m d t c f s ++ ((stp m a t (-1 * 1 * c % m) (some s) (usd t f s) ++ (stp m b s (- -1 * 1 % m) f t ++ stp m d s (- -1 * -1 % m) f t)) ++ (stp m a t (1 * 1 * c % m) (some s) (usd t f s) ++ (stp m b s (-1 * 1 % m) f t ++ stp m d s (-1 * -1 % m) f t)))
theorem stp_len {m : Int} : ∀ (e : Ex) (t c : Int) (f : Option Int) (s : Int), (stp m e t c f s).length = e.cost
  | .const n, t, c, f, s => rfl
  | .input i, t, c, f, s => rfl
  | .scal n a, t, c, f, s => stp_len a ..
  | .sum a b, t, c, f, s => by
    rw [stp, List.length_append, stp_len a, stp_len b]; rfl
  | .prod a b, t, c, f, s => by
    rw [stp, List.length_append, List.length_append, List.length_append, stp_len a, stp_len b, stp_len a, stp_len b]
    show _ = 2 * (a.cost + b.cost)
    omega
  | .cho a b d, t, c, f, s => by
    simp only [stp, List.length_append, stp_len a, stp_len b, stp_len d]
    show _ = d.cost + 2 * (a.cost + b.cost + d.cost)
    omega
end Bf
/-! what the steps of a task do -/
namespace Bf
open PySem
structure Ok3 (t s : Int) (f : Option Int) : Prop where
  ht : t = 0 ∨ t = 1 ∨ t = 2
  hs : s = 0 ∨ s = 1 ∨ s = 2
  ts : t ≠ s
  hf : ∀ u, f = some u → (u = 0 ∨ u = 1 ∨ u = 2) ∧ u ≠ t ∧ u ≠ s
theorem Ok3.usd {t s : Int} {f : Option Int} (h : Ok3 t s f) : (usd t f s = 0 ∨ usd t f s = 1 ∨ usd t f s = 2) ∧ usd t f s ≠ t ∧ usd t f s ≠ s := by
  obtain ⟨h1, h2, h3, h4⟩ := h
  cases f with
  | none =>
    show (3 - t - s = 0 ∨ 3 - t - s = 1 ∨ 3 - t - s = 2) ∧ 3 - t - s ≠ t ∧ 3 - t - s ≠ s
    omega
  | some u => exact h4 u rfl
theorem Ok3.first {t s : Int} {f : Option Int} (h : Ok3 t s f) : Ok3 t (Bf.usd t f s) (some s) :=
  ⟨h.ht, h.usd.1, fun e => h.usd.2.1 e.symm, fun u e => by cases e; exact ⟨h.hs, fun e => h.ts e.symm, fun e => h.usd.2.2 e.symm⟩⟩
theorem Ok3.second {t s : Int} {f : Option Int} (h : Ok3 t s f) : Ok3 s t f := ⟨h.hs, h.ht, fun e => h.ts e.symm, fun u e => ⟨(h.hf u e).1, (h.hf u e).2.2, (h.hf u e).2.1⟩⟩
def Fv (mem : List Int) : Option Int → Int
  | none => 1
  | some u => gt mem u
theorem Fv_same {mem mem' : List Int} {t s : Int} {f : Option Int} (h : Ok3 t s f) {x : Int} (hx : x = t ∨ x = s) (e : ∀ j, 0 ≤ j → j ≠ x → gt mem' j = gt mem j) : Fv mem' f = Fv mem f := by
  cases f with
  | none => rfl
  | some u =>
    obtain ⟨h1, h2, h3⟩ := h.hf u rfl
    exact e u (by omega) (by rcases hx with q | q <;> subst q <;> assumption)
theorem Cg.symm {p a b : Int} (h : Cg p a b) : Cg p b a := Eq.symm h
theorem Cg.trans {p a b c : Int} (h : Cg p a b) (h2 : Cg p b c) : Cg p a c := Eq.trans h h2
theorem cg_add {m a b c d : Int} (h1 : Cg m a b) (h2 : Cg m c d) : Cg m (a + c) (b + d) := by
  unfold Cg at *
  rw [Int.add_emod, h1, h2, ← Int.add_emod]
theorem cg_of {m a b : Int} (h : a = b) : Cg m a b := by rw [h]; rfl
structure Eff (m : Int) (mem mem' : List Int) (t x : Int) : Prop where
  hm : Mem m 3 mem'
  keep : ∀ j, 0 ≤ j → j ≠ t → gt mem' j = gt mem j
  at_ : Cg m (gt mem' t) (gt mem t + x)
theorem Eff.cg {m : Int} {mem mem' : List Int} {t x y : Int} (h : Eff m mem mem' t x) (c : Cg m x y) : Eff m mem mem' t y := ⟨h.hm, h.keep, h.at_.trans (cg_add (by exact rfl) c)⟩
theorem Eff.trans {m : Int} {mem mem1 mem2 : List Int} {t x y : Int} (a : Eff m mem mem1 t x) (b : Eff m mem1 mem2 t y) : Eff m mem mem2 t (x + y) :=
  ⟨b.hm, fun j h0 h1 => (b.keep j h0 h1).trans (a.keep j h0 h1), b.at_.trans ((cg_add a.at_ (by exact rfl)).trans (cg_of (by omega)))⟩
theorem eff_add {m : Int} (m2 : 2 ≤ m) {g mem : List Int} (hM : Mem m 3 mem) {t s k : Int} {fs : List Fac} (ht : t = 0 ∨ t = 1 ∨ t = 2) : Eff m mem (perf m g mem (.add t k fs)) t (tot m mem g k fs) := by
  have hl := hM.1
  rw [perf_add]
  refine ⟨hM.set _ ⟨Int.emod_nonneg _ (by omega), Int.emod_lt_of_pos _ (by omega)⟩, fun j h0 h1 => ?_, ?_⟩
  · rw [gt_set (by omega) h0 (by omega), if_neg h1]
  · rw [gt_set (by omega) (by omega) (by omega), if_pos rfl]
    exact Int.emod_emod _ _
theorem runs_app {m : Int} {g mem : List Int} {a b : List Step} : runs m g mem (a ++ b) = runs m g (runs m g mem a) b := by
  unfold runs
  rw [List.foldl_append]
theorem tot_none {m : Int} {mem g : List Int} {k : Int} : tot m mem g k (fac none) = k := rfl
theorem tot_some {m : Int} {mem g : List Int} {k u : Int} : tot m mem g k (fac (some u)) = k * gt mem u % m := rfl
theorem cg_back {m a b : Int} (h : Cg m a b) (a0 : 0 ≤ a) (a1 : a < m) (b0 : 0 ≤ b) (b1 : b < m) : a = b := by
  unfold Cg at h
  rwa [Int.emod_eq_of_lt a0 a1, Int.emod_eq_of_lt b0 b1] at h
/-- the through-part: a's value times what changes in cell s -/
theorem eff_through {m : Int} (m2 : 2 ≤ m) {t s : Int} {f : Option Int} (h : Ok3 t s f) {va y c : Int} {mem m1 m1' m2' m3 : List Int} (hM : Mem m 3 mem)
    (e1 : Eff m mem m1 t (-1 * 1 * c % m * va * gt mem s)) (e2 : Eff m m1 m1' s y) (e3 : Eff m m1' m2' t (1 * 1 * c % m * va * gt m1' s)) (e4 : Eff m m2' m3 s (-y)) :
    Eff m mem m3 t (c * va * y) := by
  have s0 : 0 ≤ s := by have := h.hs; omega
  have t0 : 0 ≤ t := by have := h.ht; omega
  have t3 : t < 3 := by have := h.ht; omega
  have s3 : s < 3 := by have := h.hs; omega
  have hts := h.ts
  have k1s := e1.keep s s0 (fun e => hts e.symm)
  have k2t := e2.keep t t0 hts
  have k3s := e3.keep s s0 (fun e => hts e.symm)
  have k4t := e4.keep t t0 hts
  have as : Cg m (gt m3 s) (gt mem s) := by
    refine e4.at_.trans ?_
    rw [k3s]
    refine (cg_add e2.at_ (Cg.rfl' (a := -y))).trans (cg_of ?_)
    rw [k1s]
    omega
  have es : gt m3 s = gt mem s := cg_back as (gt_bd e4.hm s0 s3).1 (gt_bd e4.hm s0 s3).2 (gt_bd hM s0 s3).1 (gt_bd hM s0 s3).2
  refine ⟨e4.hm, fun j j0 jt => ?_, ?_⟩
  · by_cases js : j = s
    · rw [js]; exact es
    · rw [e4.keep j j0 js, e3.keep j j0 jt, e2.keep j j0 js, e1.keep j j0 jt]
  · rw [k4t]
    refine e3.at_.trans ?_
    rw [k2t]
    have c1 : Cg m (-1 * 1 * c % m * va * gt mem s) (-(c * va * gt mem s)) := by
      refine (Cg.mul (Cg.mul Cg.md Cg.rfl') Cg.rfl').trans (cg_of ?_)
      rw [show (-1 : Int) * 1 * c = -c by omega, Int.neg_mul, Int.neg_mul]
    have c2 : Cg m (1 * 1 * c % m * va * gt m1' s) (c * va * (gt mem s + y)) := by
      refine (Cg.mul (Cg.mul Cg.md Cg.rfl') ?_).trans (cg_of (by rw [show (1 : Int) * 1 * c = c by omega]))
      exact e2.at_.trans (cg_of (by rw [k1s]))
    refine (cg_add (e1.at_.trans (cg_add Cg.rfl' c1)) c2).trans (cg_of ?_)
    rw [Int.mul_add]
    omega
theorem stp_eff {m : Int} (m2 : 2 ≤ m) {g : List Int} : ∀ (e : Ex) (t c : Int) (f : Option Int) (s : Int) (mem : List Int), Mem m 3 mem → Ok3 t s f → Eff m mem (runs m g mem (stp m e t c f s)) t (c * e.val m g * Fv mem f)
  | .const n, t, c, f, s, mem, hM, h => by
    show Eff m mem (perf m g mem (.add t (c * n % m) (fac f))) t (c * (n % m) * Fv mem f)
    refine (eff_add m2 (s := s) hM h.ht).cg ?_
    have cn : Cg m (c * n % m) (c * (n % m)) := Cg.md.trans (Cg.mul Cg.rfl' Cg.md.symm)
    cases f with
    | none => rw [tot_none]; exact cn.trans (cg_of (Int.mul_one _).symm)
    | some u => rw [tot_some]; exact Cg.md.trans (Cg.mul cn Cg.rfl')
  | .input i, t, c, f, s, mem, hM, h => by
    show Eff m mem (perf m g mem (.add t c (fac f ++ [.inp i]))) t (c * gt g i * Fv mem f)
    refine (eff_add m2 (s := s) hM h.ht).cg ?_
    cases f with
    | none =>
      show Cg m (c * gt g i % m) (c * gt g i * 1)
      exact Cg.md.trans (cg_of (Int.mul_one _).symm)
    | some u =>
      show Cg m (c * gt mem u % m * gt g i % m) (c * gt g i * gt mem u)
      refine Cg.md.trans ((Cg.mul Cg.md Cg.rfl').trans (cg_of ?_))
      ac_rfl
  | .scal n a, t, c, f, s, mem, hM, h => by
    refine (stp_eff m2 a t (c * n % m) f s mem hM h).cg ?_
    show Cg m (c * n % m * a.val m g * Fv mem f) (c * (n * a.val m g % m) * Fv mem f)
    refine (Cg.mul (Cg.mul Cg.md Cg.rfl') Cg.rfl').trans (Cg.symm ?_)
    exact (Cg.mul (Cg.mul Cg.rfl' Cg.md) Cg.rfl').trans (cg_of (by rw [Int.mul_assoc c n]))
  | .sum a b, t, c, f, s, mem, hM, h => by
    have e1 := stp_eff m2 (g := g) a t c f s mem hM h
    have e2 := stp_eff m2 (g := g) b t c f s _ e1.hm h
    rw [Fv_same h (.inl rfl) e1.keep] at e2
    rw [stp, runs_app]
    refine (e1.trans e2).cg ?_
    show Cg m (c * a.val m g * Fv mem f + c * b.val m g * Fv mem f) (c * ((a.val m g + b.val m g) % m) * Fv mem f)
    refine Cg.symm ((Cg.mul (Cg.mul Cg.rfl' Cg.md) Cg.rfl').trans (cg_of ?_))
    rw [Int.mul_add, Int.add_mul]
  | .prod a b, t, c, f, s, mem, hM, h => by
    have e1 := stp_eff m2 (g := g) a t (-1 * 1 * c % m) (some s) (usd t f s) mem hM h.first
    have e2 := stp_eff m2 (g := g) b s (- -1 * 1 % m) f t _ e1.hm h.second
    have e3 := stp_eff m2 (g := g) a t (1 * 1 * c % m) (some s) (usd t f s) _ e2.hm h.first
    have e4 := stp_eff m2 (g := g) b s (-1 * 1 % m) f t _ e3.hm h.second
    rw [stp, runs_app, runs_app, runs_app]
    have F1 := Fv_same h (.inl rfl) e1.keep
    have F2 := Fv_same h (.inr rfl) e2.keep
    have F3 := Fv_same h (.inl rfl) e3.keep
    rw [F1] at e2
    rw [F3, F2, F1] at e4
    have c2 : Cg m (- -1 * 1 % m * b.val m g * Fv mem f) (b.val m g * Fv mem f) := (Cg.mul (Cg.mul Cg.md Cg.rfl') Cg.rfl').trans (cg_of (by rw [show (- -1 * 1 : Int) = 1 by decide, Int.one_mul]))
    have c4 : Cg m (-1 * 1 % m * b.val m g * Fv mem f) (-(b.val m g * Fv mem f)) := (Cg.mul (Cg.mul Cg.md Cg.rfl') Cg.rfl').trans (cg_of (by rw [show (-1 * 1 : Int) = -1 by decide, Int.mul_assoc, Int.neg_one_mul]))
    refine (eff_through m2 h hM e1 (e2.cg c2) e3 (e4.cg c4)).cg ?_
    show Cg m (c * a.val m g * (b.val m g * Fv mem f)) (c * (a.val m g * b.val m g % m) * Fv mem f)
    refine Cg.symm ((Cg.mul (Cg.mul Cg.rfl' Cg.md) Cg.rfl').trans (cg_of ?_))
    ac_rfl
  | .cho a b d, t, c, f, s, mem, hM, h => by
    have e0 := stp_eff m2 (g := g) d t c f s mem hM h
    have F0 := Fv_same h (.inl rfl) e0.keep
    have e1 := stp_eff m2 (g := g) a t (-1 * 1 * c % m) (some s) (usd t f s) _ e0.hm h.first
    have F1 := Fv_same h (.inl rfl) e1.keep
    have e2 := stp_eff m2 (g := g) b s (- -1 * 1 % m) f t _ e1.hm h.second
    have F2 := Fv_same h (.inr rfl) e2.keep
    have e2' := stp_eff m2 (g := g) d s (- -1 * -1 % m) f t _ e2.hm h.second
    have F2' := Fv_same h (.inr rfl) e2'.keep
    have e3 := stp_eff m2 (g := g) a t (1 * 1 * c % m) (some s) (usd t f s) _ e2'.hm h.first
    have F3 := Fv_same h (.inl rfl) e3.keep
    have e4 := stp_eff m2 (g := g) b s (-1 * 1 % m) f t _ e3.hm h.second
    have F4 := Fv_same h (.inr rfl) e4.keep
    have e4' := stp_eff m2 (g := g) d s (-1 * -1 % m) f t _ e4.hm h.second
    rw [stp, runs_app, runs_app, runs_app, runs_app, runs_app, runs_app]
    rw [F1, F0] at e2
    rw [F2, F1, F0] at e2'
    rw [F3, F2', F2, F1, F0] at e4
    rw [F4, F3, F2', F2, F1, F0] at e4'
    have one : ∀ v : Int, ∀ k : Int, Cg m (k % m * v * Fv mem f) (k * v * Fv mem f) := fun v k => Cg.mul (Cg.mul Cg.md Cg.rfl') Cg.rfl'
    have c2 : Cg m (- -1 * 1 % m * b.val m g * Fv mem f + - -1 * -1 % m * d.val m g * Fv mem f) (b.val m g * Fv mem f - d.val m g * Fv mem f) :=
      (cg_add (one _ _) (one _ _)).trans (cg_of (by rw [show (- -1 * 1 : Int) = 1 by decide, show (- -1 * -1 : Int) = -1 by decide, Int.one_mul, Int.mul_assoc (-1), Int.neg_one_mul]; omega))
    have c4 : Cg m (-1 * 1 % m * b.val m g * Fv mem f + -1 * -1 % m * d.val m g * Fv mem f) (-(b.val m g * Fv mem f - d.val m g * Fv mem f)) :=
      (cg_add (one _ _) (one _ _)).trans (cg_of (by rw [show (-1 * 1 : Int) = -1 by decide, show (-1 * -1 : Int) = 1 by decide, Int.one_mul, Int.mul_assoc (-1), Int.neg_one_mul]; omega))
    have th := eff_through m2 h e0.hm e1 ((e2.trans e2').cg c2) e3 ((e4.trans e4').cg c4)
    refine (e0.trans th).cg ?_
    show Cg m (c * d.val m g * Fv mem f + c * a.val m g * (b.val m g * Fv mem f - d.val m g * Fv mem f)) (c * ((d.val m g + a.val m g * b.val m g - a.val m g * d.val m g) % m) * Fv mem f)
    refine Cg.symm ((Cg.mul (Cg.mul Cg.rfl' Cg.md) Cg.rfl').trans (cg_of ?_))
    rw [Int.mul_sub, Int.mul_add, Int.sub_mul, Int.add_mul, Int.mul_sub]
    rw [show c * (a.val m g * b.val m g) * Fv mem f = c * a.val m g * (b.val m g * Fv mem f) by ac_rfl, show c * (a.val m g * d.val m g) * Fv mem f = c * a.val m g * (d.val m g * Fv mem f) by ac_rfl]
    omega
end Bf
namespace Bf
open PySem L2
abbrev s_is_node : Stmt := topS 48
theorem bi_is_node : ∀ (kV doc pm : Value) (an : Option Addr) (cdv ct : Value) (us : List Value), us.length = 2 → bindArgs (PySem.W.fnOf "is_node" "is_node" (defArgs s_is_node) (defBody s_is_node) (defScope s_is_node) .none kV doc pm an cdv ct) ⟨us, []⟩ = pure ((["node", "at"] : List Str).zip us) := fun _ _ _ _ _ _ us hl => match us, hl with | [_, _], _ => rfl
theorem sc_is_node : FnScope ["node", "at", "index"] ["node", "at"] (defScope s_is_node) := C8.fnScope_by (by decide +kernel)
/-- the module's table of lengths, written -/
structure LenD (K : PySem.W.Frag) (w : World) (d : Addr) : Prop where
  ex : ∃ es n, KDict K w d es n
  at_ : ∀ z k, (z, k) ∈ [(("const" : Str), (2 : Int)), ("input", 2), ("sum", 3), ("product", 3), ("scaled", 3), ("choose", 4)] → ∃ t, PySem.W.nsIn K d z = some (some (.int k t))
def spNode : Sp := fun vs H Q _ => ∃ (nd : Nd) (k : Nat) (v : V), vs = [v, .int k] ∧ Rp H nd.d v ∧ nd.ok k ∧ ∀ H', Same H H' → Q (.bl true) H'
section
variable {P : Program} {w : World} {K : PySem.W.Frag} {mg : Str → Option Value} {base : Heap}
theorem cal_is_node {d : Addr} (T : Gs mg) (L : LenD K w d) (k_LENGTHS : ∃ u, mg "LENGTHS" = some u ∧ RelV (.ref d) u) (c_is_number : C8.Cal P w K mg base 2 "is_number" spIsNum []) (F : DefAt K mg "is_node" s_is_node) : C8.Cal P w K mg base 3 "is_node" spNode [] := by
  obtain ⟨es, nn, D⟩ := L.ex
  refine cal_of F sc_is_node bi_is_node (fun vs H Q E h => ?_) (fun f cdv A outer s H vs Q E hr h => ?_)
  · obtain ⟨nd, k, v, rfl, _⟩ := h
    rfl
  · refine ⟨_, (pss_cons (ps_if (PW.pt (pw_or (pt_not (pt_val (pe_callB call_isi (by rfl) T.n_isinstance (by decide +kernel) (pa_cons (pv 0) (pa_cons (pe_bltn (v := .ty "tuple") rfl T.n_tuple (by decide +kernel) rfl) pa_nil))))) (pw_or (pt_cmpR op_lt (pe_callB b_len (by rfl) T.n_len PySem.boot_len (pa_cons (pv 0) pa_nil)) pe_int (nomark _)) (pw_or1 (pt_not (pt_val (pe_callB call_isi (by rfl) T.n_isinstance (by decide +kernel) (pa_cons (pe_ix ix_seq (pv 0) pe_int (fun _ _ => rfl)) (pa_cons (pe_bltn (v := .ty "str") rfl T.n_str (by decide +kernel) rfl) pa_nil))))))))) (pss_one (ps_ret pe_bl)) pss_nil)
      (pss_cons (ps_if (pt_cmpR op_ne (pe_kget D (C8.pe_gc rfl k_LENGTHS) (pe_ix ix_seq (pv 0) pe_int (fun _ _ => rfl)) ⟨rfl, by first | rfl | decide +kernel, rfl, rfl⟩) (pe_callB b_len (by rfl) T.n_len PySem.boot_len (pa_cons (pv 0) pa_nil)) (nomark _)) (pss_one (ps_ret pe_bl)) pss_nil)
      (pss_cons (ps_if (pt_cmpR op_eq (pe_ix ix_seq (pv 0) pe_int (fun _ _ => rfl)) pe_str (nomark _)) (pss_one (ps_ret (C8.pe_c c_is_number hr (by first | decide | omega) rfl (pa_cons (pe_ix ix_seq (pv 0) pe_int (fun _ _ => rfl)) (pa_cons (C8.pe_gc rfl T.c_CONSTANT) pa_nil))))) pss_nil)
      (pss_cons (ps_if (pt_cmpR op_eq (pe_ix ix_seq (pv 0) pe_int (fun _ _ => rfl)) pe_str (nomark _)) (pss_one (ps_ret (C8.pe_c c_is_number hr (by first | decide | omega) rfl (pa_cons (pe_ix ix_seq (pv 0) pe_int (fun _ _ => rfl)) (pa_cons (C8.pe_gc rfl T.c_INPUTS_sources) pa_nil))))) pss_nil)
      (pss_cons (ps_if (pt_cmpR op_eq (pe_ix ix_seq (pv 0) pe_int (fun _ _ => rfl)) pe_str (nomark _)) (pss_one (ps_ret (pe_and (C8.pe_c c_is_number hr (by first | decide | omega) rfl (pa_cons (pe_ix ix_seq (pv 0) pe_int (fun _ _ => rfl)) (pa_cons (C8.pe_gc rfl T.c_CONSTANT) pa_nil))) (pe_one (C8.pe_c c_is_number hr (by first | decide | omega) rfl (pa_cons (pe_ix ix_seq (pv 0) pe_int (fun _ _ => rfl)) (pa_cons (pv 1) pa_nil))))))) pss_nil)
      (pss_cons (ps_for PassesOwn.never rfl (pi_tup (pe_slice sl_tup (pv 0) (po_some pe_int) po_none)) (pg_name (i := 2) sc_is_node.nd rfl (by first | exact Or.inl rfl | exact Or.inr rfl)) (pss_one (ps_if (pt_not (pt_val (C8.pe_c c_is_number hr (by first | decide | omega) rfl (pa_cons (pv 2) (pa_cons (pv 1) pa_nil))))) (pss_one (ps_ret pe_bl)) pss_nil)))
      (pss_one (ps_ret pe_bl)))))))), ?_⟩
    obtain ⟨nd, k, v, rfl, hR, ok, q⟩ := h
    cases nd with
    | const n =>
      obtain ⟨a, _, rfl, ha, w1, _, rfl, rfl, w2, _, rfl, rfl, rfl⟩ := hR
      obtain ⟨t, ht⟩ := L.at_ "const" 2 (by simp)
      have ok' : 0 ≤ n ∧ n < 1000000000 := ok
      walk_at "rd"
      exact q H (Same.refl H)
    | input i =>
      obtain ⟨a, _, rfl, ha, w1, _, rfl, rfl, w2, _, rfl, rfl, rfl⟩ := hR
      obtain ⟨t, ht⟩ := L.at_ "input" 2 (by simp)
      have ok' : 0 ≤ (i : Int) ∧ (i : Int) < 60 := ⟨by omega, by have : i < 60 := ok; omega⟩
      walk_at "rd"
      exact q H (Same.refl H)
    | scaled n i =>
      obtain ⟨a, _, rfl, ha, w1, _, rfl, rfl, w2, _, rfl, rfl, w3, _, rfl, rfl, rfl⟩ := hR
      obtain ⟨t, ht⟩ := L.at_ "scaled" 3 (by simp)
      obtain ⟨ok1, ok2⟩ : (0 ≤ n ∧ n < 1000000000) ∧ i < k := ok
      have ok' : 0 ≤ (i : Int) ∧ (i : Int) < k := ⟨by omega, by omega⟩
      walk_at "rd"
      exact q H (Same.refl H)
    | sum i j =>
      obtain ⟨a, _, rfl, ha, w1, _, rfl, rfl, w2, _, rfl, rfl, w3, _, rfl, rfl, rfl⟩ := hR
      obtain ⟨t, ht⟩ := L.at_ "sum" 3 (by simp)
      obtain ⟨ok1, ok2⟩ : i < k ∧ j < k := ok
      have all : ∀ x ∈ [i, j], x < k := by simp; exact ⟨ok1, ok2⟩
      have el : [V.int i, .int j] = [i, j].map (fun x : Nat => V.int x) := rfl
      generalize hl : [i, j] = l at all el
      walk_at "rd"
      refine n_slT ha (fun z => absurd (show (1 : Nat) = 0 from z.1) (by decide)) ((cut_from (by decide)).trans el) fun r H1 nr s1 hr1 => ?_
      walk_at "rd"
      refine n_forT (fun c σ H' => ∃ u : Option V, σ = [some (.ref a), some (.int k), u] ∧ H' = H1) hr1 ⟨_, rfl, rfl⟩ (fun c σ H' _ h => by obtain ⟨_, _, rfl⟩ := h; exact hr1) ?_ ?_
      · rintro c x σ H' hx ⟨u, rfl, rfl⟩
        obtain ⟨y, hy, rfl⟩ := map_at hx
        have hyk := all y (List.mem_of_getElem? hy)
        have ok' : 0 ≤ (y : Int) ∧ (y : Int) < k := ⟨by omega, by omega⟩
        walk_at "rd"
        exact ⟨_, rfl, rfl⟩
      · rintro σ H' ⟨u, rfl, rfl⟩
        walk_at "rd"
        exact q _ s1
    | product i j =>
      obtain ⟨a, _, rfl, ha, w1, _, rfl, rfl, w2, _, rfl, rfl, w3, _, rfl, rfl, rfl⟩ := hR
      obtain ⟨t, ht⟩ := L.at_ "product" 3 (by simp)
      obtain ⟨ok1, ok2⟩ : i < k ∧ j < k := ok
      have all : ∀ x ∈ [i, j], x < k := by simp; exact ⟨ok1, ok2⟩
      have el : [V.int i, .int j] = [i, j].map (fun x : Nat => V.int x) := rfl
      generalize hl : [i, j] = l at all el
      walk_at "rd"
      refine n_slT ha (fun z => absurd (show (1 : Nat) = 0 from z.1) (by decide)) ((cut_from (by decide)).trans el) fun r H1 nr s1 hr1 => ?_
      walk_at "rd"
      refine n_forT (fun c σ H' => ∃ u : Option V, σ = [some (.ref a), some (.int k), u] ∧ H' = H1) hr1 ⟨_, rfl, rfl⟩ (fun c σ H' _ h => by obtain ⟨_, _, rfl⟩ := h; exact hr1) ?_ ?_
      · rintro c x σ H' hx ⟨u, rfl, rfl⟩
        obtain ⟨y, hy, rfl⟩ := map_at hx
        have hyk := all y (List.mem_of_getElem? hy)
        have ok' : 0 ≤ (y : Int) ∧ (y : Int) < k := ⟨by omega, by omega⟩
        walk_at "rd"
        exact ⟨_, rfl, rfl⟩
      · rintro σ H' ⟨u, rfl, rfl⟩
        walk_at "rd"
        exact q _ s1
    | choose i j m =>
      obtain ⟨a, _, rfl, ha, w1, _, rfl, rfl, w2, _, rfl, rfl, w3, _, rfl, rfl, w4, _, rfl, rfl, rfl⟩ := hR
      obtain ⟨t, ht⟩ := L.at_ "choose" 4 (by simp)
      obtain ⟨ok1, ok2, ok3⟩ : i < k ∧ j < k ∧ m < k := ok
      have all : ∀ x ∈ [i, j, m], x < k := by simp; exact ⟨ok1, ok2, ok3⟩
      have el : [V.int i, .int j, .int m] = [i, j, m].map (fun x : Nat => V.int x) := rfl
      generalize hl : [i, j, m] = l at all el
      walk_at "rd"
      refine n_slT ha (fun z => absurd (show (1 : Nat) = 0 from z.1) (by decide)) ((cut_from (by decide)).trans el) fun r H1 nr s1 hr1 => ?_
      walk_at "rd"
      refine n_forT (fun c σ H' => ∃ u : Option V, σ = [some (.ref a), some (.int k), u] ∧ H' = H1) hr1 ⟨_, rfl, rfl⟩ (fun c σ H' _ h => by obtain ⟨_, _, rfl⟩ := h; exact hr1) ?_ ?_
      · rintro c x σ H' hx ⟨u, rfl, rfl⟩
        obtain ⟨y, hy, rfl⟩ := map_at hx
        have hyk := all y (List.mem_of_getElem? hy)
        have ok' : 0 ≤ (y : Int) ∧ (y : Int) < k := ⟨by omega, by omega⟩
        walk_at "rd"
        exact ⟨_, rfl, rfl⟩
      · rintro σ H' ⟨u, rfl, rfl⟩
        walk_at "rd"
        exact q _ s1
end
end Bf
namespace Bf
open PySem L2
abbrev s_check_source : Stmt := topS 49
theorem bi_check_source : ∀ (kV doc pm : Value) (an : Option Addr) (cdv ct : Value) (us : List Value), us.length = 1 → bindArgs (PySem.W.fnOf "check_source" "check_source" (defArgs s_check_source) (defBody s_check_source) (defScope s_check_source) .none kV doc pm an cdv ct) ⟨us, []⟩ = pure ((["source"] : List Str).zip us) := fun _ _ _ _ _ _ us hl => match us, hl with | [_], _ => rfl
theorem sc_check_source : FnScope ["source", "at", "node"] ["source"] (defScope s_check_source) := C8.fnScope_by (by decide +kernel)
abbrev s_needs : Stmt := topS 50
theorem bi_needs : ∀ (kV doc pm : Value) (an : Option Addr) (cdv ct : Value) (us : List Value), us.length = 1 → bindArgs (PySem.W.fnOf "needs" "needs" (defArgs s_needs) (defBody s_needs) (defScope s_needs) .none kV doc pm an cdv ct) ⟨us, []⟩ = pure ((["source"] : List Str).zip us) := fun _ _ _ _ _ _ us hl => match us, hl with | [_], _ => rfl
theorem sc_needs : FnScope ["source", "many", "node"] ["source"] (defScope s_needs) := C8.fnScope_by (by decide +kernel)
def srcD (src : List Nd) : Dt := .t (src.map Nd.d)
def needF (m : Int) : Nd → Int
  | .input i => max m (i + 1)
  | _ => m
def needN (src : List Nd) : Int := src.foldl needF 0
def spCheckSrc : Sp := fun vs H Q _ => ∃ (src : List Nd) (v : V), vs = [v] ∧ Rp H (srcD src) v ∧ SrcOk src ∧ 1 ≤ src.length ∧ src.length ≤ 200 ∧ ∀ H', Same H H' → Q .non H'
def spNeeds : Sp := fun vs H Q _ => ∃ (src : List Nd) (v : V), vs = [v] ∧ Rp H (srcD src) v ∧ SrcOk src ∧ 1 ≤ src.length ∧ src.length ≤ 200 ∧ ∀ H', Same H H' → Q (.int (needN src)) H'
section
variable {P : Program} {w : World} {K : PySem.W.Frag} {mg : Str → Option Value} {base : Heap}
theorem cal_check_source (T : Gs mg) (c_is_node : C8.Cal P w K mg base 3 "is_node" spNode []) (F : DefAt K mg "check_source" s_check_source) : C8.Cal P w K mg base 4 "check_source" spCheckSrc [] := by
  refine cal_of F sc_check_source bi_check_source (fun vs H Q E h => ?_) (fun f cdv A outer s H vs Q E hr h => ?_)
  · obtain ⟨src, v, rfl, _⟩ := h
    rfl
  · refine ⟨_, (pss_cons (ps_if (PW.pt (pw_or (pt_not (pt_val (pe_callB call_isi (by rfl) T.n_isinstance (by decide +kernel) (pa_cons (pv 0) (pa_cons (pe_bltn (v := .ty "tuple") rfl T.n_tuple (by decide +kernel) rfl) pa_nil))))) (pw_or1 (pt_not (pt_chain op_le op_le pe_int (pe_callB b_len (by rfl) T.n_len PySem.boot_len (pa_cons (pv 0) pa_nil)) (C8.pe_gc rfl T.c_NODES)))))) (pss_one (ps_never)) pss_nil)
      (pss_one (ps_for PassesOwn.never rfl (pi_enumT (by rfl) T.n_enumerate (pa_cons (pv 0) pa_nil)) (pg_tup rfl (pgs_cons (pg_name (i := 1) sc_check_source.nd rfl (by first | exact Or.inl rfl | exact Or.inr rfl)) (pgs_cons (pg_name (i := 2) sc_check_source.nd rfl (by first | exact Or.inl rfl | exact Or.inr rfl)) pgs_nil))) (pss_one (ps_if (pt_not (pt_val (C8.pe_c c_is_node hr (by first | decide | omega) rfl (pa_cons (pv 2) (pa_cons (pv 1) pa_nil))))) (pss_one (ps_never)) pss_nil))))), ?_⟩
    obtain ⟨src, v, rfl, ⟨a, ws, rfl, ha, hws⟩, ok, l1, l2, q⟩ := h
    have hl := hws.len
    rw [List.length_map] at hl
    walk_at "rd"
    refine n_forE (fun i σ H' => ∃ u1 u2 : Option V, σ = [some (.ref a), u1, u2] ∧ Same H H') ha ⟨_, _, rfl, Same.refl H⟩ (fun i σ H' h => by obtain ⟨_, _, _, s1⟩ := h; exact s1 _ _ ha) ?_ ?_
    · rintro i x T' σ H1 H2 hx ⟨u1, u2, rfl, s1⟩ nT s2 hT
      obtain ⟨df, hdf, hfv⟩ := hws.at hx
      obtain ⟨nd, hnd, rfl⟩ := Option.map_eq_some_iff.mp (by rwa [List.getElem?_map] at hdf)
      have s12 := s1.trans s2
      walk_at "rd"
      refine ⟨nd, i, x, rfl, hfv.same s12, ok i nd hnd, fun H3 s3 => ?_⟩
      walk_at "rd"
      exact ⟨_, _, rfl, s12.trans s3⟩
    · rintro σ H1 ⟨u1, u2, rfl, s1⟩
      walk_at "rd"
      exact q _ s1
theorem cal_needs (T : Gs mg) (c_check_source : C8.Cal P w K mg base 4 "check_source" spCheckSrc []) (F : DefAt K mg "needs" s_needs) : C8.Cal P w K mg base 5 "needs" spNeeds [] := by
  refine cal_of F sc_needs bi_needs (fun vs H Q E h => ?_) (fun f cdv A outer s H vs Q E hr h => ?_)
  · obtain ⟨src, v, rfl, _⟩ := h
    rfl
  · refine ⟨_, (pss_cons (ps_expr (C8.pe_c c_check_source hr (by first | decide | omega) rfl (pa_cons (pv 0) pa_nil)))
      (pss_cons (ps_set (i := 1) sc_needs.nd rfl (by first | exact Or.inl rfl | exact Or.inr rfl) pe_int)
      (pss_cons (ps_for PassesOwn.never rfl (pi_tup (pv 0)) (pg_name (i := 2) sc_needs.nd rfl (by first | exact Or.inl rfl | exact Or.inr rfl)) (pss_one (ps_if (pt_cmpR op_eq (pe_ix ix_seq (pv 2) pe_int (fun _ _ => rfl)) pe_str (nomark _)) (pss_one (ps_set (i := 1) sc_needs.nd rfl (by first | exact Or.inl rfl | exact Or.inr rfl) (pe_callB (b_max2 rfl) (by rfl) T.n_max (by decide +kernel) (pa_cons (pv 1) (pa_cons (pe_op op_add (pe_ix ix_seq (pv 2) pe_int (fun _ _ => rfl)) pe_int) pa_nil))))) pss_nil)))
      (pss_one (ps_ret (pv 1)))))), ?_⟩
    obtain ⟨src, v, rfl, hR, ok, l1, l2, q⟩ := h
    have hR0 := hR
    obtain ⟨a, ws, rfl, ha, hws⟩ := hR
    have hl := hws.len
    rw [List.length_map] at hl
    walk_at "rd"
    refine ⟨src, _, rfl, hR0, ok, l1, l2, fun H1 s1 => ?_⟩
    replace ha := s1 _ _ ha
    replace hws := hws.same s1
    walk_at "rd"
    refine n_forT (fun i σ H' => ∃ u2 : Option V, σ = [some (.ref a), some (.int ((src.take i).foldl needF 0)), u2] ∧ H' = H1) ha ⟨_, rfl, rfl⟩ (fun i σ H' _ h => by obtain ⟨_, _, rfl⟩ := h; exact ha) ?_ ?_
    · rintro i x σ H' hx ⟨u2, rfl, rfl⟩
      obtain ⟨df, hdf, hfv⟩ := hws.at hx
      obtain ⟨nd, hnd, rfl⟩ := Option.map_eq_some_iff.mp (by rwa [List.getElem?_map] at hdf)
      have e : (src.take (i + 1)).foldl needF 0 = needF ((src.take i).foldl needF 0) nd := foldl_take _ _ hnd
      cases nd with
      | input j =>
        obtain ⟨b, _, rfl, hb, w1, _, rfl, rfl, w2, _, rfl, rfl, rfl⟩ := hfv
        walk_at "rd"
        exact ⟨_, by rw [e]; rfl, rfl⟩
      | const n =>
        obtain ⟨b, _, rfl, hb, w1, _, rfl, rfl, w2, _, rfl, rfl, rfl⟩ := hfv
        walk_at "rd"
        exact ⟨_, by rw [e]; rfl, rfl⟩
      | scaled n j =>
        obtain ⟨b, _, rfl, hb, w1, _, rfl, rfl, w2, _, rfl, rfl, w3, _, rfl, rfl, rfl⟩ := hfv
        walk_at "rd"
        exact ⟨_, by rw [e]; rfl, rfl⟩
      | sum n j =>
        obtain ⟨b, _, rfl, hb, w1, _, rfl, rfl, w2, _, rfl, rfl, w3, _, rfl, rfl, rfl⟩ := hfv
        walk_at "rd"
        exact ⟨_, by rw [e]; rfl, rfl⟩
      | product n j =>
        obtain ⟨b, _, rfl, hb, w1, _, rfl, rfl, w2, _, rfl, rfl, w3, _, rfl, rfl, rfl⟩ := hfv
        walk_at "rd"
        exact ⟨_, by rw [e]; rfl, rfl⟩
      | choose n j l =>
        obtain ⟨b, _, rfl, hb, w1, _, rfl, rfl, w2, _, rfl, rfl, w3, _, rfl, rfl, w4, _, rfl, rfl, rfl⟩ := hfv
        walk_at "rd"
        exact ⟨_, by rw [e]; rfl, rfl⟩
    · rintro σ H' ⟨u2, rfl, rfl⟩
      rw [hl, List.take_length]
      walk_at "rd"
      exact q _ s1
end
end Bf
namespace Bf
open PySem L2
abbrev s_cost : Stmt := topS 51
theorem bi_cost : ∀ (kV doc pm : Value) (an : Option Addr) (cdv ct : Value) (us : List Value), us.length = 1 → bindArgs (PySem.W.fnOf "cost" "cost" (defArgs s_cost) (defBody s_cost) (defScope s_cost) .none kV doc pm an cdv ct) ⟨us, []⟩ = pure ((["source"] : List Str).zip us) := fun _ _ _ _ _ _ us hl => match us, hl with | [_], _ => rfl
theorem sc_cost : FnScope ["source", "costs", "node", "third"] ["source"] (defScope s_cost) := C8.fnScope_by (by decide +kernel)
theorem un_take {src : List Nd} {k : Nat} {e : Ex} (h : Un src k e) : k < src.length := un_lt h
def spSrcCost : Sp := fun vs H Q _ => ∃ (src : List Nd) (e : Ex) (v : V), vs = [v] ∧ Rp H (srcD src) v ∧ SrcOk src ∧ 1 ≤ src.length ∧ src.length ≤ 200 ∧ Un src (src.length - 1) e ∧ ∀ H', Same H H' → Q (.int e.cost) H'
section
variable {P : Program} {w : World} {K : PySem.W.Frag} {mg : Str → Option Value} {base : Heap}
theorem cal_cost (T : Gs mg) (c_check_source : C8.Cal P w K mg base 4 "check_source" spCheckSrc []) (F : DefAt K mg "cost" s_cost) : C8.Cal P w K mg base 5 "cost" spSrcCost [] := by
  refine cal_of F sc_cost bi_cost (fun vs H Q E h => ?_) (fun f cdv A outer s H vs Q E hr h => ?_)
  · obtain ⟨src, e, v, rfl, _⟩ := h
    rfl
  · refine ⟨_, (pss_cons (ps_expr (C8.pe_c c_check_source hr (by first | decide | omega) rfl (pa_cons (pv 0) pa_nil)))
      (pss_cons (ps_set (i := 1) sc_cost.nd rfl (by first | exact Or.inl rfl | exact Or.inr rfl) (pe_lst pa_nil))
      (pss_cons (ps_for PassesOwn.never rfl (pi_tup (pv 0)) (pg_name (i := 2) sc_cost.nd rfl (by first | exact Or.inl rfl | exact Or.inr rfl)) (pss_one (ps_if (PW.pt (pw_or (pt_cmpR op_eq (pe_ix ix_seq (pv 2) pe_int (fun _ _ => rfl)) pe_str (nomark _)) (pw_or1 (pt_cmpR op_eq (pe_ix ix_seq (pv 2) pe_int (fun _ _ => rfl)) pe_str (nomark _))))) (pss_one (ps_expr (pe_bm PySem.F.plainAttrs_list PySem.F.slot_list_append PySem.F.type_list_append mt_append (pv 1) (pa_cons pe_int pa_nil)))) (pss_one (ps_if (pt_cmpR op_eq (pe_ix ix_seq (pv 2) pe_int (fun _ _ => rfl)) pe_str (nomark _)) (pss_one (ps_expr (pe_bm PySem.F.plainAttrs_list PySem.F.slot_list_append PySem.F.type_list_append mt_append (pv 1) (pa_cons (pe_ix ix_seq (pv 1) (pe_ix ix_seq (pv 2) pe_int (fun _ _ => rfl)) (fun _ _ => rfl)) pa_nil)))) (pss_one (ps_if (pt_cmpR op_eq (pe_ix ix_seq (pv 2) pe_int (fun _ _ => rfl)) pe_str (nomark _)) (pss_one (ps_expr (pe_bm PySem.F.plainAttrs_list PySem.F.slot_list_append PySem.F.type_list_append mt_append (pv 1) (pa_cons (pe_op op_add (pe_ix ix_seq (pv 1) (pe_ix ix_seq (pv 2) pe_int (fun _ _ => rfl)) (fun _ _ => rfl)) (pe_ix ix_seq (pv 1) (pe_ix ix_seq (pv 2) pe_int (fun _ _ => rfl)) (fun _ _ => rfl))) pa_nil)))) (pss_one (ps_if (pt_cmpR op_eq (pe_ix ix_seq (pv 2) pe_int (fun _ _ => rfl)) pe_str (nomark _)) (pss_one (ps_expr (pe_bm PySem.F.plainAttrs_list PySem.F.slot_list_append PySem.F.type_list_append mt_append (pv 1) (pa_cons (pe_op op_mul pe_int (pe_op op_add (pe_ix ix_seq (pv 1) (pe_ix ix_seq (pv 2) pe_int (fun _ _ => rfl)) (fun _ _ => rfl)) (pe_ix ix_seq (pv 1) (pe_ix ix_seq (pv 2) pe_int (fun _ _ => rfl)) (fun _ _ => rfl)))) pa_nil)))) (pss_cons (ps_set (i := 3) sc_cost.nd rfl (by first | exact Or.inl rfl | exact Or.inr rfl) (pe_ix ix_seq (pv 1) (pe_ix ix_seq (pv 2) pe_int (fun _ _ => rfl)) (fun _ _ => rfl)))
      (pss_one (ps_expr (pe_bm PySem.F.plainAttrs_list PySem.F.slot_list_append PySem.F.type_list_append mt_append (pv 1) (pa_cons (pe_op op_add (pv 3) (pe_op op_mul pe_int (pe_op op_add (pe_op op_add (pe_ix ix_seq (pv 1) (pe_ix ix_seq (pv 2) pe_int (fun _ _ => rfl)) (fun _ _ => rfl)) (pe_ix ix_seq (pv 1) (pe_ix ix_seq (pv 2) pe_int (fun _ _ => rfl)) (fun _ _ => rfl))) (pv 3)))) pa_nil))))))))))))))
      (pss_one (ps_ret (pe_ix ix_seq (pv 1) (pe_un un_neg pe_int) (fun _ _ => rfl))))))), ?_⟩
    obtain ⟨src, e, v, rfl, hR, ok, l1, l2, un, q⟩ := h
    have hR0 := hR
    obtain ⟨a, ws, rfl, ha, hws⟩ := hR
    have hl := hws.len
    rw [List.length_map] at hl
    have hsz : sizeLine = 2 ^ 24 := rfl
    walk_at "rd"
    refine ⟨src, _, rfl, hR0, ok, l1, l2, fun H1 s1 => ?_⟩
    replace ha := s1 _ _ ha
    replace hws := hws.same s1
    walk_at "rd"
    refine n_lst (by decide) fun c H2 nc s2 hc => ?_
    have nc0 := none_of_same s1 nc
    have s12 := s1.trans s2
    walk_at "rd"
    refine n_forT (fun i σ H' => ∃ (u2 u3 : Option V) (cs : List Int), σ = [some (.ref a), some (.ref c), u2, u3] ∧ Same H1 H' ∧ H' c = some (.lst (cs.map V.int)) ∧ cs.length = i ∧ ∀ (j : Nat) (x : Ex), j < i → Un src j x → cs[j]? = some (x.cost : Int)) (s2 _ _ ha) ⟨_, _, [], rfl, s2, hc, rfl, fun j x h => absurd h (Nat.not_lt_zero _)⟩ (fun i σ H' _ h => by obtain ⟨_, _, _, _, s3, _⟩ := h; exact s3 _ _ ha) ?_ ?_
    · rintro i x σ H3 hx ⟨u2, u3, cs, rfl, s3, hc3, hcl, hcs⟩
      obtain ⟨df, hdf, hfv⟩ := hws.at hx
      obtain ⟨nd, hnd, rfl⟩ := Option.map_eq_some_iff.mp (by rwa [List.getElem?_map] at hdf)
      replace hfv := hfv.same s3
      have hil : i < src.length := (List.getElem?_eq_some_iff.mp hnd).1
      have hok := ok i nd hnd
      have hlen : (cs.map V.int).length < sizeLine := by rw [List.length_map]; omega
      have at_ : ∀ (j : Nat) (x : Ex), j < i → Un src j x → (cs.map V.int)[j]? = some (.int x.cost) := fun j x h1 h2 => by rw [List.getElem?_map, hcs j x h1 h2]; rfl
      have fin : ∀ (z : Int), (∀ x, Un src i x → z = x.cost) → ∀ (j : Nat) (x : Ex), j < i + 1 → Un src j x → (cs ++ [z])[j]? = some (x.cost : Int) := fun z hz j x h1 h2 => by
        by_cases e : j = i
        · subst e
          rw [List.getElem?_append_right (by omega), hcl, Nat.sub_self, hz x h2]
          rfl
        · rw [List.getElem?_append_left (by omega)]
          exact hcs j x (by omega) h2
      have ex_ : ∀ j, j < i → ∃ x, Un src j x := fun j h => un_all ok j (by omega)
      cases nd with
      | const n =>
        obtain ⟨b, _, rfl, hb, w1, _, rfl, rfl, w2, _, rfl, rfl, rfl⟩ := hfv
        walk_at "rd"
        refine n_app hc3 hlen fun H5 k5 h5 => ?_
        walk_at "rd"
        exact ⟨_, _, cs ++ [1], rfl, same_kp nc s3 k5, by rw [h5, List.map_append]; rfl, by rw [List.length_append, hcl]; rfl, fin _ fun x h => by rw [un_one h (.const hnd)]; rfl⟩
      | input j =>
        obtain ⟨b, _, rfl, hb, w1, _, rfl, rfl, w2, _, rfl, rfl, rfl⟩ := hfv
        walk_at "rd"
        refine n_app hc3 hlen fun H5 k5 h5 => ?_
        walk_at "rd"
        exact ⟨_, _, cs ++ [1], rfl, same_kp nc s3 k5, by rw [h5, List.map_append]; rfl, by rw [List.length_append, hcl]; rfl, fin _ fun x h => by rw [un_one h (.input hnd)]; rfl⟩
      | scaled n j =>
        obtain ⟨b, _, rfl, hb, w1, _, rfl, rfl, w2, _, rfl, rfl, w3, _, rfl, rfl, rfl⟩ := hfv
        obtain ⟨x1, u1⟩ := ex_ j hok.2
        walk_at "rd"
        refine r_ixL hc3 (atI_nat (at_ j x1 hok.2 u1)) ?_
        refine n_app hc3 hlen fun H5 k5 h5 => ?_
        walk_at "rd"
        exact ⟨_, _, cs ++ [(x1.cost : Int)], rfl, same_kp nc s3 k5, by rw [h5, List.map_append]; rfl, by rw [List.length_append, hcl]; rfl, fin _ fun x h => by rw [un_one h (.scal hnd u1)]; rfl⟩
      | sum j1 j2 =>
        obtain ⟨b, _, rfl, hb, w1, _, rfl, rfl, w2, _, rfl, rfl, w3, _, rfl, rfl, rfl⟩ := hfv
        obtain ⟨x1, u1⟩ := ex_ j1 hok.1
        obtain ⟨x2, u2⟩ := ex_ j2 hok.2
        walk_at "rd"
        refine r_ixL hc3 (atI_nat (at_ j1 x1 hok.1 u1)) ?_
        walk_at "rd"
        refine r_ixL hc3 (atI_nat (at_ j2 x2 hok.2 u2)) ?_
        walk_at "rd"
        refine n_app hc3 hlen fun H5 k5 h5 => ?_
        walk_at "rd"
        exact ⟨_, _, cs ++ [(x1.cost : Int) + x2.cost], rfl, same_kp nc s3 k5, by rw [h5, List.map_append]; rfl, by rw [List.length_append, hcl]; rfl, fin _ fun x h => by rw [un_one h (.sum hnd u1 u2)]; rfl⟩
      | product j1 j2 =>
        obtain ⟨b, _, rfl, hb, w1, _, rfl, rfl, w2, _, rfl, rfl, w3, _, rfl, rfl, rfl⟩ := hfv
        obtain ⟨x1, u1⟩ := ex_ j1 hok.1
        obtain ⟨x2, u2⟩ := ex_ j2 hok.2
        walk_at "rd"
        refine r_ixL hc3 (atI_nat (at_ j1 x1 hok.1 u1)) ?_
        walk_at "rd"
        refine r_ixL hc3 (atI_nat (at_ j2 x2 hok.2 u2)) ?_
        walk_at "rd"
        refine n_app hc3 hlen fun H5 k5 h5 => ?_
        walk_at "rd"
        exact ⟨_, _, cs ++ [2 * ((x1.cost : Int) + x2.cost)], rfl, same_kp nc s3 k5, by rw [h5, List.map_append]; rfl, by rw [List.length_append, hcl]; rfl, fin _ fun x h => by rw [un_one h (.prod hnd u1 u2)]; rfl⟩
      | choose j1 j2 j3 =>
        obtain ⟨b, _, rfl, hb, w1, _, rfl, rfl, w2, _, rfl, rfl, w3, _, rfl, rfl, w4, _, rfl, rfl, rfl⟩ := hfv
        obtain ⟨x1, u1⟩ := ex_ j1 hok.1
        obtain ⟨x2, u2⟩ := ex_ j2 hok.2.1
        obtain ⟨x3, u3⟩ := ex_ j3 hok.2.2
        walk_at "rd"
        refine r_ixL hc3 (atI_nat (at_ j3 x3 hok.2.2 u3)) ?_
        walk_at "rd"
        refine r_ixL hc3 (atI_nat (at_ j1 x1 hok.1 u1)) ?_
        walk_at "rd"
        refine r_ixL hc3 (atI_nat (at_ j2 x2 hok.2.1 u2)) ?_
        walk_at "rd"
        refine n_app hc3 hlen fun H5 k5 h5 => ?_
        walk_at "rd"
        exact ⟨_, _, cs ++ [(x3.cost : Int) + 2 * ((x1.cost : Int) + x2.cost + x3.cost)], rfl, same_kp nc s3 k5, by rw [h5, List.map_append]; rfl, by rw [List.length_append, hcl]; rfl, fin _ fun x h => by rw [un_one h (.cho hnd u1 u2 u3)]; rfl⟩
    · rintro σ H3 ⟨u2, u3, cs, rfl, s3, hc3, hcl, hcs⟩
      walk_at "rd"
      refine r_ixL hc3 (atI_end (v := .int e.cost) ?_) ?_
      · rw [List.length_map, hcl, hl, List.getElem?_map, hcs (src.length - 1) e (by omega) un]
        rfl
      · exact q _ (s1.trans s3)
end
end Bf
/-! tasks of compile_source as data -/
namespace Bf
open PySem
structure Tq where
  i : Nat
  t : Int
  c : Int
  f : Option Int
  s : Int
def facD (f : Option Int) : Dt := .t ((fac f).map Fac.d)
def Tq.d (x : Tq) : Dt := .t [.i x.i, .i x.t, .i x.c, facD x.f, .i x.s]
theorem facD_flat (f : Option Int) : (facD f).flat = true := by cases f <;> rfl
theorem Tq.flat (x : Tq) : x.d.flat = true := by
  show Dt.flats [.i x.i, .i x.t, .i x.c, facD x.f, .i x.s] = true
  simp only [Dt.flats, Dt.flat, facD_flat, Bool.and_true]
/-- product_tasks: the two passes -/
def passT (m : Int) (sign : Int) (first second : List (Int × Nat)) (x : Tq) : List Tq :=
  first.map (fun q => ⟨q.2, x.t, sign * q.1 * x.c % m, some x.s, usd x.t x.f x.s⟩) ++ second.map (fun q => ⟨q.2, x.s, -sign * q.1 % m, x.f, x.t⟩)
def prodT (m : Int) (first second : List (Int × Nat)) (x : Tq) : List Tq := passT m (-1) first second x ++ passT m 1 first second x
def innerT (m : Int) : Nd → Tq → List Tq
  | .scaled n j, x => [⟨j, x.t, x.c * n % m, x.f, x.s⟩]
  | .sum a b, x => [⟨a, x.t, x.c, x.f, x.s⟩, ⟨b, x.t, x.c, x.f, x.s⟩]
  | .product a b, x => prodT m [(1, a)] [(1, b)] x
  | .choose a b l, x => ⟨l, x.t, x.c, x.f, x.s⟩ :: prodT m [(1, a)] [(1, b), (-1, l)] x
  | _, _ => []
/-- the steps that a task leads to -/
def Sts (m : Int) (src : List Nd) (x : Tq) (ss : List Step) : Prop := ∃ e, Un src x.i e ∧ ss = stp m e x.t x.c x.f x.s
inductive StsL (m : Int) (src : List Nd) : List Tq → List Step → Prop
  | nil : StsL m src [] []
  | cons {x l ss ts} : Sts m src x ss → StsL m src l ts → StsL m src (x :: l) (ss ++ ts)
theorem StsL.app {m : Int} {src : List Nd} {l1 l2 : List Tq} {s1 s2 : List Step} (a : StsL m src l1 s1) (b : StsL m src l2 s2) : StsL m src (l1 ++ l2) (s1 ++ s2) := by
  induction a with
  | nil => exact b
  | cons h _ ih =>
    rw [List.cons_append, List.append_assoc]
    exact .cons h ih
/-- an inner node's task leads to what its tasks lead to -/
theorem inner_sts {m : Int} {src : List Nd} {x : Tq} {nd : Nd} {e : Ex} (hn : src[x.i]? = some nd) (hi : innerT m nd x ≠ []) (u : Un src x.i e) : StsL m src (innerT m nd x) (stp m e x.t x.c x.f x.s) := by
  have one : ∀ {y : Tq} {a : Ex}, Un src y.i a → StsL m src [y] (stp m a y.t y.c y.f y.s) := fun {y a} h => by
    have := StsL.cons (m := m) (src := src) (l := []) ⟨a, h, rfl⟩ .nil
    rwa [List.append_nil] at this
  cases u with
  | const h => rw [h] at hn; cases hn; exact absurd rfl hi
  | input h => rw [h] at hn; cases hn; exact absurd rfl hi
  | scal h ha => rw [h] at hn; cases hn; exact one (y := ⟨_, _, _, _, _⟩) ha
  | sum h ha hb => rw [h] at hn; cases hn; exact (one (y := ⟨_, _, _, _, _⟩) ha).app (one (y := ⟨_, _, _, _, _⟩) hb)
  | prod h ha hb =>
    rw [h] at hn; cases hn
    exact ((one (y := ⟨_, _, _, _, _⟩) ha).app (one (y := ⟨_, _, _, _, _⟩) hb)).app ((one (y := ⟨_, _, _, _, _⟩) ha).app (one (y := ⟨_, _, _, _, _⟩) hb))
  | cho h ha hb hd =>
    rw [h] at hn; cases hn
    exact (one (y := ⟨_, _, _, _, _⟩) hd).app (((one (y := ⟨_, _, _, _, _⟩) ha).app ((one (y := ⟨_, _, _, _, _⟩) hb).app (one (y := ⟨_, _, _, _, _⟩) hd))).app ((one (y := ⟨_, _, _, _, _⟩) ha).app ((one (y := ⟨_, _, _, _, _⟩) hb).app (one (y := ⟨_, _, _, _, _⟩) hd))))
end Bf
namespace Bf
open PySem L2
abbrev s_leaf_step : Stmt := topS 58
theorem bi_leaf_step : ∀ (kV doc pm : Value) (an : Option Addr) (cdv ct : Value) (us : List Value), us.length = 3 → bindArgs (PySem.W.fnOf "leaf_step" "leaf_step" (defArgs s_leaf_step) (defBody s_leaf_step) (defScope s_leaf_step) .none kV doc pm an cdv ct) ⟨us, []⟩ = pure ((["node", "task", "modulus"] : List Str).zip us) := fun _ _ _ _ _ _ us hl => match us, hl with | [_, _, _], _ => rfl
theorem sc_leaf_step : FnScope ["node", "task", "modulus", "_", "target", "coefficient", "factors"] ["node", "task", "modulus"] (defScope s_leaf_step) := C8.fnScope_by (by decide +kernel)
theorem n_catA {K : PySem.W.Frag} {H : Hp} {Q : VK} {p q : Addr} {xs ys : List V} (h : H p = some (.tup xs)) (h2 : H q = some (.tup ys)) (e2 : ys ≠ []) (hl : xs.length + ys.length ≤ sizeLine) (k : ∀ r H', Same H H' → H' r = some (.tup (xs ++ ys)) → Q (.ref r) H') : rCatA K (.ref p) (.ref q) H Q :=
  ⟨p, q, xs, ys, rfl, rfl, SqT.of h, SqT.of h2, hl, fun e => k q H (Same.refl H) (by rw [e]; exact h2), fun _ e => absurd e e2, fun _ _ => n_new fun r H' _ s h3 => k r H' s h3⟩
def leafS (m : Int) (x : Tq) : Nd → Step
  | .const n => .add x.t (x.c * n % m) (fac x.f)
  | .input i => .add x.t x.c (fac x.f ++ [.inp i])
  | _ => .swap 0 0
def Nd.isLeaf : Nd → Bool
  | .const _ => true
  | .input _ => true
  | _ => false
def spLeafStep : Sp := fun vs H Q _ => ∃ (nd : Nd) (x : Tq) (m : Int) (v vt : V), vs = [v, vt, .int m] ∧ nd.isLeaf = true ∧ Rp H nd.d v ∧ Rp H x.d vt ∧ 2 ≤ m ∧ m ≤ 1000000000 ∧ 0 ≤ x.c ∧ x.c < m ∧ ∀ v' H', Same H H' → Rp H' (leafS m x nd).d v' → Q v' H'
section
variable {P : Program} {w : World} {K : PySem.W.Frag} {mg : Str → Option Value} {base : Heap}
theorem cal_leaf_step (T : Gs mg) (F : DefAt K mg "leaf_step" s_leaf_step) : C8.Cal P w K mg base 1 "leaf_step" spLeafStep [] := by
  refine cal_of F sc_leaf_step bi_leaf_step (fun vs H Q E h => ?_) (fun f cdv A outer s H vs Q E hr h => ?_)
  · obtain ⟨nd, x, m, v, vt, rfl, _⟩ := h
    rfl
  · refine ⟨_, (pss_cons (ps_asg (pv 1) (pg_tup rfl (pgs_cons (pg_name (i := 3) sc_leaf_step.nd rfl (by first | exact Or.inl rfl | exact Or.inr rfl)) (pgs_cons (pg_name (i := 4) sc_leaf_step.nd rfl (by first | exact Or.inl rfl | exact Or.inr rfl)) (pgs_cons (pg_name (i := 5) sc_leaf_step.nd rfl (by first | exact Or.inl rfl | exact Or.inr rfl)) (pgs_cons (pg_name (i := 6) sc_leaf_step.nd rfl (by first | exact Or.inl rfl | exact Or.inr rfl)) (pgs_cons (pg_name (i := 3) sc_leaf_step.nd rfl (by first | exact Or.inl rfl | exact Or.inr rfl)) pgs_nil)))))))
      (pss_cons (ps_if (pt_cmpR op_eq (pe_ix ix_seq (pv 0) pe_int (fun _ _ => rfl)) pe_str (nomark _)) (pss_one (ps_ret (pe_tup (pa_cons pe_str (pa_cons (pv 4) (pa_cons (pe_op op_mod (pe_op op_mul (pv 5) (pe_ix ix_seq (pv 0) pe_int (fun _ _ => rfl))) (pv 2)) (pa_cons (pv 6) pa_nil))))))) pss_nil)
      (pss_one (ps_ret (pe_tup (pa_cons pe_str (pa_cons (pv 4) (pa_cons (pv 5) (pa_cons (pe_op op_catA (pv 6) (pe_tup (pa_cons (pe_tup (pa_cons pe_str (pa_cons (pe_ix ix_seq (pv 0) pe_int (fun _ _ => rfl)) pa_nil))) pa_nil))) pa_nil))))))))), ?_⟩
    obtain ⟨nd, x, m, v, vt, rfl, hlf, hR, hT, m2, m9, c0, c1, q⟩ := h
    obtain ⟨at_, _, rfl, hat, y1, _, rfl, rfl, y2, _, rfl, rfl, y3, _, rfl, rfl, y4, _, rfl, ⟨fa, fs, rfl, hfa, hfs⟩, y5, _, rfl, rfl, rfl⟩ := hT
    have hfl := hfs.len
    have hfb : (fac x.f).length ≤ 1 := by cases x.f <;> exact Nat.le_of_ble_eq_true rfl
    have hsz : sizeLine = 2 ^ 24 := rfl
    rw [List.length_map] at hfl
    cases nd with
    | const n =>
      obtain ⟨a, _, rfl, ha, w1, _, rfl, rfl, w2, _, rfl, rfl, rfl⟩ := hR
      walk_at "rd"
      refine n_tup (Nat.le_of_ble_eq_true rfl) fun r H1 nr s1 hr1 => ?_
      exact q _ _ s1 ⟨r, _, rfl, hr1, _, _, rfl, rfl, _, _, rfl, rfl, _, _, rfl, rfl, _, _, rfl, ⟨fa, fs, rfl, s1 _ _ hfa, hfs.same s1⟩, rfl⟩
    | input i =>
      obtain ⟨a, _, rfl, ha, w1, _, rfl, rfl, w2, _, rfl, rfl, rfl⟩ := hR
      walk_at "rd"
      refine n_tup (Nat.le_of_ble_eq_true rfl) fun r1 H1 nr1 s1 hr1 => ?_
      walk_at "rd"
      refine n_tup (Nat.le_of_ble_eq_true rfl) fun r2 H2 nr2 s2 hr2 => ?_
      refine n_catA (s2 _ _ (s1 _ _ hfa)) hr2 (by simp) (by simp; omega) fun r3 H3 s3 hr3 => ?_
      walk_at "rd"
      refine n_tup (Nat.le_of_ble_eq_true rfl) fun r4 H4 nr4 s4 hr4 => ?_
      have s14 := s1.trans (s2.trans (s3.trans s4))
      refine q _ _ s14 ⟨r4, _, rfl, hr4, _, _, rfl, rfl, _, _, rfl, rfl, _, _, rfl, rfl, _, _, rfl, ⟨r3, _, rfl, s4 _ _ hr3, ?_⟩, rfl⟩
      rw [List.map_append]
      exact (hfs.same s14).snoc (d := (Fac.inp i).d) ⟨r1, _, rfl, s4 _ _ (s3 _ _ (s2 _ _ hr1)), _, _, rfl, rfl, _, _, rfl, rfl, rfl⟩
    | _ => cases hlf
end
end Bf
namespace Bf
open PySem L2
abbrev s_product_tasks : Stmt := topS 59
theorem bi_product_tasks : ∀ (kV doc pm : Value) (an : Option Addr) (cdv ct : Value) (us : List Value), us.length = 4 → bindArgs (PySem.W.fnOf "product_tasks" "product_tasks" (defArgs s_product_tasks) (defBody s_product_tasks) (defScope s_product_tasks) .none kV doc pm an cdv ct) ⟨us, []⟩ = pure ((["first", "second", "task", "modulus"] : List Str).zip us) := fun _ _ _ _ _ _ us hl => match us, hl with | [_, _, _, _], _ => rfl
theorem sc_product_tasks : FnScope ["first", "second", "task", "modulus", "_", "target", "coefficient", "factors", "spare", "used", "through", "tasks", "passes", "sign", "part", "node"] ["first", "second", "task", "modulus"] (defScope s_product_tasks) := C8.fnScope_by (by decide +kernel)
theorem n_truE {K : PySem.W.Frag} {H : Hp} {R : Bool → Hp → Prop} {p : Addr} (h : H p = some (.tup [])) (k : R false H) : rTru K (.ref p) H R := n_truT h k
theorem n_truN {K : PySem.W.Frag} {H : Hp} {R : Bool → Hp → Prop} {p : Addr} {v : V} {r : List V} (h : H p = some (.tup (v :: r))) (k : R true H) : rTru K (.ref p) H R := n_truT h k
def prD (q : Int × Nat) : Dt := .t [.i q.1, .i q.2]
theorem prD_flat (q : Int × Nat) : (prD q).flat = true := rfl
def firstT (m sign : Int) (x : Tq) (q : Int × Nat) : Tq := ⟨q.2, x.t, sign * q.1 * x.c % m, some x.s, usd x.t x.f x.s⟩
def secondT (m sign : Int) (x : Tq) (q : Int × Nat) : Tq := ⟨q.2, x.s, -sign * q.1 % m, x.f, x.t⟩
theorem passT_eq {m sign : Int} {first second : List (Int × Nat)} {x : Tq} : passT m sign first second x = first.map (firstT m sign x) ++ second.map (secondT m sign x) := rfl
def spProdT : Sp := fun vs H Q _ => ∃ (first second : List (Int × Nat)) (x : Tq) (m : Int) (p1 p2 : Addr) (vt : V), vs = [.ref p1, .ref p2, vt, .int m] ∧ LD H p1 (first.map prD) ∧ LD H p2 (second.map prD) ∧ first.length ≤ 2 ∧ second.length ≤ 2 ∧ (∀ q ∈ first, q.1 = 1 ∨ q.1 = -1) ∧ (∀ q ∈ second, q.1 = 1 ∨ q.1 = -1) ∧ Rp H x.d vt ∧ 2 ≤ m ∧ m ≤ 1000000000 ∧ 0 ≤ x.c ∧ x.c < m ∧
  ∀ q H', H q = none → Same H H' → LD H' q ((prodT m first second x).map Tq.d) → Q (.ref q) H'
section
variable {P : Program} {w : World} {K : PySem.W.Frag} {mg : Str → Option Value} {base : Heap}
theorem cal_product_tasks (T : Gs mg) (F : DefAt K mg "product_tasks" s_product_tasks) : C8.Cal P w K mg base 1 "product_tasks" spProdT [] := by
  refine cal_of F sc_product_tasks bi_product_tasks (fun vs H Q E h => ?_) (fun f cdv A outer s H vs Q E hr h => ?_)
  · obtain ⟨first, second, x, m, p1, p2, vt, rfl, _⟩ := h
    rfl
  · refine ⟨_, (pss_cons (ps_asg (pv 2) (pg_tup rfl (pgs_cons (pg_name (i := 4) sc_product_tasks.nd rfl (by first | exact Or.inl rfl | exact Or.inr rfl)) (pgs_cons (pg_name (i := 5) sc_product_tasks.nd rfl (by first | exact Or.inl rfl | exact Or.inr rfl)) (pgs_cons (pg_name (i := 6) sc_product_tasks.nd rfl (by first | exact Or.inl rfl | exact Or.inr rfl)) (pgs_cons (pg_name (i := 7) sc_product_tasks.nd rfl (by first | exact Or.inl rfl | exact Or.inr rfl)) (pgs_cons (pg_name (i := 8) sc_product_tasks.nd rfl (by first | exact Or.inl rfl | exact Or.inr rfl)) pgs_nil)))))))
      (pss_cons (ps_set (i := 9) sc_product_tasks.nd rfl (by first | exact Or.inl rfl | exact Or.inr rfl) (pe_ifExp (pt_tru (pv 7) (fun _ => rfl)) (pe_ix ix_seq (pe_ix ix_seq (pv 7) pe_int (fun _ _ => rfl)) pe_int (fun _ _ => rfl)) (pe_op op_sub (pe_op op_sub pe_int (pv 5)) (pv 8))))
      (pss_cons (ps_set (i := 10) sc_product_tasks.nd rfl (by first | exact Or.inl rfl | exact Or.inr rfl) (pe_tup (pa_cons (pe_tup (pa_cons pe_str (pa_cons (pv 8) pa_nil))) pa_nil)))
      (pss_cons (ps_set (i := 11) sc_product_tasks.nd rfl (by first | exact Or.inl rfl | exact Or.inr rfl) (pe_lst pa_nil))
      (pss_cons (ps_for PassesOwn.never rfl (pi_range1 rfl T.n_range (pa_cons pe_int pa_nil)) (pg_name (i := 12) sc_product_tasks.nd rfl (by first | exact Or.inl rfl | exact Or.inr rfl)) (pss_cons (ps_set (i := 13) sc_product_tasks.nd rfl (by first | exact Or.inl rfl | exact Or.inr rfl) (pe_ifExp (pt_cmpR op_eq (pv 12) pe_int (nomark _)) (pe_un un_neg pe_int) pe_int))
      (pss_cons (ps_for PassesOwn.never rfl (pi_list (pv 0)) (pg_tup rfl (pgs_cons (pg_name (i := 14) sc_product_tasks.nd rfl (by first | exact Or.inl rfl | exact Or.inr rfl)) (pgs_cons (pg_name (i := 15) sc_product_tasks.nd rfl (by first | exact Or.inl rfl | exact Or.inr rfl)) pgs_nil))) (pss_one (ps_expr (pe_bm PySem.F.plainAttrs_list PySem.F.slot_list_append PySem.F.type_list_append mt_append (pv 11) (pa_cons (pe_tup (pa_cons (pv 15) (pa_cons (pv 5) (pa_cons (pe_op op_mod (pe_op op_mul (pe_op op_mul (pv 13) (pv 14)) (pv 6)) (pv 3)) (pa_cons (pv 10) (pa_cons (pv 9) pa_nil)))))) pa_nil)))))
      (pss_one (ps_for PassesOwn.never rfl (pi_list (pv 1)) (pg_tup rfl (pgs_cons (pg_name (i := 14) sc_product_tasks.nd rfl (by first | exact Or.inl rfl | exact Or.inr rfl)) (pgs_cons (pg_name (i := 15) sc_product_tasks.nd rfl (by first | exact Or.inl rfl | exact Or.inr rfl)) pgs_nil))) (pss_one (ps_expr (pe_bm PySem.F.plainAttrs_list PySem.F.slot_list_append PySem.F.type_list_append mt_append (pv 11) (pa_cons (pe_tup (pa_cons (pv 15) (pa_cons (pv 8) (pa_cons (pe_op op_mod (pe_op op_mul (pe_un un_neg (pv 13)) (pv 14)) (pv 3)) (pa_cons (pv 7) (pa_cons (pv 5) pa_nil)))))) pa_nil)))))))))
      (pss_one (ps_ret (pv 11)))))))), ?_⟩
    obtain ⟨first, second, x, m, p1, p2, vt, rfl, lp1, lp2, f2, g2, hf, hg, hT, m2, m9, c0, c1, q⟩ := h
    obtain ⟨at_, _, rfl, hat, y1, _, rfl, rfl, y2, _, rfl, rfl, y3, _, rfl, rfl, y4, _, rfl, ⟨fa, fs, rfl, hfa, hfs⟩, y5, _, rfl, rfl, rfl⟩ := hT
    have hsz : sizeLine = 2 ^ 24 := rfl
    have hfac : Rp H (facD x.f) (.ref fa) := ⟨fa, fs, rfl, hfa, hfs⟩
    walk_at "rd"
    cases hf2 : x.f with
    | none =>
      have hfs2 := hfs
      rw [hf2] at hfs2
      have e : fs = [] := hfs2
      subst e
      have eu : usd x.t x.f x.s = 3 - x.t - x.s := by rw [hf2]; rfl
      refine n_truE hfa ?_
      walk_at "rd"
      rw [← eu]
      refine n_tup (Nat.le_of_ble_eq_true rfl) fun z1 H1 nz1 s1 hz1 => ?_
      walk_at "rd"
      refine n_tup (Nat.le_of_ble_eq_true rfl) fun z2 H2 nz2 s2 hz2 => ?_
      walk_at "rd"
      refine n_lst (by decide) fun tq H3 ntq s3 htq => ?_
      have s03 := s1.trans (s2.trans s3)
      have ntq0 := none_of_same (s1.trans s2) ntq
      have np1 : p1 ≠ tq := lp1.ne ntq0
      have np2 : p2 ≠ tq := lp2.ne ntq0
      have hthr : Rp H3 (facD (some x.s)) (.ref z2) := ⟨z2, _, rfl, s3 _ _ hz2, _, _, rfl, ⟨z1, _, rfl, s3 _ _ (s2 _ _ hz1), _, _, rfl, rfl, _, _, rfl, rfl, rfl⟩, rfl⟩
      walk_at "rd"
      refine n_forR (fun i σ H' => ∃ u12 u13 u14 u15 : Option V, σ = [some (.ref p1), some (.ref p2), some (.ref at_), some (.int m), some (.int x.i), some (.int x.t), some (.int x.c), some (.ref fa), some (.int x.s), some (.int (usd x.t x.f x.s)), some (.ref z2), some (.ref tq), u12, u13, u14, u15] ∧ Same H H' ∧ LD H' tq ((if i = 0 then [] else if i = 1 then passT m (-1) first second x else prodT m first second x).map Tq.d) ∧ Rp H' (facD (some x.s)) (.ref z2)) (by decide)
        ⟨_, _, _, _, rfl, s03, LD.nil htq, hthr⟩ ?_ ?_
      · rintro i σ H4 hi ⟨u12, u13, u14, u15, rfl, s4, lt4, thr4⟩
        have hi2 : i = 0 ∨ i = 1 := by
          have : i < 2 := hi
          omega
        rcases hi2 with e | e
        · subst e
          have lt4' : LD H4 tq (([] : List Tq).map Tq.d) := lt4
          generalize hacc : ([] : List Tq) = acc at lt4'
          have hal : acc.length ≤ 10 := by rw [← hacc]; decide
          walk_at "rd"
          obtain ⟨wa1, hp1, hw1⟩ := id lp1
          obtain ⟨wa2, hp2, hw2⟩ := id lp2
          have hl1 := hw1.len
          have hl2 := hw2.len
          rw [List.length_map] at hl1 hl2
          refine n_forL (fun j σ H' => ∃ u12 u14 u15 : Option V, σ = [some (.ref p1), some (.ref p2), some (.ref at_), some (.int m), some (.int x.i), some (.int x.t), some (.int x.c), some (.ref fa), some (.int x.s), some (.int (usd x.t x.f x.s)), some (.ref z2), some (.ref tq), u12, some (.int (-1)), u14, u15] ∧ Same H H' ∧ LD H' tq ((acc ++ (first.take j).map (firstT m (-1) x)).map Tq.d) ∧ Rp H' (facD (some x.s)) (.ref z2)) (s4 _ _ hp1)
            ⟨_, _, _, rfl, s4, by rw [List.take_zero, List.map_nil, List.append_nil]; exact lt4', thr4⟩ (fun j σ H' _ h => by obtain ⟨_, _, _, _, s5, _⟩ := h; exact SqL.of (s5 _ _ hp1)) ?_ ?_
          · rintro j y σ H5 hy ⟨u12, u14, u15, rfl, s5, lt5, thr5⟩
            obtain ⟨dq, hdq, hvq⟩ := hw1.at hy
            obtain ⟨pq, hpq, rfl⟩ := Option.map_eq_some_iff.mp (by rwa [List.getElem?_map] at hdq)
            have hsg := hf pq (List.mem_of_getElem? hpq)
            obtain ⟨b, _, rfl, hb, w1, _, rfl, rfl, w2, _, rfl, rfl, rfl⟩ := hvq.same s5
            obtain ⟨wt, htq5, hwt⟩ := id lt5
            have hwl := hwt.len
            rw [List.length_map, List.length_append, List.length_map, List.length_take] at hwl
            walk_at "rd"
            refine n_tup (Nat.le_of_ble_eq_true rfl) fun r H6 nr s6 hr6 => ?_
            refine n_app (s6 _ _ htq5) (by omega) fun H7 k7 h7 => ?_
            walk_at "rd"
            refine ⟨_, _, _, rfl, same_kp ntq0 (s5.trans s6) k7, ?_, (thr5.same s6).tk (TK.kp (s6 _ _ htq5) k7) (facD_flat _)⟩
            rw [take_snoc hpq, List.map_append (f := firstT m (-1) x), ← List.append_assoc, List.map_append]
            exact LD.push (s6 _ _ htq5) (hwt.same s6) (d := (firstT m (-1) x pq).d) ⟨r, _, rfl, hr6, _, _, rfl, rfl, _, _, rfl, rfl, _, _, rfl, rfl, _, _, rfl, thr5.same s6, _, _, rfl, rfl, rfl⟩ (flats_map Tq.flat _) (Tq.flat _) k7 h7
          · rintro σ H5 ⟨u12, u14, u15, rfl, s5, lt5, thr5⟩
            rw [hl1, List.take_length] at lt5
            generalize hacc2 : acc ++ first.map (firstT m (-1) x) = acc2 at lt5
            have hal2 : acc2.length ≤ 12 := by rw [← hacc2, List.length_append, List.length_map]; omega
            walk_at "rd"
            refine n_forL (fun j σ H' => ∃ u12 u14 u15 : Option V, σ = [some (.ref p1), some (.ref p2), some (.ref at_), some (.int m), some (.int x.i), some (.int x.t), some (.int x.c), some (.ref fa), some (.int x.s), some (.int (usd x.t x.f x.s)), some (.ref z2), some (.ref tq), u12, some (.int (-1)), u14, u15] ∧ Same H H' ∧ LD H' tq ((acc2 ++ (second.take j).map (secondT m (-1) x)).map Tq.d) ∧ Rp H' (facD (some x.s)) (.ref z2)) (s5 _ _ hp2)
              ⟨_, _, _, rfl, s5, by rw [List.take_zero, List.map_nil, List.append_nil]; exact lt5, thr5⟩ (fun j σ H' _ h => by obtain ⟨_, _, _, _, s5, _⟩ := h; exact SqL.of (s5 _ _ hp2)) ?_ ?_
            · rintro j y σ H6 hy ⟨u12, u14, u15, rfl, s6, lt6, thr6⟩
              obtain ⟨dq, hdq, hvq⟩ := hw2.at hy
              obtain ⟨pq, hpq, rfl⟩ := Option.map_eq_some_iff.mp (by rwa [List.getElem?_map] at hdq)
              have hsg := hg pq (List.mem_of_getElem? hpq)
              obtain ⟨b, _, rfl, hb, w1, _, rfl, rfl, w2, _, rfl, rfl, rfl⟩ := hvq.same s6
              obtain ⟨wt, htq6, hwt⟩ := id lt6
              have hwl := hwt.len
              rw [List.length_map, List.length_append, List.length_map, List.length_take] at hwl
              walk_at "rd"
              refine n_tup (Nat.le_of_ble_eq_true rfl) fun r H7 nr s7 hr7 => ?_
              refine n_app (s7 _ _ htq6) (by omega) fun H8 k8 h8 => ?_
              walk_at "rd"
              refine ⟨_, _, _, rfl, same_kp ntq0 (s6.trans s7) k8, ?_, (thr6.same s7).tk (TK.kp (s7 _ _ htq6) k8) (facD_flat _)⟩
              rw [take_snoc hpq, List.map_append (f := secondT m (-1) x), ← List.append_assoc, List.map_append]
              exact LD.push (s7 _ _ htq6) (hwt.same s7) (d := (secondT m (-1) x pq).d) ⟨r, _, rfl, hr7, _, _, rfl, rfl, _, _, rfl, rfl, _, _, rfl, rfl, _, _, rfl, hfac.same (s6.trans s7), _, _, rfl, rfl, rfl⟩ (flats_map Tq.flat _) (Tq.flat _) k8 h8
            · rintro σ H6 ⟨u12, u14, u15, rfl, s6, lt6, thr6⟩
              rw [hl2, List.take_length, ← hacc2, List.append_assoc, ← passT_eq, ← hacc] at lt6
              exact ⟨_, _, _, _, rfl, s6, lt6, thr6⟩
        · subst e
          have lt4' : LD H4 tq ((passT m (-1) first second x).map Tq.d) := lt4
          generalize hacc : passT m (-1) first second x = acc at lt4'
          have hal : acc.length ≤ 10 := by rw [← hacc, passT_eq, List.length_append, List.length_map, List.length_map]; omega
          walk_at "rd"
          obtain ⟨wa1, hp1, hw1⟩ := id lp1
          obtain ⟨wa2, hp2, hw2⟩ := id lp2
          have hl1 := hw1.len
          have hl2 := hw2.len
          rw [List.length_map] at hl1 hl2
          refine n_forL (fun j σ H' => ∃ u12 u14 u15 : Option V, σ = [some (.ref p1), some (.ref p2), some (.ref at_), some (.int m), some (.int x.i), some (.int x.t), some (.int x.c), some (.ref fa), some (.int x.s), some (.int (usd x.t x.f x.s)), some (.ref z2), some (.ref tq), u12, some (.int 1), u14, u15] ∧ Same H H' ∧ LD H' tq ((acc ++ (first.take j).map (firstT m 1 x)).map Tq.d) ∧ Rp H' (facD (some x.s)) (.ref z2)) (s4 _ _ hp1)
            ⟨_, _, _, rfl, s4, by rw [List.take_zero, List.map_nil, List.append_nil]; exact lt4', thr4⟩ (fun j σ H' _ h => by obtain ⟨_, _, _, _, s5, _⟩ := h; exact SqL.of (s5 _ _ hp1)) ?_ ?_
          · rintro j y σ H5 hy ⟨u12, u14, u15, rfl, s5, lt5, thr5⟩
            obtain ⟨dq, hdq, hvq⟩ := hw1.at hy
            obtain ⟨pq, hpq, rfl⟩ := Option.map_eq_some_iff.mp (by rwa [List.getElem?_map] at hdq)
            have hsg := hf pq (List.mem_of_getElem? hpq)
            obtain ⟨b, _, rfl, hb, w1, _, rfl, rfl, w2, _, rfl, rfl, rfl⟩ := hvq.same s5
            obtain ⟨wt, htq5, hwt⟩ := id lt5
            have hwl := hwt.len
            rw [List.length_map, List.length_append, List.length_map, List.length_take] at hwl
            walk_at "rd"
            refine n_tup (Nat.le_of_ble_eq_true rfl) fun r H6 nr s6 hr6 => ?_
            refine n_app (s6 _ _ htq5) (by omega) fun H7 k7 h7 => ?_
            walk_at "rd"
            refine ⟨_, _, _, rfl, same_kp ntq0 (s5.trans s6) k7, ?_, (thr5.same s6).tk (TK.kp (s6 _ _ htq5) k7) (facD_flat _)⟩
            rw [take_snoc hpq, List.map_append (f := firstT m 1 x), ← List.append_assoc, List.map_append]
            exact LD.push (s6 _ _ htq5) (hwt.same s6) (d := (firstT m 1 x pq).d) ⟨r, _, rfl, hr6, _, _, rfl, rfl, _, _, rfl, rfl, _, _, rfl, rfl, _, _, rfl, thr5.same s6, _, _, rfl, rfl, rfl⟩ (flats_map Tq.flat _) (Tq.flat _) k7 h7
          · rintro σ H5 ⟨u12, u14, u15, rfl, s5, lt5, thr5⟩
            rw [hl1, List.take_length] at lt5
            generalize hacc2 : acc ++ first.map (firstT m 1 x) = acc2 at lt5
            have hal2 : acc2.length ≤ 12 := by rw [← hacc2, List.length_append, List.length_map]; omega
            walk_at "rd"
            refine n_forL (fun j σ H' => ∃ u12 u14 u15 : Option V, σ = [some (.ref p1), some (.ref p2), some (.ref at_), some (.int m), some (.int x.i), some (.int x.t), some (.int x.c), some (.ref fa), some (.int x.s), some (.int (usd x.t x.f x.s)), some (.ref z2), some (.ref tq), u12, some (.int 1), u14, u15] ∧ Same H H' ∧ LD H' tq ((acc2 ++ (second.take j).map (secondT m 1 x)).map Tq.d) ∧ Rp H' (facD (some x.s)) (.ref z2)) (s5 _ _ hp2)
              ⟨_, _, _, rfl, s5, by rw [List.take_zero, List.map_nil, List.append_nil]; exact lt5, thr5⟩ (fun j σ H' _ h => by obtain ⟨_, _, _, _, s5, _⟩ := h; exact SqL.of (s5 _ _ hp2)) ?_ ?_
            · rintro j y σ H6 hy ⟨u12, u14, u15, rfl, s6, lt6, thr6⟩
              obtain ⟨dq, hdq, hvq⟩ := hw2.at hy
              obtain ⟨pq, hpq, rfl⟩ := Option.map_eq_some_iff.mp (by rwa [List.getElem?_map] at hdq)
              have hsg := hg pq (List.mem_of_getElem? hpq)
              obtain ⟨b, _, rfl, hb, w1, _, rfl, rfl, w2, _, rfl, rfl, rfl⟩ := hvq.same s6
              obtain ⟨wt, htq6, hwt⟩ := id lt6
              have hwl := hwt.len
              rw [List.length_map, List.length_append, List.length_map, List.length_take] at hwl
              walk_at "rd"
              refine n_tup (Nat.le_of_ble_eq_true rfl) fun r H7 nr s7 hr7 => ?_
              refine n_app (s7 _ _ htq6) (by omega) fun H8 k8 h8 => ?_
              walk_at "rd"
              refine ⟨_, _, _, rfl, same_kp ntq0 (s6.trans s7) k8, ?_, (thr6.same s7).tk (TK.kp (s7 _ _ htq6) k8) (facD_flat _)⟩
              rw [take_snoc hpq, List.map_append (f := secondT m 1 x), ← List.append_assoc, List.map_append]
              exact LD.push (s7 _ _ htq6) (hwt.same s7) (d := (secondT m 1 x pq).d) ⟨r, _, rfl, hr7, _, _, rfl, rfl, _, _, rfl, rfl, _, _, rfl, rfl, _, _, rfl, hfac.same (s6.trans s7), _, _, rfl, rfl, rfl⟩ (flats_map Tq.flat _) (Tq.flat _) k8 h8
            · rintro σ H6 ⟨u12, u14, u15, rfl, s6, lt6, thr6⟩
              rw [hl2, List.take_length, ← hacc2, List.append_assoc, ← passT_eq, ← hacc] at lt6
              exact ⟨_, _, _, _, rfl, s6, lt6, thr6⟩
      · rintro σ H4 ⟨u12, u13, u14, u15, rfl, s4, lt4, thr4⟩
        walk_at "rd"
        exact q tq H4 ntq0 s4 lt4
    | some u =>
      have hfs2 := hfs
      rw [hf2] at hfs2
      obtain ⟨v1, _, rfl, ⟨b, _, rfl, hb, w1, _, rfl, rfl, w2, _, rfl, rfl, rfl⟩, rfl⟩ := hfs2
      have eu : usd x.t x.f x.s = u := by rw [hf2]; rfl
      refine n_truN hfa ?_
      walk_at "rd"
      rw [← eu]
      refine n_tup (Nat.le_of_ble_eq_true rfl) fun z1 H1 nz1 s1 hz1 => ?_
      walk_at "rd"
      refine n_tup (Nat.le_of_ble_eq_true rfl) fun z2 H2 nz2 s2 hz2 => ?_
      walk_at "rd"
      refine n_lst (by decide) fun tq H3 ntq s3 htq => ?_
      have s03 := s1.trans (s2.trans s3)
      have ntq0 := none_of_same (s1.trans s2) ntq
      have np1 : p1 ≠ tq := lp1.ne ntq0
      have np2 : p2 ≠ tq := lp2.ne ntq0
      have hthr : Rp H3 (facD (some x.s)) (.ref z2) := ⟨z2, _, rfl, s3 _ _ hz2, _, _, rfl, ⟨z1, _, rfl, s3 _ _ (s2 _ _ hz1), _, _, rfl, rfl, _, _, rfl, rfl, rfl⟩, rfl⟩
      walk_at "rd"
      refine n_forR (fun i σ H' => ∃ u12 u13 u14 u15 : Option V, σ = [some (.ref p1), some (.ref p2), some (.ref at_), some (.int m), some (.int x.i), some (.int x.t), some (.int x.c), some (.ref fa), some (.int x.s), some (.int (usd x.t x.f x.s)), some (.ref z2), some (.ref tq), u12, u13, u14, u15] ∧ Same H H' ∧ LD H' tq ((if i = 0 then [] else if i = 1 then passT m (-1) first second x else prodT m first second x).map Tq.d) ∧ Rp H' (facD (some x.s)) (.ref z2)) (by decide)
        ⟨_, _, _, _, rfl, s03, LD.nil htq, hthr⟩ ?_ ?_
      · rintro i σ H4 hi ⟨u12, u13, u14, u15, rfl, s4, lt4, thr4⟩
        have hi2 : i = 0 ∨ i = 1 := by
          have : i < 2 := hi
          omega
        rcases hi2 with e | e
        · subst e
          have lt4' : LD H4 tq (([] : List Tq).map Tq.d) := lt4
          generalize hacc : ([] : List Tq) = acc at lt4'
          have hal : acc.length ≤ 10 := by rw [← hacc]; decide
          walk_at "rd"
          obtain ⟨wa1, hp1, hw1⟩ := id lp1
          obtain ⟨wa2, hp2, hw2⟩ := id lp2
          have hl1 := hw1.len
          have hl2 := hw2.len
          rw [List.length_map] at hl1 hl2
          refine n_forL (fun j σ H' => ∃ u12 u14 u15 : Option V, σ = [some (.ref p1), some (.ref p2), some (.ref at_), some (.int m), some (.int x.i), some (.int x.t), some (.int x.c), some (.ref fa), some (.int x.s), some (.int (usd x.t x.f x.s)), some (.ref z2), some (.ref tq), u12, some (.int (-1)), u14, u15] ∧ Same H H' ∧ LD H' tq ((acc ++ (first.take j).map (firstT m (-1) x)).map Tq.d) ∧ Rp H' (facD (some x.s)) (.ref z2)) (s4 _ _ hp1)
            ⟨_, _, _, rfl, s4, by rw [List.take_zero, List.map_nil, List.append_nil]; exact lt4', thr4⟩ (fun j σ H' _ h => by obtain ⟨_, _, _, _, s5, _⟩ := h; exact SqL.of (s5 _ _ hp1)) ?_ ?_
          · rintro j y σ H5 hy ⟨u12, u14, u15, rfl, s5, lt5, thr5⟩
            obtain ⟨dq, hdq, hvq⟩ := hw1.at hy
            obtain ⟨pq, hpq, rfl⟩ := Option.map_eq_some_iff.mp (by rwa [List.getElem?_map] at hdq)
            have hsg := hf pq (List.mem_of_getElem? hpq)
            obtain ⟨b, _, rfl, hb, w1, _, rfl, rfl, w2, _, rfl, rfl, rfl⟩ := hvq.same s5
            obtain ⟨wt, htq5, hwt⟩ := id lt5
            have hwl := hwt.len
            rw [List.length_map, List.length_append, List.length_map, List.length_take] at hwl
            walk_at "rd"
            refine n_tup (Nat.le_of_ble_eq_true rfl) fun r H6 nr s6 hr6 => ?_
            refine n_app (s6 _ _ htq5) (by omega) fun H7 k7 h7 => ?_
            walk_at "rd"
            refine ⟨_, _, _, rfl, same_kp ntq0 (s5.trans s6) k7, ?_, (thr5.same s6).tk (TK.kp (s6 _ _ htq5) k7) (facD_flat _)⟩
            rw [take_snoc hpq, List.map_append (f := firstT m (-1) x), ← List.append_assoc, List.map_append]
            exact LD.push (s6 _ _ htq5) (hwt.same s6) (d := (firstT m (-1) x pq).d) ⟨r, _, rfl, hr6, _, _, rfl, rfl, _, _, rfl, rfl, _, _, rfl, rfl, _, _, rfl, thr5.same s6, _, _, rfl, rfl, rfl⟩ (flats_map Tq.flat _) (Tq.flat _) k7 h7
          · rintro σ H5 ⟨u12, u14, u15, rfl, s5, lt5, thr5⟩
            rw [hl1, List.take_length] at lt5
            generalize hacc2 : acc ++ first.map (firstT m (-1) x) = acc2 at lt5
            have hal2 : acc2.length ≤ 12 := by rw [← hacc2, List.length_append, List.length_map]; omega
            walk_at "rd"
            refine n_forL (fun j σ H' => ∃ u12 u14 u15 : Option V, σ = [some (.ref p1), some (.ref p2), some (.ref at_), some (.int m), some (.int x.i), some (.int x.t), some (.int x.c), some (.ref fa), some (.int x.s), some (.int (usd x.t x.f x.s)), some (.ref z2), some (.ref tq), u12, some (.int (-1)), u14, u15] ∧ Same H H' ∧ LD H' tq ((acc2 ++ (second.take j).map (secondT m (-1) x)).map Tq.d) ∧ Rp H' (facD (some x.s)) (.ref z2)) (s5 _ _ hp2)
              ⟨_, _, _, rfl, s5, by rw [List.take_zero, List.map_nil, List.append_nil]; exact lt5, thr5⟩ (fun j σ H' _ h => by obtain ⟨_, _, _, _, s5, _⟩ := h; exact SqL.of (s5 _ _ hp2)) ?_ ?_
            · rintro j y σ H6 hy ⟨u12, u14, u15, rfl, s6, lt6, thr6⟩
              obtain ⟨dq, hdq, hvq⟩ := hw2.at hy
              obtain ⟨pq, hpq, rfl⟩ := Option.map_eq_some_iff.mp (by rwa [List.getElem?_map] at hdq)
              have hsg := hg pq (List.mem_of_getElem? hpq)
              obtain ⟨b, _, rfl, hb, w1, _, rfl, rfl, w2, _, rfl, rfl, rfl⟩ := hvq.same s6
              obtain ⟨wt, htq6, hwt⟩ := id lt6
              have hwl := hwt.len
              rw [List.length_map, List.length_append, List.length_map, List.length_take] at hwl
              walk_at "rd"
              refine n_tup (Nat.le_of_ble_eq_true rfl) fun r H7 nr s7 hr7 => ?_
              refine n_app (s7 _ _ htq6) (by omega) fun H8 k8 h8 => ?_
              walk_at "rd"
              refine ⟨_, _, _, rfl, same_kp ntq0 (s6.trans s7) k8, ?_, (thr6.same s7).tk (TK.kp (s7 _ _ htq6) k8) (facD_flat _)⟩
              rw [take_snoc hpq, List.map_append (f := secondT m (-1) x), ← List.append_assoc, List.map_append]
              exact LD.push (s7 _ _ htq6) (hwt.same s7) (d := (secondT m (-1) x pq).d) ⟨r, _, rfl, hr7, _, _, rfl, rfl, _, _, rfl, rfl, _, _, rfl, rfl, _, _, rfl, hfac.same (s6.trans s7), _, _, rfl, rfl, rfl⟩ (flats_map Tq.flat _) (Tq.flat _) k8 h8
            · rintro σ H6 ⟨u12, u14, u15, rfl, s6, lt6, thr6⟩
              rw [hl2, List.take_length, ← hacc2, List.append_assoc, ← passT_eq, ← hacc] at lt6
              exact ⟨_, _, _, _, rfl, s6, lt6, thr6⟩
        · subst e
          have lt4' : LD H4 tq ((passT m (-1) first second x).map Tq.d) := lt4
          generalize hacc : passT m (-1) first second x = acc at lt4'
          have hal : acc.length ≤ 10 := by rw [← hacc, passT_eq, List.length_append, List.length_map, List.length_map]; omega
          walk_at "rd"
          obtain ⟨wa1, hp1, hw1⟩ := id lp1
          obtain ⟨wa2, hp2, hw2⟩ := id lp2
          have hl1 := hw1.len
          have hl2 := hw2.len
          rw [List.length_map] at hl1 hl2
          refine n_forL (fun j σ H' => ∃ u12 u14 u15 : Option V, σ = [some (.ref p1), some (.ref p2), some (.ref at_), some (.int m), some (.int x.i), some (.int x.t), some (.int x.c), some (.ref fa), some (.int x.s), some (.int (usd x.t x.f x.s)), some (.ref z2), some (.ref tq), u12, some (.int 1), u14, u15] ∧ Same H H' ∧ LD H' tq ((acc ++ (first.take j).map (firstT m 1 x)).map Tq.d) ∧ Rp H' (facD (some x.s)) (.ref z2)) (s4 _ _ hp1)
            ⟨_, _, _, rfl, s4, by rw [List.take_zero, List.map_nil, List.append_nil]; exact lt4', thr4⟩ (fun j σ H' _ h => by obtain ⟨_, _, _, _, s5, _⟩ := h; exact SqL.of (s5 _ _ hp1)) ?_ ?_
          · rintro j y σ H5 hy ⟨u12, u14, u15, rfl, s5, lt5, thr5⟩
            obtain ⟨dq, hdq, hvq⟩ := hw1.at hy
            obtain ⟨pq, hpq, rfl⟩ := Option.map_eq_some_iff.mp (by rwa [List.getElem?_map] at hdq)
            have hsg := hf pq (List.mem_of_getElem? hpq)
            obtain ⟨b, _, rfl, hb, w1, _, rfl, rfl, w2, _, rfl, rfl, rfl⟩ := hvq.same s5
            obtain ⟨wt, htq5, hwt⟩ := id lt5
            have hwl := hwt.len
            rw [List.length_map, List.length_append, List.length_map, List.length_take] at hwl
            walk_at "rd"
            refine n_tup (Nat.le_of_ble_eq_true rfl) fun r H6 nr s6 hr6 => ?_
            refine n_app (s6 _ _ htq5) (by omega) fun H7 k7 h7 => ?_
            walk_at "rd"
            refine ⟨_, _, _, rfl, same_kp ntq0 (s5.trans s6) k7, ?_, (thr5.same s6).tk (TK.kp (s6 _ _ htq5) k7) (facD_flat _)⟩
            rw [take_snoc hpq, List.map_append (f := firstT m 1 x), ← List.append_assoc, List.map_append]
            exact LD.push (s6 _ _ htq5) (hwt.same s6) (d := (firstT m 1 x pq).d) ⟨r, _, rfl, hr6, _, _, rfl, rfl, _, _, rfl, rfl, _, _, rfl, rfl, _, _, rfl, thr5.same s6, _, _, rfl, rfl, rfl⟩ (flats_map Tq.flat _) (Tq.flat _) k7 h7
          · rintro σ H5 ⟨u12, u14, u15, rfl, s5, lt5, thr5⟩
            rw [hl1, List.take_length] at lt5
            generalize hacc2 : acc ++ first.map (firstT m 1 x) = acc2 at lt5
            have hal2 : acc2.length ≤ 12 := by rw [← hacc2, List.length_append, List.length_map]; omega
            walk_at "rd"
            refine n_forL (fun j σ H' => ∃ u12 u14 u15 : Option V, σ = [some (.ref p1), some (.ref p2), some (.ref at_), some (.int m), some (.int x.i), some (.int x.t), some (.int x.c), some (.ref fa), some (.int x.s), some (.int (usd x.t x.f x.s)), some (.ref z2), some (.ref tq), u12, some (.int 1), u14, u15] ∧ Same H H' ∧ LD H' tq ((acc2 ++ (second.take j).map (secondT m 1 x)).map Tq.d) ∧ Rp H' (facD (some x.s)) (.ref z2)) (s5 _ _ hp2)
              ⟨_, _, _, rfl, s5, by rw [List.take_zero, List.map_nil, List.append_nil]; exact lt5, thr5⟩ (fun j σ H' _ h => by obtain ⟨_, _, _, _, s5, _⟩ := h; exact SqL.of (s5 _ _ hp2)) ?_ ?_
            · rintro j y σ H6 hy ⟨u12, u14, u15, rfl, s6, lt6, thr6⟩
              obtain ⟨dq, hdq, hvq⟩ := hw2.at hy
              obtain ⟨pq, hpq, rfl⟩ := Option.map_eq_some_iff.mp (by rwa [List.getElem?_map] at hdq)
              have hsg := hg pq (List.mem_of_getElem? hpq)
              obtain ⟨b, _, rfl, hb, w1, _, rfl, rfl, w2, _, rfl, rfl, rfl⟩ := hvq.same s6
              obtain ⟨wt, htq6, hwt⟩ := id lt6
              have hwl := hwt.len
              rw [List.length_map, List.length_append, List.length_map, List.length_take] at hwl
              walk_at "rd"
              refine n_tup (Nat.le_of_ble_eq_true rfl) fun r H7 nr s7 hr7 => ?_
              refine n_app (s7 _ _ htq6) (by omega) fun H8 k8 h8 => ?_
              walk_at "rd"
              refine ⟨_, _, _, rfl, same_kp ntq0 (s6.trans s7) k8, ?_, (thr6.same s7).tk (TK.kp (s7 _ _ htq6) k8) (facD_flat _)⟩
              rw [take_snoc hpq, List.map_append (f := secondT m 1 x), ← List.append_assoc, List.map_append]
              exact LD.push (s7 _ _ htq6) (hwt.same s7) (d := (secondT m 1 x pq).d) ⟨r, _, rfl, hr7, _, _, rfl, rfl, _, _, rfl, rfl, _, _, rfl, rfl, _, _, rfl, hfac.same (s6.trans s7), _, _, rfl, rfl, rfl⟩ (flats_map Tq.flat _) (Tq.flat _) k8 h8
            · rintro σ H6 ⟨u12, u14, u15, rfl, s6, lt6, thr6⟩
              rw [hl2, List.take_length, ← hacc2, List.append_assoc, ← passT_eq, ← hacc] at lt6
              exact ⟨_, _, _, _, rfl, s6, lt6, thr6⟩
      · rintro σ H4 ⟨u12, u13, u14, u15, rfl, s4, lt4, thr4⟩
        walk_at "rd"
        exact q tq H4 ntq0 s4 lt4
end
end Bf
namespace Bf
open PySem L2
abbrev s_inner_tasks : Stmt := topS 60
theorem bi_inner_tasks : ∀ (kV doc pm : Value) (an : Option Addr) (cdv ct : Value) (us : List Value), us.length = 3 → bindArgs (PySem.W.fnOf "inner_tasks" "inner_tasks" (defArgs s_inner_tasks) (defBody s_inner_tasks) (defScope s_inner_tasks) .none kV doc pm an cdv ct) ⟨us, []⟩ = pure ((["node", "task", "modulus"] : List Str).zip us) := fun _ _ _ _ _ _ us hl => match us, hl with | [_, _, _], _ => rfl
theorem sc_inner_tasks : FnScope ["node", "task", "modulus", "_", "target", "coefficient", "factors", "spare", "part", "alone", "both"] ["node", "task", "modulus"] (defScope s_inner_tasks) := C8.fnScope_by (by decide +kernel)
def spInner : Sp := fun vs H Q _ => ∃ (nd : Nd) (x : Tq) (m : Int) (v vt : V), vs = [v, vt, .int m] ∧ nd.isLeaf = false ∧ Rp H nd.d v ∧ Rp H x.d vt ∧ 2 ≤ m ∧ m ≤ 1000000000 ∧ 0 ≤ x.c ∧ x.c < m ∧
  ∀ q H', H q = none → Same H H' → LD H' q ((innerT m nd x).map Tq.d) → Q (.ref q) H'
theorem LD.of {H : Hp} {a : Addr} {ws : List V} {ds : List Dt} (h : H a = some (.lst ws)) (r : RpL H ds ws) : LD H a ds := ⟨ws, h, r⟩
theorem prD_at {H : Hp} {p : Addr} {s : Int} {j : Nat} (h : H p = some (.tup [.int s, .int j])) : Rp H (prD (s, j)) (.ref p) := ⟨p, _, rfl, h, _, _, rfl, rfl, _, _, rfl, rfl, rfl⟩
theorem tq_at {H : Hp} {p fa : Addr} {x : Tq} (h : H p = some (.tup [.int x.i, .int x.t, .int x.c, .ref fa, .int x.s])) (hf : Rp H (facD x.f) (.ref fa)) : Rp H x.d (.ref p) := ⟨p, _, rfl, h, _, _, rfl, rfl, _, _, rfl, rfl, _, _, rfl, rfl, _, _, rfl, hf, _, _, rfl, rfl, rfl⟩
section
variable {P : Program} {w : World} {K : PySem.W.Frag} {mg : Str → Option Value} {base : Heap}
theorem cal_inner_tasks (T : Gs mg) (c_product_tasks : C8.Cal P w K mg base 1 "product_tasks" spProdT []) (F : DefAt K mg "inner_tasks" s_inner_tasks) : C8.Cal P w K mg base 2 "inner_tasks" spInner [] := by
  refine cal_of F sc_inner_tasks bi_inner_tasks (fun vs H Q E h => ?_) (fun f cdv A outer s H vs Q E hr h => ?_)
  · obtain ⟨nd, x, m, v, vt, rfl, _⟩ := h
    rfl
  · refine ⟨_, (pss_cons (ps_asg (pv 1) (pg_tup rfl (pgs_cons (pg_name (i := 3) sc_inner_tasks.nd rfl (by first | exact Or.inl rfl | exact Or.inr rfl)) (pgs_cons (pg_name (i := 4) sc_inner_tasks.nd rfl (by first | exact Or.inl rfl | exact Or.inr rfl)) (pgs_cons (pg_name (i := 5) sc_inner_tasks.nd rfl (by first | exact Or.inl rfl | exact Or.inr rfl)) (pgs_cons (pg_name (i := 6) sc_inner_tasks.nd rfl (by first | exact Or.inl rfl | exact Or.inr rfl)) (pgs_cons (pg_name (i := 7) sc_inner_tasks.nd rfl (by first | exact Or.inl rfl | exact Or.inr rfl)) pgs_nil)))))))
      (pss_cons (ps_if (pt_cmpR op_eq (pe_ix ix_seq (pv 0) pe_int (fun _ _ => rfl)) pe_str (nomark _)) (pss_one (ps_ret (pe_lst (pa_cons (pe_tup (pa_cons (pe_ix ix_seq (pv 0) pe_int (fun _ _ => rfl)) (pa_cons (pv 4) (pa_cons (pe_op op_mod (pe_op op_mul (pv 5) (pe_ix ix_seq (pv 0) pe_int (fun _ _ => rfl))) (pv 2)) (pa_cons (pv 6) (pa_cons (pv 7) pa_nil)))))) pa_nil)))) pss_nil)
      (pss_cons (ps_if (pt_cmpR op_eq (pe_ix ix_seq (pv 0) pe_int (fun _ _ => rfl)) pe_str (nomark _)) (pss_one (ps_ret (pe_lc (own := [("part", 8)]) (g := gName 8) (tt := tYes) rfl sc_inner_tasks.nd (pi_tup (pe_slice sl_tup (pv 0) (po_some pe_int) po_none)) (blkOk_by (by first | decide +kernel | kernel_rfl)) (fun _ _ _ _ _ => pg_name (i := 8) sc_inner_tasks.nd rfl (by first | exact Or.inl rfl | exact Or.inr rfl)) (fun _ _ _ _ _ => pts_nil) (fun _ _ _ _ _ => (pe_tup (pa_cons (pv 8) (pa_cons (pv 4) (pa_cons (pv 5) (pa_cons (pv 6) (pa_cons (pv 7) pa_nil)))))))))) pss_nil)
      (pss_cons (ps_if (pt_cmpR op_eq (pe_ix ix_seq (pv 0) pe_int (fun _ _ => rfl)) pe_str (nomark _)) (pss_one (ps_ret (C8.pe_c c_product_tasks hr (by first | decide | omega) rfl (pa_cons (pe_lst (pa_cons (pe_tup (pa_cons pe_int (pa_cons (pe_ix ix_seq (pv 0) pe_int (fun _ _ => rfl)) pa_nil))) pa_nil)) (pa_cons (pe_lst (pa_cons (pe_tup (pa_cons pe_int (pa_cons (pe_ix ix_seq (pv 0) pe_int (fun _ _ => rfl)) pa_nil))) pa_nil)) (pa_cons (pv 1) (pa_cons (pv 2) pa_nil))))))) pss_nil)
      (pss_cons (ps_set (i := 9) sc_inner_tasks.nd rfl (by first | exact Or.inl rfl | exact Or.inr rfl) (pe_lst (pa_cons (pe_tup (pa_cons (pe_ix ix_seq (pv 0) pe_int (fun _ _ => rfl)) (pa_cons (pv 4) (pa_cons (pv 5) (pa_cons (pv 6) (pa_cons (pv 7) pa_nil)))))) pa_nil)))
      (pss_cons (ps_set (i := 10) sc_inner_tasks.nd rfl (by first | exact Or.inl rfl | exact Or.inr rfl) (pe_lst (pa_cons (pe_tup (pa_cons pe_int (pa_cons (pe_ix ix_seq (pv 0) pe_int (fun _ _ => rfl)) pa_nil))) (pa_cons (pe_tup (pa_cons (pe_un un_neg pe_int) (pa_cons (pe_ix ix_seq (pv 0) pe_int (fun _ _ => rfl)) pa_nil))) pa_nil))))
      (pss_one (ps_ret (pe_op op_cat (pv 9) (C8.pe_c c_product_tasks hr (by first | decide | omega) rfl (pa_cons (pe_lst (pa_cons (pe_tup (pa_cons pe_int (pa_cons (pe_ix ix_seq (pv 0) pe_int (fun _ _ => rfl)) pa_nil))) pa_nil)) (pa_cons (pv 10) (pa_cons (pv 1) (pa_cons (pv 2) pa_nil)))))))))))))), ?_⟩
    obtain ⟨nd, x, m, v, vt, rfl, hlf, hR, hT, m2, m9, c0, c1, q⟩ := h
    have hT0 := hT
    obtain ⟨at_, _, rfl, hat, y1, _, rfl, rfl, y2, _, rfl, rfl, y3, _, rfl, rfl, y4, _, rfl, hfac, y5, _, rfl, rfl, rfl⟩ := hT
    obtain ⟨fa, fs, rfl, hfa, hfs⟩ := id hfac
    have hsz : sizeLine = 2 ^ 24 := rfl
    cases nd with
    | const n => cases hlf
    | input n => cases hlf
    | scaled n j =>
      obtain ⟨a, _, rfl, ha, w1, _, rfl, rfl, w2, _, rfl, rfl, w3, _, rfl, rfl, rfl⟩ := hR
      walk_at "rd"
      refine n_tup (Nat.le_of_ble_eq_true rfl) fun r1 H1 n1 s1 h1 => ?_
      walk_at "rd"
      refine n_lst (Nat.le_of_ble_eq_true rfl) fun r2 H2 n2 s2 h2 => ?_
      refine q r2 H2 (none_of_same s1 n2) (s1.trans s2) ⟨_, h2, _, _, rfl, tq_at (x := ⟨j, x.t, x.c * n % m, x.f, x.s⟩) (s2 _ _ h1) (hfac.same (s1.trans s2)), rfl⟩
    | sum j1 j2 =>
      obtain ⟨a, _, rfl, ha, w1, _, rfl, rfl, w2, _, rfl, rfl, w3, _, rfl, rfl, rfl⟩ := hR
      walk_at "rd"
      refine n_slT ha (fun z => absurd (show (1 : Nat) = 0 from z.1) (by decide)) (cut_from (by decide)) fun r H1 nr s1 hr1 => ?_
      walk_at "rd"
      refine n_lcT hr1 fun D H0 nD s0 hD => ⟨fun i H' => Same H H' ∧ Same H1 H' ∧ LD H' D ((([j1, j2].take i).map fun z : Nat => (⟨z, x.t, x.c, x.f, x.s⟩ : Tq)).map Tq.d), ⟨s1.trans s0, s0, LD.nil hD⟩, fun i H' h => h.2.1 _ _ hr1, fun i y H' hy h => ?_, fun H' h => ?_⟩
      · obtain ⟨t1, t2, t3⟩ := h
        have nD0 := none_of_same s1 nD
        obtain ⟨z, hz, rfl⟩ : ∃ z : Nat, [j1, j2][i]? = some z ∧ y = .int z := by
          rcases i with _ | _ | i
          · exact ⟨j1, rfl, by simpa using hy.symm⟩
          · exact ⟨j2, rfl, by simpa using hy.symm⟩
          · simp at hy
        obtain ⟨wt, hD2, hwt⟩ := id t3
        have hwl := hwt.len
        rw [List.length_map, List.length_map, List.length_take] at hwl
        walk_at "rd"
        refine n_tup (Nat.le_of_ble_eq_true rfl) fun r1 H2 n1 s2 h1 => ?_
        refine n_acc (s2 _ _ hD2) (by simp at hwl; omega) fun H3 k3 h3 => ⟨same_kp nD0 (t1.trans s2) k3, same_kp nD (t2.trans s2) k3, ?_⟩
        rw [take_snoc hz, List.map_append, List.map_append]
        exact LD.push (s2 _ _ hD2) (hwt.same s2) (tq_at (x := ⟨z, x.t, x.c, x.f, x.s⟩) h1 (hfac.same (t1.trans s2))) (flats_map Tq.flat _) (Tq.flat _) k3 h3
      · obtain ⟨t1, t2, t3⟩ := h
        exact q D H' (none_of_same s1 nD) t1 t3
    | product j1 j2 =>
      obtain ⟨a, _, rfl, ha, w1, _, rfl, rfl, w2, _, rfl, rfl, w3, _, rfl, rfl, rfl⟩ := hR
      walk_at "rd"
      refine n_tup (Nat.le_of_ble_eq_true rfl) fun r1 H1 n1 s1 h1 => ?_
      walk_at "rd"
      refine n_lst (Nat.le_of_ble_eq_true rfl) fun r2 H2 n2 s2 h2 => ?_
      have ha2 := s2 _ _ (s1 _ _ ha)
      walk_at "rd"
      refine n_tup (Nat.le_of_ble_eq_true rfl) fun r3 H3 n3 s3 h3 => ?_
      walk_at "rd"
      refine n_lst (Nat.le_of_ble_eq_true rfl) fun r4 H4 n4 s4 h4 => ?_
      walk_at "rd"
      have s34 := s3.trans s4
      have s04 := s1.trans (s2.trans s34)
      refine ⟨[(1, j1)], [(1, j2)], x, m, r2, r4, _, rfl, ⟨_, s34 _ _ h2, _, _, rfl, prD_at (s34 _ _ (s2 _ _ h1)), rfl⟩, ⟨_, h4, _, _, rfl, prD_at (s4 _ _ h3), rfl⟩, by simp, by simp, by simp, by simp, hT0.same s04, m2, m9, c0, c1, fun q1 H5 nq s5 lq => q q1 H5 (none_of_same s04 nq) (s04.trans s5) lq⟩
    | choose j1 j2 j3 =>
      obtain ⟨a, _, rfl, ha, w1, _, rfl, rfl, w2, _, rfl, rfl, w3, _, rfl, rfl, w4, _, rfl, rfl, rfl⟩ := hR
      walk_at "rd"
      refine n_tup (Nat.le_of_ble_eq_true rfl) fun r1 H1 n1 s1 h1 => ?_
      walk_at "rd"
      refine n_lst (Nat.le_of_ble_eq_true rfl) fun r2 H2 n2 s2 h2 => ?_
      have s02 := s1.trans s2
      have ha2 := s02 _ _ ha
      walk_at "rd"
      refine n_tup (Nat.le_of_ble_eq_true rfl) fun r3 H3 n3 s3 h3 => ?_
      have ha3 := s3 _ _ ha2
      walk_at "rd"
      refine n_tup (Nat.le_of_ble_eq_true rfl) fun r4 H4 n4 s4 h4 => ?_
      walk_at "rd"
      refine n_lst (Nat.le_of_ble_eq_true rfl) fun r5 H5 n5 s5 h5 => ?_
      have s25 := s3.trans (s4.trans s5)
      have ha5 := s25 _ _ ha2
      walk_at "rd"
      refine n_tup (Nat.le_of_ble_eq_true rfl) fun r6 H6 n6 s6 h6 => ?_
      walk_at "rd"
      refine n_lst (Nat.le_of_ble_eq_true rfl) fun r7 H7 n7 s7 h7 => ?_
      have s57 := s6.trans s7
      have s27 := s25.trans s57
      have s07 := s02.trans s27
      walk_at "rd"
      refine ⟨[(1, j1)], [(1, j2), (-1, j3)], x, m, r7, r5, _, rfl, ⟨_, h7, _, _, rfl, prD_at (s7 _ _ h6), rfl⟩, ⟨_, s57 _ _ h5, _, _, rfl, prD_at (s57 _ _ (s5 _ _ (s4 _ _ h3))), _, _, rfl, prD_at (s57 _ _ (s5 _ _ h4)), rfl⟩, by simp, by simp, by simp, by simp, hT0.same s07, m2, m9, c0, c1, fun q1 H8 nq s8 lq => ?_⟩
      obtain ⟨wq, hq, hwq⟩ := lq
      have hwl := hwq.len
      replace hwl : wq.length = 6 := hwl
      have s28 := s27.trans s8
      walk_at "rd"
      refine n_cat (s28 _ _ h2) hq (by rw [hwl]; exact Nat.le_of_ble_eq_true rfl) fun q2 H9 nq2 s9 hq2 => ?_
      have s09 := s07.trans (s8.trans s9)
      refine q q2 H9 (none_of_same (s07.trans s8) nq2) s09 ⟨_, hq2, _, _, rfl, tq_at (x := ⟨j3, x.t, x.c, x.f, x.s⟩) (s9 _ _ (s28 _ _ (s2 _ _ h1))) (hfac.same s09), hwq.same s9⟩
end
end Bf
/-! tasks with their trees: what compile_source's loop keeps -/
namespace Bf
open PySem
theorem fac_ok {t s : Int} {f : Option Int} {n : Int} (h : Ok3 t s f) : ∀ y ∈ fac f, y.ok t 3 n := by
  cases f with
  | none => intro y hy; cases hy
  | some u =>
    intro y hy
    obtain ⟨h1, h2, _⟩ := h.hf u rfl
    rw [List.mem_singleton.mp hy]
    exact ⟨⟨by omega, by omega⟩, h2⟩
theorem fac_len (f : Option Int) : (fac f).length ≤ 1 := by cases f <;> exact Nat.le_of_ble_eq_true rfl
theorem md_bd (a : Int) {b : Int} (h : 2 ≤ b) : 0 ≤ a % b ∧ a % b < b := ⟨Int.emod_nonneg _ (by omega), Int.emod_lt_of_pos _ (by omega)⟩
theorem stp_ok {m n : Int} (m2 : 2 ≤ m) {src : List Nd} (hin : ∀ (k i : Nat), src[k]? = some (.input i) → (i : Int) < n) : ∀ (e : Ex) (k : Nat) (t c : Int) (f : Option Int) (s : Int), Un src k e → Ok3 t s f → 0 ≤ c → c < m → ∀ y ∈ stp m e t c f s, y.ok m 3 n ∧ y.isTable = false
  | .const v, k, t, c, f, s, u, h, c0, c1, y, hy => by
    rw [List.mem_singleton.mp hy]
    have := h.ht
    exact ⟨⟨⟨by omega, by omega⟩, md_bd _ m2, by have := fac_len f; omega, fac_ok h⟩, rfl⟩
  | .input i, k, t, c, f, s, u, h, c0, c1, y, hy => by
    rw [List.mem_singleton.mp hy]
    have := h.ht
    refine ⟨⟨⟨by omega, by omega⟩, ⟨c0, c1⟩, by have := fac_len f; rw [List.length_append]; show _ + 1 ≤ 3; omega, fun z hz => ?_⟩, rfl⟩
    rcases List.mem_append.mp hz with q | q
    · exact fac_ok h z q
    · rw [List.mem_singleton.mp q]
      cases u with
      | input hk => exact ⟨by omega, hin _ _ hk⟩
  | .scal v a, k, t, c, f, s, u, h, c0, c1, y, hy => by
    cases u with
    | scal hk ua => exact stp_ok m2 hin a _ t _ f s ua h (md_bd _ m2).1 (md_bd _ m2).2 y hy
  | .sum a b, k, t, c, f, s, u, h, c0, c1, y, hy => by
    cases u with
    | sum hk ua ub =>
      rw [stp] at hy
      rcases List.mem_append.mp hy with q | q
      · exact stp_ok m2 hin a _ t _ f s ua h c0 c1 y q
      · exact stp_ok m2 hin b _ t _ f s ub h c0 c1 y q
  | .prod a b, k, t, c, f, s, u, h, c0, c1, y, hy => by
    cases u with
    | prod hk ua ub =>
      rw [stp] at hy
      simp only [List.mem_append] at hy
      rcases hy with (q | q) | (q | q)
      · exact stp_ok m2 hin a _ _ _ _ _ ua h.first (md_bd _ m2).1 (md_bd _ m2).2 y q
      · exact stp_ok m2 hin b _ _ _ _ _ ub h.second (md_bd _ m2).1 (md_bd _ m2).2 y q
      · exact stp_ok m2 hin a _ _ _ _ _ ua h.first (md_bd _ m2).1 (md_bd _ m2).2 y q
      · exact stp_ok m2 hin b _ _ _ _ _ ub h.second (md_bd _ m2).1 (md_bd _ m2).2 y q
  | .cho a b d, k, t, c, f, s, u, h, c0, c1, y, hy => by
    cases u with
    | cho hk ua ub ud =>
      rw [stp] at hy
      simp only [List.mem_append] at hy
      rcases hy with q | ((q | q | q) | (q | q | q))
      · exact stp_ok m2 hin d _ _ _ _ _ ud h c0 c1 y q
      · exact stp_ok m2 hin a _ _ _ _ _ ua h.first (md_bd _ m2).1 (md_bd _ m2).2 y q
      · exact stp_ok m2 hin b _ _ _ _ _ ub h.second (md_bd _ m2).1 (md_bd _ m2).2 y q
      · exact stp_ok m2 hin d _ _ _ _ _ ud h.second (md_bd _ m2).1 (md_bd _ m2).2 y q
      · exact stp_ok m2 hin a _ _ _ _ _ ua h.first (md_bd _ m2).1 (md_bd _ m2).2 y q
      · exact stp_ok m2 hin b _ _ _ _ _ ub h.second (md_bd _ m2).1 (md_bd _ m2).2 y q
      · exact stp_ok m2 hin d _ _ _ _ _ ud h.second (md_bd _ m2).1 (md_bd _ m2).2 y q
def Ex.wt : Ex → Nat
  | .const _ => 1
  | .input _ => 1
  | .scal _ a => 1 + a.wt
  | .sum a b => 1 + (a.wt + b.wt)
  | .prod a b => 1 + 2 * (a.wt + b.wt)
  | .cho a b d => 1 + (d.wt + 2 * (a.wt + b.wt + d.wt))
structure Gok (m : Int) (src : List Nd) (g : Tq × Ex) : Prop where
  un : Un src g.1.i g.2
  ok : Ok3 g.1.t g.1.s g.1.f
  c0 : 0 ≤ g.1.c
  c1 : g.1.c < m
def gst (m : Int) (g : Tq × Ex) : List Step := stp m g.2 g.1.t g.1.c g.1.f g.1.s
def gsts (m : Int) : List (Tq × Ex) → List Step
  | [] => []
  | g :: r => gst m g ++ gsts m r
def gw : List (Tq × Ex) → Nat
  | [] => 0
  | g :: r => g.2.wt + gw r
theorem gsts_app {m : Int} : ∀ {a b : List (Tq × Ex)}, gsts m (a ++ b) = gsts m a ++ gsts m b
  | [], _ => rfl
  | g :: r, b => by rw [List.cons_append, gsts, gsts, gsts_app, List.append_assoc]
theorem gw_app : ∀ {a b : List (Tq × Ex)}, gw (a ++ b) = gw a + gw b
  | [], _ => (Nat.zero_add _).symm
  | g :: r, b => by rw [List.cons_append, gw, gw, gw_app, Nat.add_assoc]
theorem cost_pos : ∀ e : Ex, 1 ≤ e.cost
  | .const _ => Nat.le_refl _
  | .input _ => Nat.le_refl _
  | .scal _ a => cost_pos a
  | .sum a b => by have := cost_pos a; show 1 ≤ a.cost + b.cost; omega
  | .prod a b => by have := cost_pos a; show 1 ≤ 2 * (a.cost + b.cost); omega
  | .cho a b d => by have := cost_pos d; show 1 ≤ d.cost + 2 * (a.cost + b.cost + d.cost); omega
theorem wt_pos : ∀ e : Ex, 1 ≤ e.wt
  | .const _ => Nat.le_refl _
  | .input _ => Nat.le_refl _
  | .scal _ a => by show 1 ≤ 1 + a.wt; omega
  | .sum a b => by show 1 ≤ 1 + _; omega
  | .prod a b => by show 1 ≤ 1 + _; omega
  | .cho a b d => by show 1 ≤ 1 + _; omega
theorem gsts_len {m : Int} : ∀ (l : List (Tq × Ex)), l.length ≤ (gsts m l).length
  | [] => Nat.le_refl _
  | g :: r => by
    have := gsts_len (m := m) r
    have h := cost_pos g.2
    rw [gsts, List.length_append, List.length_cons, gst, stp_len]
    omega
theorem inner_g {m : Int} (m2 : 2 ≤ m) {src : List Nd} {x : Tq} {e : Ex} {nd : Nd} (h : Gok m src (x, e)) (hn : src[x.i]? = some nd) (hl : nd.isLeaf = false) :
    ∃ gs : List (Tq × Ex), gs.map Prod.fst = innerT m nd x ∧ (∀ g ∈ gs, Gok m src g) ∧ gsts m gs = gst m (x, e) ∧ gw gs + 1 = e.wt := by
  obtain ⟨un, ok, c0, c1⟩ := h
  replace un : Un src x.i e := un
  replace ok : Ok3 x.t x.s x.f := ok
  replace c0 : 0 ≤ x.c := c0
  replace c1 : x.c < m := c1
  cases un with
  | const h => rw [h] at hn; cases hn; cases hl
  | input h => rw [h] at hn; cases hn; cases hl
  | @scal _ n i a h ua =>
    rw [h] at hn; cases hn
    refine ⟨[(⟨i, x.t, x.c * n % m, x.f, x.s⟩, a)], rfl, ?_, ?_, ?_⟩
    · intro g hg
      rw [List.mem_singleton.mp hg]
      exact ⟨ua, ok, (md_bd _ m2).1, (md_bd _ m2).2⟩
    · simp only [gsts, gst, List.append_nil]; rfl
    · show a.wt + 0 + 1 = 1 + a.wt; omega
  | @sum _ i j a b h ua ub =>
    rw [h] at hn; cases hn
    refine ⟨[(⟨i, x.t, x.c, x.f, x.s⟩, a), (⟨j, x.t, x.c, x.f, x.s⟩, b)], rfl, ?_, ?_, ?_⟩
    · intro g hg
      simp only [List.mem_cons, List.not_mem_nil, or_false] at hg
      rcases hg with q | q <;> subst q
      · exact ⟨ua, ok, c0, c1⟩
      · exact ⟨ub, ok, c0, c1⟩
    · simp only [gsts, gst, List.append_nil]; rfl
    · show a.wt + (b.wt + 0) + 1 = 1 + (a.wt + b.wt); omega
  | @prod _ i j a b h ua ub =>
    rw [h] at hn; cases hn
    refine ⟨[(⟨i, x.t, -1 * 1 * x.c % m, some x.s, usd x.t x.f x.s⟩, a), (⟨j, x.s, - -1 * 1 % m, x.f, x.t⟩, b), (⟨i, x.t, 1 * 1 * x.c % m, some x.s, usd x.t x.f x.s⟩, a), (⟨j, x.s, -1 * 1 % m, x.f, x.t⟩, b)], rfl, ?_, ?_, ?_⟩
    · intro g hg
      simp only [List.mem_cons, List.not_mem_nil, or_false] at hg
      rcases hg with q | q | q | q <;> subst q
      · exact ⟨ua, ok.first, (md_bd _ m2).1, (md_bd _ m2).2⟩
      · exact ⟨ub, ok.second, (md_bd _ m2).1, (md_bd _ m2).2⟩
      · exact ⟨ua, ok.first, (md_bd _ m2).1, (md_bd _ m2).2⟩
      · exact ⟨ub, ok.second, (md_bd _ m2).1, (md_bd _ m2).2⟩
    · simp only [gsts, gst, List.append_nil, stp, List.append_assoc]
    · show a.wt + (b.wt + (a.wt + (b.wt + 0))) + 1 = 1 + 2 * (a.wt + b.wt); omega
  | @cho _ i j l a b d h ua ub ud =>
    rw [h] at hn; cases hn
    refine ⟨[(⟨l, x.t, x.c, x.f, x.s⟩, d), (⟨i, x.t, -1 * 1 * x.c % m, some x.s, usd x.t x.f x.s⟩, a), (⟨j, x.s, - -1 * 1 % m, x.f, x.t⟩, b), (⟨l, x.s, - -1 * -1 % m, x.f, x.t⟩, d), (⟨i, x.t, 1 * 1 * x.c % m, some x.s, usd x.t x.f x.s⟩, a), (⟨j, x.s, -1 * 1 % m, x.f, x.t⟩, b), (⟨l, x.s, -1 * -1 % m, x.f, x.t⟩, d)], rfl, ?_, ?_, ?_⟩
    · intro g hg
      simp only [List.mem_cons, List.not_mem_nil, or_false] at hg
      rcases hg with q | q | q | q | q | q | q <;> subst q
      · exact ⟨ud, ok, c0, c1⟩
      · exact ⟨ua, ok.first, (md_bd _ m2).1, (md_bd _ m2).2⟩
      · exact ⟨ub, ok.second, (md_bd _ m2).1, (md_bd _ m2).2⟩
      · exact ⟨ud, ok.second, (md_bd _ m2).1, (md_bd _ m2).2⟩
      · exact ⟨ua, ok.first, (md_bd _ m2).1, (md_bd _ m2).2⟩
      · exact ⟨ub, ok.second, (md_bd _ m2).1, (md_bd _ m2).2⟩
      · exact ⟨ud, ok.second, (md_bd _ m2).1, (md_bd _ m2).2⟩
    · simp only [gsts, gst, List.append_nil, stp, List.append_assoc]
    · show d.wt + (a.wt + (b.wt + (d.wt + (a.wt + (b.wt + (d.wt + 0)))))) + 1 = 1 + (d.wt + 2 * (a.wt + b.wt + d.wt)); omega
theorem leaf_g {m : Int} {src : List Nd} {x : Tq} {e : Ex} {nd : Nd} (h : Gok m src (x, e)) (hn : src[x.i]? = some nd) (hl : nd.isLeaf = true) : gst m (x, e) = [leafS m x nd] := by
  have un : Un src x.i e := h.un
  cases un with
  | const h1 => rw [h1] at hn; cases hn; rfl
  | input h1 => rw [h1] at hn; cases hn; rfl
  | scal h1 _ => rw [h1] at hn; cases hn; cases hl
  | sum h1 _ _ => rw [h1] at hn; cases hn; cases hl
  | prod h1 _ _ => rw [h1] at hn; cases hn; cases hl
  | cho h1 _ _ _ => rw [h1] at hn; cases hn; cases hl
/-! the number of inputs -/
theorem needF_le (m : Int) (x : Nd) : m ≤ needF m x := by
  cases x <;> simp only [needF] <;> omega
theorem needs_le : ∀ (l : List Nd) (m : Int), m ≤ l.foldl needF m
  | [], m => Int.le_refl _
  | x :: r, m => Int.le_trans (needF_le m x) (needs_le r _)
theorem needs_in : ∀ {l : List Nd} {m : Int} {k i : Nat}, l[k]? = some (.input i) → (i : Int) < l.foldl needF m
  | [], _, _, _, h => by simp at h
  | x :: r, m, 0, i, h => by
    simp at h
    subst h
    have := needs_le r (needF m (.input i))
    have e : needF m (.input i) = max m (i + 1) := rfl
    rw [List.foldl_cons]
    omega
  | x :: r, m, k + 1, i, h => by
    rw [List.foldl_cons]
    exact needs_in (l := r) (k := k) (by simpa using h)
theorem needs_top {n : Int} : ∀ {l : List Nd} {m : Int}, m ≤ n → (∀ (k i : Nat), l[k]? = some (.input i) → (i : Int) < n) → l.foldl needF m ≤ n
  | [], _, h, _ => h
  | x :: r, m, h, hi => by
    rw [List.foldl_cons]
    refine needs_top (l := r) ?_ fun k i e => hi (k + 1) i (by simpa using e)
    cases x with
    | input i =>
      have := hi 0 i rfl
      show max m (i + 1) ≤ n
      omega
    | _ => exact h
theorem need_bd {src : List Nd} (h : SrcOk src) : 0 ≤ needN src ∧ needN src ≤ 60 := ⟨needs_le src 0, needs_top (by omega) fun k i e => by
  have q := h k _ e
  have : i < 60 := q
  omega⟩
end Bf
namespace Bf
open PySem L2
abbrev s_compile_source : Stmt := topS 61
theorem bi_compile_source : ∀ (kV doc pm : Value) (an : Option Addr) (cdv ct : Value) (us : List Value), us.length = 2 → bindArgs (PySem.W.fnOf "compile_source" "compile_source" (defArgs s_compile_source) (defBody s_compile_source) (defScope s_compile_source) .none kV doc pm an cdv ct) ⟨us, []⟩ = pure ((["source", "modulus"] : List Str).zip us) := fun _ _ _ _ _ _ us hl => match us, hl with | [_, _], _ => rfl
theorem sc_compile_source : FnScope ["source", "modulus", "total", "empty", "steps", "tasks", "task", "node"] ["source", "modulus"] (defScope s_compile_source) := C8.fnScope_by (by decide +kernel)
def spComp (C : Addr) : Sp := fun vs H Q _ => ∃ (src : List Nd) (e : Ex) (v : V) (m : Int), vs = [v, .int m] ∧ Rp H (srcD src) v ∧ SrcOk src ∧ 1 ≤ src.length ∧ src.length ≤ 200 ∧ Un src (src.length - 1) e ∧ e.cost ≤ 20000 ∧ 2 ≤ m ∧ m ≤ 1000000000 ∧
  ∀ x H', Same H H' → Prg C H' x m 3 (needN src) (stp m e 0 1 none 1) → Vp m 3 (needN src) (stp m e 0 1 none 1) → Q (.ref x) H'
theorem comp_vp {src : List Nd} {e : Ex} {m : Int} (ok : SrcOk src) (un : Un src (src.length - 1) e) (hc : e.cost ≤ 20000) (m2 : 2 ≤ m) (m9 : m ≤ 1000000000) : Vp m 3 (needN src) (stp m e 0 1 none 1) := by
  have hb := need_bd ok
  have hk := stp_ok m2 (fun k i h => needs_in (m := 0) h) e _ 0 1 none 1 un ⟨by omega, by omega, by omega, by simp⟩ (by omega) (by omega)
  exact ⟨m2, m9, by decide, by decide, hb.1, hb.2, by rw [stp_len]; exact hc, fun s hs => (hk s hs).1, fun ⟨s, hs, ht⟩ => by rw [(hk s hs).2] at ht; cases ht⟩
section
variable {P : Program} {w : World} {K : PySem.W.Frag} {mg : Str → Option Value} {base : Heap} {C : Addr}
theorem cal_compile_source (T : Gs mg) (G : PgC K C) (c_cost : C8.Cal P w K mg base 5 "cost" spSrcCost []) (c_needs : C8.Cal P w K mg base 5 "needs" spNeeds []) (c_leaf_step : C8.Cal P w K mg base 1 "leaf_step" spLeafStep []) (c_inner_tasks : C8.Cal P w K mg base 2 "inner_tasks" spInner []) (c_Program : C8.Mak P w K mg base 7 "Program" C (spInit C) [])
    (F : DefAt K mg "compile_source" s_compile_source) : C8.Cal P w K mg base 9 "compile_source" (spComp C) [] := by
  refine cal_of F sc_compile_source bi_compile_source (fun vs H Q E h => ?_) (fun f cdv A outer s H vs Q E hr h => ?_)
  · obtain ⟨src, e, v, m, rfl, _⟩ := h
    rfl
  · refine ⟨_, (pss_cons (ps_set (i := 2) sc_compile_source.nd rfl (by first | exact Or.inl rfl | exact Or.inr rfl) (C8.pe_c c_cost hr (by first | decide | omega) rfl (pa_cons (pv 0) pa_nil)))
      (pss_cons (ps_set (i := 3) sc_compile_source.nd rfl (by first | exact Or.inl rfl | exact Or.inr rfl) (C8.pe_mk c_Program hr (by first | decide | omega) rfl (pa_cons (pv 1) (pa_cons pe_int (pa_cons (C8.pe_c c_needs hr (by first | decide | omega) rfl (pa_cons (pv 0) pa_nil)) (pa_cons (pe_lst pa_nil) pa_nil))))))
      (pss_cons (ps_if (pt_cmpR op_gt (pv 2) (C8.pe_gc rfl T.c_MOST_three) (nomark _)) (pss_one (ps_never)) pss_nil)
      (pss_cons (ps_set (i := 4) sc_compile_source.nd rfl (by first | exact Or.inl rfl | exact Or.inr rfl) (pe_lst pa_nil))
      (pss_cons (ps_set (i := 5) sc_compile_source.nd rfl (by first | exact Or.inl rfl | exact Or.inr rfl) (pe_lst (pa_cons (pe_tup (pa_cons (pe_op op_sub (pe_callB b_len (by rfl) T.n_len PySem.boot_len (pa_cons (pv 0) pa_nil)) pe_int) (pa_cons pe_int (pa_cons pe_int (pa_cons (pe_tup pa_nil) (pa_cons pe_int pa_nil)))))) pa_nil)))
      (pss_cons (ps_while PassesOwn.never (pt_tru (pv 5) (fun _ => rfl)) (pss_cons (ps_set (i := 6) sc_compile_source.nd rfl (by first | exact Or.inl rfl | exact Or.inr rfl) (pe_bm0 PySem.F.plainAttrs_list PySem.F.slot_list_pop PySem.F.type_list_pop mt_pop (pv 5)))
      (pss_cons (ps_set (i := 7) sc_compile_source.nd rfl (by first | exact Or.inl rfl | exact Or.inr rfl) (pe_ix ix_seq (pv 0) (pe_ix ix_seq (pv 6) pe_int (fun _ _ => rfl)) (fun _ _ => rfl)))
      (pss_one (ps_if (PW.pt (pw_or (pt_cmpR op_eq (pe_ix ix_seq (pv 7) pe_int (fun _ _ => rfl)) pe_str (nomark _)) (pw_or1 (pt_cmpR op_eq (pe_ix ix_seq (pv 7) pe_int (fun _ _ => rfl)) pe_str (nomark _))))) (pss_one (ps_expr (pe_bm PySem.F.plainAttrs_list PySem.F.slot_list_append PySem.F.type_list_append mt_append (pv 4) (pa_cons (C8.pe_c c_leaf_step hr (by first | decide | omega) rfl (pa_cons (pv 7) (pa_cons (pv 6) (pa_cons (pv 1) pa_nil)))) pa_nil)))) (pss_one (ps_expr (pe_bm PySem.F.plainAttrs_list PySem.F.slot_list_extend PySem.F.type_list_extend mt_extend (pv 5) (pa_cons (pe_revL (C8.pe_c c_inner_tasks hr (by first | decide | omega) rfl (pa_cons (pv 7) (pa_cons (pv 6) (pa_cons (pv 1) pa_nil))))) pa_nil)))))))))
      (pss_one (ps_ret (C8.pe_mk c_Program hr (by first | decide | omega) rfl (pa_cons (pv 1) (pa_cons pe_int (pa_cons (pe_fld (pv 3) rfl) (pa_cons (pv 4) pa_nil))))))))))))), ?_⟩
    obtain ⟨src, e0, v, m, rfl, hR, ok, l1, l2, un0, hcost, m2, m9, k⟩ := h
    have vp := comp_vp ok un0 hcost m2 m9
    have hb := need_bd ok
    have hsz : sizeLine = 2 ^ 24 := rfl
    obtain ⟨a, ws, rfl, ha, hws⟩ := id hR
    have hl := hws.len
    rw [List.length_map] at hl
    have g1 := G.cls
    have g2 := G.inp
    walk_at "rd"
    refine ⟨src, e0, _, rfl, hR, ok, l1, l2, un0, fun H1 s1 => ?_⟩
    walk_at "rd"
    refine ⟨src, _, rfl, hR.same s1, ok, l1, l2, fun H2 s2 => ?_⟩
    have s12 := s1.trans s2
    walk_at "rd"
    refine n_lst (by decide) fun q0 H3 nq0 s3 hq0 => ?_
    have s13 := s12.trans s3
    walk_at "rd"
    refine n_mk rfl hq0 (ss := []) (c := 3) (n := needN src) rfl ⟨m2, m9, by decide, by decide, hb.1, hb.2, by decide, by simp, by simp⟩ fun x0 H4 nx0 s4 pr0 => ?_
    have s14 := s13.trans s4
    have hcost' : ¬ ((20000 : Int) < (e0.cost : Int)) := by omega
    walk_at "rd"
    refine n_lst (by decide) fun sq H5 nsq s5 hsq => ?_
    have ha5 := (s14.trans s5) _ _ ha
    have hsq5 := hsq
    walk_at "rd"
    refine n_tup (Nat.le_of_ble_eq_true rfl) fun z H6 nz s6 hz => ?_
    walk_at "rd"
    refine n_tup (Nat.le_of_ble_eq_true rfl) fun z2 H7 nz2 s7 hz2 => ?_
    walk_at "rd"
    refine n_lst (Nat.le_of_ble_eq_true rfl) fun tq H8 ntq s8 htq => ?_
    have s58 := s6.trans (s7.trans s8)
    have s48 := s5.trans s58
    have ntq4 := none_of_same (s5.trans (s6.trans s7)) ntq
    replace hsq := s58 _ _ hsq
    have st : sq ≠ tq := ne_of_none (s7 _ _ (s6 _ _ hsq5)) ntq
    have ok3 : Ok3 0 1 none := ⟨by omega, by omega, by omega, by simp⟩
    have hg0 : Gok m src (⟨src.length - 1, 0, 1, none, 1⟩, e0) := ⟨un0, ok3, by show (0 : Int) ≤ 1; decide, by show (1 : Int) < m; omega⟩
    walk_at "rd"
    refine n_while (fun me σ H' => ∃ (u6 u7 : Option V) (ss : List Step) (gs : List (Tq × Ex)), σ = [some (.ref a), some (.int m), some (.int e0.cost), some (.ref x0), some (.ref sq), some (.ref tq), u6, u7] ∧ me = gw gs ∧ ss ++ gsts m gs = stp m e0 0 1 none 1 ∧ (∀ g ∈ gs, Gok m src g) ∧ Same H4 H' ∧ LD H' sq (ss.map Step.d) ∧ LD H' tq (gs.reverse.map (fun g : Tq × Ex => g.1.d))) (gw [(⟨src.length - 1, 0, 1, none, 1⟩, e0)])
      ⟨_, _, [], [(⟨src.length - 1, 0, 1, none, 1⟩, e0)], rfl, rfl, by simp only [gsts, gst, List.append_nil, List.nil_append], fun g hg => by rw [List.mem_singleton.mp hg]; exact hg0, s48, LD.nil hsq, ⟨_, htq, _, _, rfl, ⟨z2, _, rfl, s8 _ _ hz2, _, _, rfl, by
        show V.int _ = V.int _
        rw [hl]
        congr 1
        show (src.length : Int) - 1 = ((src.length - 1 : Nat) : Int)
        omega, _, _, rfl, rfl, _, _, rfl, rfl, _, _, rfl, ⟨z, _, rfl, s8 _ _ (s7 _ _ hz), rfl⟩, _, _, rfl, rfl, rfl⟩, rfl⟩⟩ ?_
    rintro me σ H6 ⟨u6, u7, ss, gs, rfl, rfl, hsum, hrest0, s6', ls, lt⟩
    have hsl0 : (ss ++ gsts m gs).length = e0.cost := by rw [hsum, stp_len]
    rw [List.length_append] at hsl0
    cases gs with
    | nil =>
      obtain ⟨ws', hq, hws'⟩ := id lt
      have e : ws' = [] := hws'
      subst e
      obtain ⟨wss, hsq6, hwss⟩ := id ls
      obtain ⟨dx, q', wq', hx0, _⟩ := pr0.same s6'
      walk_at "rd"
      refine n_truL hq ?_
      refine w_f ?_
      walk_at "rd"
      have e : ss = stp m e0 0 1 none 1 := by rw [← hsum, gsts, List.append_nil]
      subst e
      exact n_mk rfl hsq6 hwss vp fun x H10 nx s10 pr => k x H10 (s14.trans (s6'.trans s10)) pr vp
    | cons g rest =>
      obtain ⟨x, e⟩ := g
      have hg := hrest0 _ List.mem_cons_self
      have hrest : ∀ g ∈ rest, Gok m src g := fun g h => hrest0 g (List.mem_cons_of_mem _ h)
      rw [List.reverse_cons, List.map_append] at lt
      obtain ⟨wt, vt, ht6, hwt, hvt⟩ := LD.pop lt
      walk_at "rd"
      refine n_truS ht6 ?_
      refine w_t ?_
      walk_at "rd"
      refine r_pop (by with_unfolding_all rfl) ht6 fun H7 k7 ht7 => ?_
      have s7' := same_kp ntq4 s6' k7
      have s07 := s14.trans s7'
      have ls7 := ls.kp (steps_flat _) ht6 k7 st
      have lt7 := LD.popped ht6 hwt (flats_map (fun g : Tq × Ex => Tq.flat g.1) _) k7 ht7
      have hvt7 := hvt.tk (TK.kp ht6 k7) (Tq.flat x)
      have hxi : x.i < src.length := un_lt hg.un
      obtain ⟨nd, hnd⟩ : ∃ nd, src[x.i]? = some nd := ⟨_, List.getElem?_eq_getElem hxi⟩
      obtain ⟨nv, hnv, hnr⟩ := hws.get (i := x.i) (d := nd.d) (by rw [List.getElem?_map, hnd]; rfl)
      have hnv0 := hnr.same s07
      obtain ⟨at_, _, rfl, hat, y1, _, rfl, rfl, y2, _, rfl, rfl, y3, _, rfl, rfl, y4, _, rfl, hfac, y5, _, rfl, rfl, rfl⟩ := id hvt7
      walk_at "rd"
      refine r_ixT (s07 _ _ ha) (atI_nat hnv) ?_
      walk_at "rd"
      cases nd with
      | const n =>
        obtain ⟨b, _, rfl, hb, w1, _, rfl, rfl, w2, _, rfl, rfl, rfl⟩ := id hnv0
        obtain ⟨wss, hsq7, hwss⟩ := id ls7
        have hsl := hwss.len
        rw [List.length_map] at hsl
        have hlf := leaf_g hg hnd rfl
        walk_at "rd"
        refine ⟨(.const n), x, m, _, _, rfl, rfl, hnv0, hvt7, m2, m9, hg.c0, hg.c1, fun v' H8 s8 hv' => ?_⟩
        replace hsq7 := s8 _ _ hsq7
        replace hwss := hwss.same s8
        have s78 := s7'.trans s8
        have lt8 := lt7.same s8
        walk_at "rd"
        refine n_app hsq7 (by omega) fun H9 k9 hsq9 => ?_
        walk_at "rd"
        refine ⟨_, ?_, _, _, ss ++ [leafS m x (.const n)], rest, rfl, rfl, ?_, hrest, same_kp nsq s78 k9, ?_, lt8.kp (flats_map (fun g : Tq × Ex => Tq.flat g.1) _) hsq7 k9 st.symm⟩
        · have := wt_pos e
          show gw rest < e.wt + gw rest
          omega
        · rw [List.append_assoc, ← hlf]
          exact hsum
        · rw [List.map_append]
          exact LD.push hsq7 hwss hv' (steps_flat _) (step_flat _) k9 hsq9
      | input n =>
        obtain ⟨b, _, rfl, hb, w1, _, rfl, rfl, w2, _, rfl, rfl, rfl⟩ := id hnv0
        obtain ⟨wss, hsq7, hwss⟩ := id ls7
        have hsl := hwss.len
        rw [List.length_map] at hsl
        have hlf := leaf_g hg hnd rfl
        walk_at "rd"
        refine ⟨(.input n), x, m, _, _, rfl, rfl, hnv0, hvt7, m2, m9, hg.c0, hg.c1, fun v' H8 s8 hv' => ?_⟩
        replace hsq7 := s8 _ _ hsq7
        replace hwss := hwss.same s8
        have s78 := s7'.trans s8
        have lt8 := lt7.same s8
        walk_at "rd"
        refine n_app hsq7 (by omega) fun H9 k9 hsq9 => ?_
        walk_at "rd"
        refine ⟨_, ?_, _, _, ss ++ [leafS m x (.input n)], rest, rfl, rfl, ?_, hrest, same_kp nsq s78 k9, ?_, lt8.kp (flats_map (fun g : Tq × Ex => Tq.flat g.1) _) hsq7 k9 st.symm⟩
        · have := wt_pos e
          show gw rest < e.wt + gw rest
          omega
        · rw [List.append_assoc, ← hlf]
          exact hsum
        · rw [List.map_append]
          exact LD.push hsq7 hwss hv' (steps_flat _) (step_flat _) k9 hsq9
      | sum i j =>
        obtain ⟨b, _, rfl, hb, w1, _, rfl, rfl, w2, _, rfl, rfl, w3, _, rfl, rfl, rfl⟩ := id hnv0
        obtain ⟨gs, g1, g2, g3, g4⟩ := inner_g m2 hg hnd rfl
        obtain ⟨wt7, htq7, hwt7⟩ := id lt7
        have hwl7 := hwt7.len
        rw [List.length_map, List.length_reverse] at hwl7
        walk_at "rd"
        refine ⟨(.sum i j), x, m, _, _, rfl, rfl, hnv0, hvt7, m2, m9, hg.c0, hg.c1, fun q1 H8 nq1 s8 lq => ?_⟩
        obtain ⟨wq, hq, hwq⟩ := lq
        have hql := hwq.len
        rw [List.length_map, ← g1, List.length_map] at hql
        walk_at "rd"
        refine n_revL hq fun q2 H9 nq2 s9 hq2 => ?_
        have s89 := s8.trans s9
        replace htq7 := s89 _ _ htq7
        replace hwt7 := hwt7.same s89
        have hgl : (gs ++ rest).length ≤ 20000 := by
          have h1 := gsts_len (m := m) (gs ++ rest)
          rw [gsts_app, g3] at h1
          rw [gsts] at hsl0
          simp only [List.length_append] at h1 hsl0 ⊢
          omega
        rw [List.length_append] at hgl
        refine n_ext htq7 hq2 (by rw [List.length_reverse]; omega) fun H10 k10 h10 => ?_
        walk_at "rd"
        refine ⟨_, ?_, _, _, ss, gs ++ rest, rfl, rfl, ?_, ?_, same_kp ntq4 (s7'.trans s89) k10, (ls7.same s89).kp (steps_flat _) htq7 k10 st, ?_⟩
        · rw [gw_app]
          show gw gs + gw rest < e.wt + gw rest
          omega
        · rw [gsts_app, g3, ← hsum, gsts]
        · intro g hg
          rcases List.mem_append.mp hg with q | q
          · exact g2 g q
          · exact hrest g q
        · rw [List.reverse_append, List.map_append]
          refine LD.ext htq7 hwt7 ?_ (flats_map (fun g : Tq × Ex => Tq.flat g.1) _) (flats_map (fun g : Tq × Ex => Tq.flat g.1) _) k10 h10
          have e : gs.reverse.map (fun g : Tq × Ex => g.1.d) = ((innerT m (.sum i j) x).map Tq.d).reverse := by rw [← g1, List.map_map, List.map_reverse]; rfl
          rw [e]
          exact (hwq.rev).same s9
      | product i j =>
        obtain ⟨b, _, rfl, hb, w1, _, rfl, rfl, w2, _, rfl, rfl, w3, _, rfl, rfl, rfl⟩ := id hnv0
        obtain ⟨gs, g1, g2, g3, g4⟩ := inner_g m2 hg hnd rfl
        obtain ⟨wt7, htq7, hwt7⟩ := id lt7
        have hwl7 := hwt7.len
        rw [List.length_map, List.length_reverse] at hwl7
        walk_at "rd"
        refine ⟨(.product i j), x, m, _, _, rfl, rfl, hnv0, hvt7, m2, m9, hg.c0, hg.c1, fun q1 H8 nq1 s8 lq => ?_⟩
        obtain ⟨wq, hq, hwq⟩ := lq
        have hql := hwq.len
        rw [List.length_map, ← g1, List.length_map] at hql
        walk_at "rd"
        refine n_revL hq fun q2 H9 nq2 s9 hq2 => ?_
        have s89 := s8.trans s9
        replace htq7 := s89 _ _ htq7
        replace hwt7 := hwt7.same s89
        have hgl : (gs ++ rest).length ≤ 20000 := by
          have h1 := gsts_len (m := m) (gs ++ rest)
          rw [gsts_app, g3] at h1
          rw [gsts] at hsl0
          simp only [List.length_append] at h1 hsl0 ⊢
          omega
        rw [List.length_append] at hgl
        refine n_ext htq7 hq2 (by rw [List.length_reverse]; omega) fun H10 k10 h10 => ?_
        walk_at "rd"
        refine ⟨_, ?_, _, _, ss, gs ++ rest, rfl, rfl, ?_, ?_, same_kp ntq4 (s7'.trans s89) k10, (ls7.same s89).kp (steps_flat _) htq7 k10 st, ?_⟩
        · rw [gw_app]
          show gw gs + gw rest < e.wt + gw rest
          omega
        · rw [gsts_app, g3, ← hsum, gsts]
        · intro g hg
          rcases List.mem_append.mp hg with q | q
          · exact g2 g q
          · exact hrest g q
        · rw [List.reverse_append, List.map_append]
          refine LD.ext htq7 hwt7 ?_ (flats_map (fun g : Tq × Ex => Tq.flat g.1) _) (flats_map (fun g : Tq × Ex => Tq.flat g.1) _) k10 h10
          have e : gs.reverse.map (fun g : Tq × Ex => g.1.d) = ((innerT m (.product i j) x).map Tq.d).reverse := by rw [← g1, List.map_map, List.map_reverse]; rfl
          rw [e]
          exact (hwq.rev).same s9
      | scaled i j =>
        obtain ⟨b, _, rfl, hb, w1, _, rfl, rfl, w2, _, rfl, rfl, w3, _, rfl, rfl, rfl⟩ := id hnv0
        obtain ⟨gs, g1, g2, g3, g4⟩ := inner_g m2 hg hnd rfl
        obtain ⟨wt7, htq7, hwt7⟩ := id lt7
        have hwl7 := hwt7.len
        rw [List.length_map, List.length_reverse] at hwl7
        walk_at "rd"
        refine ⟨(.scaled i j), x, m, _, _, rfl, rfl, hnv0, hvt7, m2, m9, hg.c0, hg.c1, fun q1 H8 nq1 s8 lq => ?_⟩
        obtain ⟨wq, hq, hwq⟩ := lq
        have hql := hwq.len
        rw [List.length_map, ← g1, List.length_map] at hql
        walk_at "rd"
        refine n_revL hq fun q2 H9 nq2 s9 hq2 => ?_
        have s89 := s8.trans s9
        replace htq7 := s89 _ _ htq7
        replace hwt7 := hwt7.same s89
        have hgl : (gs ++ rest).length ≤ 20000 := by
          have h1 := gsts_len (m := m) (gs ++ rest)
          rw [gsts_app, g3] at h1
          rw [gsts] at hsl0
          simp only [List.length_append] at h1 hsl0 ⊢
          omega
        rw [List.length_append] at hgl
        refine n_ext htq7 hq2 (by rw [List.length_reverse]; omega) fun H10 k10 h10 => ?_
        walk_at "rd"
        refine ⟨_, ?_, _, _, ss, gs ++ rest, rfl, rfl, ?_, ?_, same_kp ntq4 (s7'.trans s89) k10, (ls7.same s89).kp (steps_flat _) htq7 k10 st, ?_⟩
        · rw [gw_app]
          show gw gs + gw rest < e.wt + gw rest
          omega
        · rw [gsts_app, g3, ← hsum, gsts]
        · intro g hg
          rcases List.mem_append.mp hg with q | q
          · exact g2 g q
          · exact hrest g q
        · rw [List.reverse_append, List.map_append]
          refine LD.ext htq7 hwt7 ?_ (flats_map (fun g : Tq × Ex => Tq.flat g.1) _) (flats_map (fun g : Tq × Ex => Tq.flat g.1) _) k10 h10
          have e : gs.reverse.map (fun g : Tq × Ex => g.1.d) = ((innerT m (.scaled i j) x).map Tq.d).reverse := by rw [← g1, List.map_map, List.map_reverse]; rfl
          rw [e]
          exact (hwq.rev).same s9
      | choose i j l =>
        obtain ⟨b, _, rfl, hb, w1, _, rfl, rfl, w2, _, rfl, rfl, w3, _, rfl, rfl, w4, _, rfl, rfl, rfl⟩ := id hnv0
        obtain ⟨gs, g1, g2, g3, g4⟩ := inner_g m2 hg hnd rfl
        obtain ⟨wt7, htq7, hwt7⟩ := id lt7
        have hwl7 := hwt7.len
        rw [List.length_map, List.length_reverse] at hwl7
        walk_at "rd"
        refine ⟨(.choose i j l), x, m, _, _, rfl, rfl, hnv0, hvt7, m2, m9, hg.c0, hg.c1, fun q1 H8 nq1 s8 lq => ?_⟩
        obtain ⟨wq, hq, hwq⟩ := lq
        have hql := hwq.len
        rw [List.length_map, ← g1, List.length_map] at hql
        walk_at "rd"
        refine n_revL hq fun q2 H9 nq2 s9 hq2 => ?_
        have s89 := s8.trans s9
        replace htq7 := s89 _ _ htq7
        replace hwt7 := hwt7.same s89
        have hgl : (gs ++ rest).length ≤ 20000 := by
          have h1 := gsts_len (m := m) (gs ++ rest)
          rw [gsts_app, g3] at h1
          rw [gsts] at hsl0
          simp only [List.length_append] at h1 hsl0 ⊢
          omega
        rw [List.length_append] at hgl
        refine n_ext htq7 hq2 (by rw [List.length_reverse]; omega) fun H10 k10 h10 => ?_
        walk_at "rd"
        refine ⟨_, ?_, _, _, ss, gs ++ rest, rfl, rfl, ?_, ?_, same_kp ntq4 (s7'.trans s89) k10, (ls7.same s89).kp (steps_flat _) htq7 k10 st, ?_⟩
        · rw [gw_app]
          show gw gs + gw rest < e.wt + gw rest
          omega
        · rw [gsts_app, g3, ← hsum, gsts]
        · intro g hg
          rcases List.mem_append.mp hg with q | q
          · exact g2 g q
          · exact hrest g q
        · rw [List.reverse_append, List.map_append]
          refine LD.ext htq7 hwt7 ?_ (flats_map (fun g : Tq × Ex => Tq.flat g.1) _) (flats_map (fun g : Tq × Ex => Tq.flat g.1) _) k10 h10
          have e : gs.reverse.map (fun g : Tq × Ex => g.1.d) = ((innerT m (.choose i j l) x).map Tq.d).reverse := by rw [← g1, List.map_map, List.map_reverse]; rfl
          rw [e]
          exact (hwq.rev).same s9
end
end Bf
namespace Bf
open PySem L2
abbrev s_answer : Stmt := topS 62
theorem bi_answer : ∀ (kV doc pm : Value) (an : Option Addr) (cdv ct : Value) (us : List Value), us.length = 3 → bindArgs (PySem.W.fnOf "answer" "answer" (defArgs s_answer) (defBody s_answer) (defScope s_answer) .none kV doc pm an cdv ct) ⟨us, []⟩ = pure ((["program", "memory", "given"] : List Str).zip us) := fun _ _ _ _ _ _ us hl => match us, hl with | [_, _, _], _ => rfl
theorem sc_answer : FnScope ["program", "memory", "given", "middle", "back"] ["program", "memory", "given"] (defScope s_answer) := C8.fnScope_by (by decide +kernel)
def spAnswer (C : Addr) : Sp := fun vs H Q _ => ∃ (x l g : Addr) (m n : Int) (ss : List Step) (mem given : List Int), vs = [.ref x, .ref l, .ref g] ∧ Prg C H x m 3 n ss ∧ Vp m 3 n ss ∧ H l = some (.lst (mem.map V.int)) ∧ H g = some (.lst (given.map V.int)) ∧ Mem m 3 mem ∧ Mem m n given ∧
  ∀ p q H', H q = none → Same H H' → H' p = some (.tup [.int ((gt (runs m given mem ss) 0 - gt mem 0) % m), .ref q]) → H' q = some (.lst (mem.map V.int)) → Q (.ref p) H'
section
variable {P : Program} {w : World} {K : PySem.W.Frag} {mg : Str → Option Value} {base : Heap} {C : Addr}
theorem cal_answer (T : Gs mg) (G : PgC K C) (m___neg__ : C8.Met P w K mg base 9 C "__neg__" (spNeg C) []) (m_run : C8.Met P w K mg base 5 C "run" (spRun C) []) (F : DefAt K mg "answer" s_answer) : C8.Cal P w K mg base 10 "answer" (spAnswer C) [] := by
  refine cal_of F sc_answer bi_answer (fun vs H Q E h => ?_) (fun f cdv A outer s H vs Q E hr h => ?_)
  · obtain ⟨x, l, g, m, n, ss, mem, given, rfl, _⟩ := h
    rfl
  · refine ⟨_, (pss_cons (ps_set (i := 3) sc_answer.nd rfl (by first | exact Or.inl rfl | exact Or.inr rfl) (C8.pe_mt m_run hr (by first | decide | omega) (pv 0) (pa_cons (pv 1) (pa_cons (pv 2) pa_nil))))
      (pss_cons (ps_set (i := 4) sc_answer.nd rfl (by first | exact Or.inl rfl | exact Or.inr rfl) (C8.pe_mt m_run hr (by first | decide | omega) (pe_un (un_own m___neg__ hr (by decide)) (pv 0)) (pa_cons (pv 3) (pa_cons (pv 2) pa_nil))))
      (pss_one (ps_ret (pe_tup (pa_cons (pe_op op_mod (pe_op op_sub (pe_ix ix_seq (pv 3) pe_int (fun _ _ => rfl)) (pe_ix ix_seq (pv 1) pe_int (fun _ _ => rfl))) (pe_fld (pv 0) rfl)) (pa_cons (pv 4) pa_nil))))))), ?_⟩
    obtain ⟨x, l, g, m, n, ss, mem, given, rfl, pr, vp, hl, hg, hM, hG, k⟩ := h
    have m2 := vp.m2
    walk_at "rd"
    refine n_methP pr (fun _ => by with_unfolding_all rfl) ?_
    walk_at "rd"
    refine ⟨x, l, g, m, 3, n, ss, mem, given, rfl, pr, vp, hl, hg, hM, hG, fun q1 H1 nq1 s1 hq1 => ?_⟩
    have pr1 := pr.same s1
    have hM1 := runs_mem vp.m2 hM vp.ok (given := given)
    walk_at "rd"
    refine n_neg pr1 vp fun y H2 s2 pr2 => ?_
    walk_at "rd"
    refine n_methP pr2 (fun _ => by with_unfolding_all rfl) ?_
    walk_at "rd"
    have s12 := s1.trans s2
    refine ⟨y, q1, g, m, 3, n, _, _, given, rfl, pr2, vp.inverse, s2 _ _ hq1, s12 _ _ hg, hM1, hG, fun q2 H3 nq2 s3 hq2 => ?_⟩
    rw [runs_undo vp.m2 hM vp.ok] at hq2
    have s13 := s12.trans s3
    have l1 := hM.1
    have l2 := hM1.1
    walk_at "rd"
    refine r_ixL (s3 _ _ (s2 _ _ hq1)) (gt_V (i := 0) (by decide) (by omega)) ?_
    walk_at "rd"
    refine r_ixL (s13 _ _ hl) (gt_V (i := 0) (by decide) (by omega)) ?_
    obtain ⟨dx, q', wq', hx, _⟩ := id (pr.same s13)
    have g1 := G.cls
    have g2 := G.mo
    walk_at "rd"
    refine n_tup (Nat.le_of_ble_eq_true rfl) fun p H4 np s4 hp => ?_
    exact k p q2 H4 (none_of_same s12 nq2) (s13.trans s4) hp (s4 _ _ hq2)
end
end Bf
/-! texts of numbers, nodes, sources: plain -/
namespace Bf
open PySem SX TL
theorem num_head {n : Nat} (h : 0 < n) : (numL n)[0]? ≠ some 48 := by
  induction n using Nat.strongRecOn with
  | ind n ih =>
    by_cases h10 : n < 10
    · rw [numL_lt h10]
      intro e
      have : 48 + n = 48 := Option.some.inj e
      omega
    · rw [numL_step (by omega), List.getElem?_append_left (List.length_pos_iff.mpr (numL_ne _))]
      exact ih (n / 10) (by omega) (by omega)
theorem num_lead {n : Nat} (h : (numL n)[0]? = some 48) : (numL n).length = 1 := by
  have e : n = 0 := by
    apply Nat.eq_zero_of_not_pos
    intro hp
    exact num_head hp h
  subst e
  rw [numL_lt (by decide)]
  rfl
theorem num_pos (n : Nat) : 1 ≤ (numL n).length := List.length_pos_iff.mpr (numL_ne n)
theorem digit_in {n c : Nat} (h : c ∈ numL n) : c ∈ (Str.ofString "0123456789").cps.toList := by
  have r := numL_digits n c h
  have e : (Str.ofString "0123456789").cps.toList = [48, 49, 50, 51, 52, 53, 54, 55, 56, 57] := by decide +kernel
  rw [e]
  simp only [List.mem_cons, List.not_mem_nil, or_false]
  omega
/-- two texts whose first signs differ -/
theorem S_ne {a b : List Nat} (h : a.head? ≠ b.head?) : S a ≠ S b := fun e => h (by rw [S_inj e])
theorem num_head_free {n s : Nat} (h : s < 48 ∨ 57 < s) (r : List Nat) : (numL n ++ r).head? ≠ some s := by
  obtain ⟨c, t, e⟩ : ∃ c t, numL n = c :: t := by
    cases hn : numL n with
    | nil => exact absurd hn (numL_ne n)
    | cons c t => exact ⟨c, t, rfl⟩
  rw [e]
  intro q
  have q : c = s := Option.some.inj q
  exact numL_free h (by rw [e, ← q]; exact List.mem_cons_self)
def ixL (i : Nat) : List Nat := 35 :: numL i
def Nd.ws : Nd → List (List Nat)
  | .const n => [numL n.toNat]
  | .input i => [36 :: numL i]
  | .sum i j => [ixL i, [43], ixL j]
  | .product i j => [ixL i, [42], ixL j]
  | .scaled n i => [numL n.toNat, [42], ixL i]
  | .choose i j l => [ixL i, [63], ixL j, [58], ixL l]
def Nd.tx (x : Nd) : List Nat := joinL [32] x.ws
def srcL (src : List Nd) : List Nat := joinL [59, 32] (src.map Nd.tx)
theorem ix_free {i s : Nat} (h : s < 48 ∨ 57 < s) (h2 : s ≠ 35) : s ∉ ixL i := fun e => by
  rcases List.mem_cons.mp e with q | q
  · exact h2 q
  · exact numL_free h q
theorem ws_free {s : Nat} (hs : s = 32 ∨ s = 59) (x : Nd) : ∀ w ∈ x.ws, s ∉ w := by
  have h1 : ∀ n, s ∉ numL n := fun n => numL_free (by omega)
  have h2 : ∀ i, s ∉ ixL i := fun i => ix_free (by omega) (by omega)
  have h3 : ∀ c, c ≠ s → s ∉ [c] := fun c h e => h (List.mem_singleton.mp e).symm
  cases x <;> (intro w hw; simp only [Nd.ws, List.mem_cons, List.not_mem_nil, or_false] at hw)
  case const n => subst hw; exact h1 _
  case input i =>
    subst hw
    intro e
    rcases List.mem_cons.mp e with q | q
    · omega
    · exact h1 _ q
  case sum i j => rcases hw with q | q | q <;> subst q <;> first | exact h2 _ | exact h3 _ (by omega)
  case product i j => rcases hw with q | q | q <;> subst q <;> first | exact h2 _ | exact h3 _ (by omega)
  case scaled i j => rcases hw with q | q | q <;> subst q <;> first | exact h2 _ | exact h1 _ | exact h3 _ (by omega)
  case choose i j l => rcases hw with q | q | q | q | q <;> subst q <;> first | exact h2 _ | exact h3 _ (by omega)
theorem ws_ne (x : Nd) : x.ws ≠ [] := by cases x <;> simp [Nd.ws]
theorem mem_joinL {S' : List Nat} {c : Nat} : ∀ {l : List (List Nat)}, c ∈ joinL S' l → c ∈ S' ∨ ∃ w ∈ l, c ∈ w
  | [], h => by cases h
  | [p], h => .inr ⟨p, List.mem_singleton.mpr rfl, h⟩
  | p :: q :: r, h => by
    rcases List.mem_append.mp h with h | h
    · exact .inr ⟨p, List.mem_cons_self, h⟩
    · rcases List.mem_append.mp h with h | h
      · exact .inl h
      · rcases mem_joinL h with h | ⟨w, h1, h2⟩
        · exact .inl h
        · exact .inr ⟨w, List.mem_cons_of_mem _ h1, h2⟩
theorem len_joinL {S' : List Nat} {k : Nat} : ∀ {l : List (List Nat)}, (∀ w ∈ l, w.length ≤ k) → (joinL S' l).length ≤ l.length * (k + S'.length)
  | [], _ => by show 0 ≤ _; omega
  | [p], h => by
    have := h p (List.mem_singleton.mpr rfl)
    show p.length ≤ 1 * (k + S'.length)
    omega
  | p :: q :: r, h => by
    have h1 := h p List.mem_cons_self
    have h2 := len_joinL (S' := S') (l := q :: r) fun w hw => h w (List.mem_cons_of_mem _ hw)
    show (p ++ (S' ++ joinL S' (q :: r))).length ≤ _
    rw [List.length_append, List.length_append, List.length_cons, Nat.add_mul]
    omega
theorem tx_free (x : Nd) : 59 ∉ x.tx := fun h => by
  rcases mem_joinL h with q | ⟨w, h1, h2⟩
  · have := List.mem_singleton.mp q
    omega
  · exact ws_free (.inr rfl) x w h1 h2
theorem num9 {n : Nat} (h : n < 1000000000) : (numL n).length ≤ 9 := numL_len (by decide) h
theorem ws_len {x : Nd} {k : Nat} (hx : x.ok k) (hk : k ≤ 1000) : (∀ w ∈ x.ws, w.length ≤ 10) ∧ x.ws.length ≤ 5 := by
  have h1 : ∀ n : Int, n < 1000000000 → (numL n.toNat).length ≤ 10 := fun n h => by have := num9 (n := n.toNat) (by omega); omega
  have h2 : ∀ i, i < k → (ixL i).length ≤ 10 := fun i h => by
    have := num9 (n := i) (by omega)
    show (numL i).length + 1 ≤ 10
    omega
  cases x <;> refine ⟨?_, Nat.le_of_ble_eq_true rfl⟩ <;> (intro w hw; simp only [Nd.ws, List.mem_cons, List.not_mem_nil, or_false] at hw)
  case const n => subst hw; exact h1 _ hx.2
  case input i =>
    subst hw
    have hx : i < 60 := hx
    have := num9 (n := i) (by omega)
    show (numL i).length + 1 ≤ 10
    omega
  case sum i j => rcases hw with q | q | q <;> subst q <;> first | exact h2 _ hx.1 | exact h2 _ hx.2 | exact Nat.le_of_ble_eq_true rfl
  case product i j => rcases hw with q | q | q <;> subst q <;> first | exact h2 _ hx.1 | exact h2 _ hx.2 | exact Nat.le_of_ble_eq_true rfl
  case scaled i j => rcases hw with q | q | q <;> subst q <;> first | exact h2 _ hx.2 | exact h1 _ hx.1.2 | exact Nat.le_of_ble_eq_true rfl
  case choose i j l => rcases hw with q | q | q | q | q <;> subst q <;> first | exact h2 _ hx.1 | exact h2 _ hx.2.1 | exact h2 _ hx.2.2 | exact Nat.le_of_ble_eq_true rfl
theorem tx_len {x : Nd} {k : Nat} (hx : x.ok k) (hk : k ≤ 1000) : x.tx.length ≤ 55 := by
  obtain ⟨h1, h2⟩ := ws_len hx hk
  have := len_joinL (S' := [32]) h1
  have e : ([32] : List Nat).length = 1 := rfl
  rw [e] at this
  unfold Nd.tx
  omega
theorem srcL_len {src : List Nd} (ok : SrcOk src) (h2 : src.length ≤ 200) : (srcL src).length ≤ 11400 := by
  have h1 : ∀ w ∈ src.map Nd.tx, w.length ≤ 55 := fun w hw => by
    obtain ⟨x, hx, rfl⟩ := List.mem_map.mp hw
    obtain ⟨k, hk⟩ := List.getElem?_of_mem hx
    have hlt := (List.getElem?_eq_some_iff.mp hk).1
    exact tx_len (ok k x hk) (by omega)
  have := len_joinL (S' := [59, 32]) h1
  have e : ([59, 32] : List Nat).length = 2 := rfl
  rw [e, List.length_map] at this
  unfold srcL
  omega
theorem lit_sp : Str.ofString " " = S [32] := rfl
theorem lit_semi : Str.ofString "; " = S [59, 32] := rfl
theorem split_sp {ps : List (List Nat)} (hne : ps ≠ []) (h : ∀ p ∈ ps, 32 ∉ p) : Txt.split (S (joinL [32] ps)) (Str.ofString " ") = ps.map S := by
  rw [lit_sp, split_S (by simp) (by decide), TL.spl_join hne h]
theorem tx_split (x : Nd) : Txt.split (S x.tx) (Str.ofString " ") = x.ws.map S := split_sp (ws_ne x) (ws_free (.inl rfl) x)
theorem src_split {src : List Nd} (h : src ≠ []) : Txt.split (S (srcL src)) (Str.ofString "; ") = (src.map Nd.tx).map S := by
  rw [lit_semi, srcL, split_S (by simp) (by decide), TL.spl_join (by simpa using h) fun p hp => by
    obtain ⟨x, _, rfl⟩ := List.mem_map.mp hp
    exact tx_free x]
/-- a line whose first word is w -/
theorem split_word {w r : List Nat} (h : 32 ∉ w) : ∃ ps, ps ≠ [] ∧ Txt.split (S (w ++ 32 :: r)) (Str.ofString " ") = S w :: ps.map S := by
  refine ⟨spl [32] 0 [] r, ?_, ?_⟩
  · have : ∀ (k : Nat) (acc l : List Nat), spl [32] k acc l ≠ [] := by
      intro k acc l
      induction l generalizing k acc with
      | nil => rw [spl_nil]; simp
      | cons c t ih =>
        cases k with
        | zero =>
          unfold spl
          split
          · simp
          · exact ih _ _
        | succ k => unfold spl; exact ih _ _
    exact this _ _ _
  · rw [lit_sp, split_S (by simp) (by decide)]
    have e := spl_part1 (s := 32) (S := []) (rest := r) (acc := []) h
    have e' : spl [32] 0 [] (w ++ 32 :: r) = w :: spl [32] 0 [] r := by simpa using e
    rw [e', List.map_cons]
/-- lists of numbers, written -/
def writL (l : List Int) : List Nat := if l = [] then [45] else joinL [44] (l.map fun x => numL x.toNat)
theorem writ_free {s : Nat} (h : s = 32) (l : List Int) : s ∉ writL l := by
  unfold writL
  split
  · intro e
    have := List.mem_singleton.mp e
    omega
  · intro e
    rcases mem_joinL e with q | ⟨w, h1, h2⟩
    · have := List.mem_singleton.mp q
      omega
    · obtain ⟨x, _, rfl⟩ := List.mem_map.mp h1
      exact numL_free (by omega) h2
theorem writ_ne {l : List Int} (h : l ≠ []) : S (writL l) ≠ S [45] := by
  unfold writL
  rw [if_neg h]
  cases l with
  | nil => exact absurd rfl h
  | cons x r =>
    cases r with
    | nil =>
      refine S_ne ?_
      have := num_head_free (n := x.toNat) (s := 45) (by omega) []
      rw [List.append_nil] at this
      exact this
    | cons y t => exact S_ne (num_head_free (by omega) _)
theorem writ_split {l : List Int} (h : l ≠ []) : Txt.split (S (writL l)) (Str.ofString ",") = (l.map fun x => numL x.toNat).map S := by
  unfold writL
  rw [if_neg h, show Str.ofString "," = S [44] from rfl, split_S (by simp) (by decide), TL.spl_join (by simpa using h) fun p hp => by
    obtain ⟨x, _, rfl⟩ := List.mem_map.mp hp
    exact numL_free (by omega)]
theorem writ_len {l : List Int} {m : Int} (hm : m ≤ 1000000000) (h : ∀ x ∈ l, 0 ≤ x ∧ x < m) : (writL l).length ≤ 1 + l.length * 10 := by
  unfold writL
  split
  · show 1 ≤ _; omega
  · have h1 : ∀ w ∈ l.map fun x => numL x.toNat, w.length ≤ 9 := fun w hw => by
      obtain ⟨x, hx, rfl⟩ := List.mem_map.mp hw
      have := h x hx
      exact num9 (by omega)
    have := len_joinL (S' := [44]) h1
    have e : ([44] : List Nat).length = 1 := rfl
    rw [e, List.length_map] at this
    omega
theorem writ_join {l : List Int} (h : l ≠ []) : Txt.join (Str.ofString ",") ((l.map fun x => numL x.toNat).map S) = S (writL l) := by
  unfold writL
  rw [if_neg h, show Str.ofString "," = S [44] from rfl, join_S]
theorem src_join (src : List Nd) : Txt.join (Str.ofString "; ") ((src.map Nd.tx).map S) = S (srcL src) := by
  rw [lit_semi, join_S]; rfl
end Bf
namespace Bf
open PySem L2 SX TL
abbrev s_parse_number : Stmt := topS 52
theorem bi_parse_number : ∀ (kV doc pm : Value) (an : Option Addr) (cdv ct : Value) (us : List Value), us.length = 1 → bindArgs (PySem.W.fnOf "parse_number" "parse_number" (defArgs s_parse_number) (defBody s_parse_number) (defScope s_parse_number) .none kV doc pm an cdv ct) ⟨us, []⟩ = pure ((["text"] : List Str).zip us) := fun _ _ _ _ _ _ us hl => match us, hl with | [_], _ => rfl
theorem sc_parse_number : FnScope ["text", "sign"] ["text"] (defScope s_parse_number) := C8.fnScope_by (by decide +kernel)
abbrev s_number_of : Stmt := topS 66
theorem bi_number_of : ∀ (kV doc pm : Value) (an : Option Addr) (cdv ct : Value) (us : List Value), us.length = 1 → bindArgs (PySem.W.fnOf "number_of" "number_of" (defArgs s_number_of) (defBody s_number_of) (defScope s_number_of) .none kV doc pm an cdv ct) ⟨us, []⟩ = pure ((["word"] : List Str).zip us) := fun _ _ _ _ _ _ us hl => match us, hl with | [_], _ => rfl
theorem sc_number_of : FnScope ["word", "sign"] ["word"] (defScope s_number_of) := C8.fnScope_by (by decide +kernel)
def spNum (b : Nat) : Sp := fun vs H Q _ => ∃ n : Nat, vs = [.str (S (numL n))] ∧ n < 10 ^ b ∧ Q (.int n) H
section
variable {P : Program} {w : World} {K : PySem.W.Frag} {mg : Str → Option Value} {base : Heap}
theorem cal_parse_number (T : Gs mg) (F : DefAt K mg "parse_number" s_parse_number) : C8.Cal P w K mg base 1 "parse_number" (spNum 9) [] := by
  refine cal_of F sc_parse_number bi_parse_number (fun vs H Q E h => ?_) (fun f cdv A outer s H vs Q E hr h => ?_)
  · obtain ⟨n, rfl, _⟩ := h
    rfl
  · refine ⟨_, (pss_cons (ps_if (pt_not (pt_chain op_le op_le pe_int (pe_callB b_len (by rfl) T.n_len PySem.boot_len (pa_cons (pv 0) pa_nil)) pe_int)) (pss_one (ps_never)) pss_nil)
      (pss_cons (ps_for PassesOwn.never rfl (pi_str (pv 0)) (pg_name (i := 1) sc_parse_number.nd rfl (by first | exact Or.inl rfl | exact Or.inr rfl)) (pss_one (ps_if (pt_cmpR op_ninS (pv 1) pe_str (by with_unfolding_all rfl)) (pss_one (ps_never)) pss_nil)))
      (pss_cons (ps_if (PW.pt (pw_and (pt_cmpR op_eq (pe_ix ix_seq (pv 0) pe_int (fun _ _ => rfl)) pe_str (nomark _)) (pw_and1 (pt_cmpR op_gt (pe_callB b_len (by rfl) T.n_len PySem.boot_len (pa_cons (pv 0) pa_nil)) pe_int (nomark _))))) (pss_one (ps_never)) pss_nil)
      (pss_one (ps_ret (pe_callTy b_intS (by rfl) T.n_int (by decide +kernel) (pa_cons (pv 0) pa_nil))))))), ?_⟩
    obtain ⟨n, rfl, hn, k⟩ := h
    have hl := numL_len (k := 9) (by decide) hn
    have hp := num_pos n
    have hsz : sizeLine = 2 ^ 24 := rfl
    walk_at "rd"
    refine n_lenS (by omega) ?_
    walk_at "rd"
    refine n_forS (fun i σ H' => ∃ u1 : Option V, σ = [some (.str (S (numL n))), u1] ∧ H' = H) ⟨_, rfl, rfl⟩ ?_ ?_
    · rintro i c σ H' hc ⟨u1, rfl, rfl⟩
      walk_at "rd"
      refine n_ninS ?_
      have hd := digit_in (List.mem_of_getElem? hc)
      walk_at "rd"
      exact ⟨_, rfl, rfl⟩
    · rintro σ H' ⟨u1, rfl, rfl⟩
      walk_at "rd"
      obtain ⟨c, hc⟩ : ∃ c, (numL n)[0]? = some c := ⟨_, List.getElem?_eq_getElem (by omega)⟩
      refine n_ixS (by omega) (at_nat (by decide) hc) ?_
      walk_at "rd"
      by_cases hz : c = 48
      · subst hz
        have h1 := num_lead hc
        walk_at "rd"
        refine n_lenS (by omega) ?_
        walk_at "rd"
        refine n_intS (Nat.lt_of_lt_of_le hn (Nat.pow_le_pow_right (by decide) (by decide))) ?_
        exact k
      · have hz' : ¬ (S [c] = Str.ofString "0") := fun e => hz (by
          have e2 : S [c] = S [48] := e
          exact List.head_eq_of_cons_eq (S_inj e2))
        walk_at "rd"
        refine n_intS (Nat.lt_of_lt_of_le hn (Nat.pow_le_pow_right (by decide) (by decide))) ?_
        exact k
theorem cal_number_of (T : Gs mg) (F : DefAt K mg "number_of" s_number_of) : C8.Cal P w K mg base 1 "number_of" (spNum 40) [] := by
  refine cal_of F sc_number_of bi_number_of (fun vs H Q E h => ?_) (fun f cdv A outer s H vs Q E hr h => ?_)
  · obtain ⟨n, rfl, _⟩ := h
    rfl
  · refine ⟨_, (pss_cons (ps_if (pt_not (pt_chain op_le op_le pe_int (pe_callB b_len (by rfl) T.n_len PySem.boot_len (pa_cons (pv 0) pa_nil)) (C8.pe_gc rfl T.c_FIGURES))) (pss_one (ps_never)) pss_nil)
      (pss_cons (ps_for PassesOwn.never rfl (pi_str (pv 0)) (pg_name (i := 1) sc_number_of.nd rfl (by first | exact Or.inl rfl | exact Or.inr rfl)) (pss_one (ps_if (pt_cmpR op_ninS (pv 1) pe_str (by with_unfolding_all rfl)) (pss_one (ps_never)) pss_nil)))
      (pss_cons (ps_if (PW.pt (pw_and (pt_cmpR op_eq (pe_ix ix_seq (pv 0) pe_int (fun _ _ => rfl)) pe_str (nomark _)) (pw_and1 (pt_cmpR op_gt (pe_callB b_len (by rfl) T.n_len PySem.boot_len (pa_cons (pv 0) pa_nil)) pe_int (nomark _))))) (pss_one (ps_never)) pss_nil)
      (pss_one (ps_ret (pe_callTy b_intS (by rfl) T.n_int (by decide +kernel) (pa_cons (pv 0) pa_nil))))))), ?_⟩
    obtain ⟨n, rfl, hn, k⟩ := h
    have hl := numL_len (k := 40) (by decide) hn
    have hp := num_pos n
    have hsz : sizeLine = 2 ^ 24 := rfl
    walk_at "rd"
    refine n_lenS (by omega) ?_
    walk_at "rd"
    refine n_forS (fun i σ H' => ∃ u1 : Option V, σ = [some (.str (S (numL n))), u1] ∧ H' = H) ⟨_, rfl, rfl⟩ ?_ ?_
    · rintro i c σ H' hc ⟨u1, rfl, rfl⟩
      walk_at "rd"
      refine n_ninS ?_
      have hd := digit_in (List.mem_of_getElem? hc)
      walk_at "rd"
      exact ⟨_, rfl, rfl⟩
    · rintro σ H' ⟨u1, rfl, rfl⟩
      walk_at "rd"
      obtain ⟨c, hc⟩ : ∃ c, (numL n)[0]? = some c := ⟨_, List.getElem?_eq_getElem (by omega)⟩
      refine n_ixS (by omega) (at_nat (by decide) hc) ?_
      walk_at "rd"
      by_cases hz : c = 48
      · subst hz
        have h1 := num_lead hc
        walk_at "rd"
        refine n_lenS (by omega) ?_
        walk_at "rd"
        refine n_intS (Nat.lt_of_lt_of_le hn (Nat.pow_le_pow_right (by decide) (by decide))) ?_
        exact k
      · have hz' : ¬ (S [c] = Str.ofString "0") := fun e => hz (by
          have e2 : S [c] = S [48] := e
          exact List.head_eq_of_cons_eq (S_inj e2))
        walk_at "rd"
        refine n_intS (Nat.lt_of_lt_of_le hn (Nat.pow_le_pow_right (by decide) (by decide))) ?_
        exact k
end
end Bf
namespace Bf
open PySem L2 SX TL
abbrev s_parse_index : Stmt := topS 53
theorem bi_parse_index : ∀ (kV doc pm : Value) (an : Option Addr) (cdv ct : Value) (us : List Value), us.length = 1 → bindArgs (PySem.W.fnOf "parse_index" "parse_index" (defArgs s_parse_index) (defBody s_parse_index) (defScope s_parse_index) .none kV doc pm an cdv ct) ⟨us, []⟩ = pure ((["text"] : List Str).zip us) := fun _ _ _ _ _ _ us hl => match us, hl with | [_], _ => rfl
theorem sc_parse_index : FnScope ["text"] ["text"] (defScope s_parse_index) := C8.fnScope_by (by decide +kernel)
abbrev s_parse_node : Stmt := topS 54
theorem bi_parse_node : ∀ (kV doc pm : Value) (an : Option Addr) (cdv ct : Value) (us : List Value), us.length = 1 → bindArgs (PySem.W.fnOf "parse_node" "parse_node" (defArgs s_parse_node) (defBody s_parse_node) (defScope s_parse_node) .none kV doc pm an cdv ct) ⟨us, []⟩ = pure ((["text"] : List Str).zip us) := fun _ _ _ _ _ _ us hl => match us, hl with | [_], _ => rfl
theorem sc_parse_node : FnScope ["text", "words"] ["text"] (defScope s_parse_node) := C8.fnScope_by (by decide +kernel)
def spIdx : Sp := fun vs H Q _ => ∃ n : Nat, vs = [.str (S (ixL n))] ∧ n < 1000000000 ∧ Q (.int n) H
def spPNode : Sp := fun vs H Q _ => ∃ (nd : Nd) (k : Nat), vs = [.str (S nd.tx)] ∧ nd.ok k ∧ k ≤ 1000 ∧ ∀ v H', Same H H' → Rp H' nd.d v → Q v H'
theorem first_ne {n s : Nat} (h : s < 48 ∨ 57 < s) : S ((numL n).take 1) ≠ S [s] := S_ne (by
  obtain ⟨c, t, e⟩ : ∃ c t, numL n = c :: t := by
    cases hn : numL n with
    | nil => exact absurd hn (numL_ne n)
    | cons c t => exact ⟨c, t, rfl⟩
  have := num_head_free (n := n) h []
  rw [List.append_nil, e] at this
  rw [e]
  exact this)
theorem node1 {H : Hp} {p : Addr} {s : Str} {n : Int} (h : H p = some (.tup [.str s, .int n])) : Rp H (.t [.s s, .i n]) (.ref p) := ⟨p, _, rfl, h, _, _, rfl, rfl, _, _, rfl, rfl, rfl⟩
theorem node2 {H : Hp} {p : Addr} {s : Str} {n k : Int} (h : H p = some (.tup [.str s, .int n, .int k])) : Rp H (.t [.s s, .i n, .i k]) (.ref p) := ⟨p, _, rfl, h, _, _, rfl, rfl, _, _, rfl, rfl, _, _, rfl, rfl, rfl⟩
theorem node3 {H : Hp} {p : Addr} {s : Str} {n k l : Int} (h : H p = some (.tup [.str s, .int n, .int k, .int l])) : Rp H (.t [.s s, .i n, .i k, .i l]) (.ref p) := ⟨p, _, rfl, h, _, _, rfl, rfl, _, _, rfl, rfl, _, _, rfl, rfl, _, _, rfl, rfl, rfl⟩
section
variable {P : Program} {w : World} {K : PySem.W.Frag} {mg : Str → Option Value} {base : Heap}
theorem cal_parse_index (T : Gs mg) (c_parse_number : C8.Cal P w K mg base 1 "parse_number" (spNum 9) []) (F : DefAt K mg "parse_index" s_parse_index) : C8.Cal P w K mg base 2 "parse_index" spIdx [] := by
  refine cal_of F sc_parse_index bi_parse_index (fun vs H Q E h => ?_) (fun f cdv A outer s H vs Q E hr h => ?_)
  · obtain ⟨n, rfl, _⟩ := h
    rfl
  · refine ⟨_, (pss_cons (ps_if (pt_cmpR op_ne (pe_slice C8.sl_txt (pv 0) po_none (po_some pe_int)) pe_str (nomark _)) (pss_one (ps_never)) pss_nil)
      (pss_one (ps_ret (C8.pe_c c_parse_number hr (by first | decide | omega) rfl (pa_cons (pe_slice C8.sl_txt (pv 0) (po_some pe_int) po_none) pa_nil))))), ?_⟩
    obtain ⟨n, rfl, hn, k⟩ := h
    have hl := num9 hn
    have hsz : sizeLine = 2 ^ 24 := rfl
    have hi : (ixL n).length ≤ sizeLine := by show (numL n).length + 1 ≤ _; omega
    walk_at "rd"
    refine n_slX hi (slice_to (i := 1) (by decide)) ?_
    replace k := k
    rw [show (ixL n).take (1 : Int).toNat = [35] from rfl]
    walk_at "rd"
    refine n_slX hi (slice_from (i := 1) (by decide)) ?_
    rw [show (ixL n).drop (1 : Int).toNat = numL n from rfl]
    exact ⟨n, rfl, hn, k⟩
theorem n_idx {n : Nat} {H : Hp} {Q : VK} {E : XK} (h : n < 1000000000) (k : Q (.int n) H) : spIdx ([.str (S (ixL n))] ++ []) H Q E := ⟨n, rfl, h, k⟩
theorem cal_parse_node (T : Gs mg) (c_parse_number : C8.Cal P w K mg base 1 "parse_number" (spNum 9) []) (c_parse_index : C8.Cal P w K mg base 2 "parse_index" spIdx []) (F : DefAt K mg "parse_node" s_parse_node) : C8.Cal P w K mg base 3 "parse_node" spPNode [] := by
  refine cal_of F sc_parse_node bi_parse_node (fun vs H Q E h => ?_) (fun f cdv A outer s H vs Q E hr h => ?_)
  · obtain ⟨nd, k, rfl, _⟩ := h
    rfl
  · refine ⟨_, (pss_cons (ps_set (i := 1) sc_parse_node.nd rfl (by first | exact Or.inl rfl | exact Or.inr rfl) (pe_splitN (pv 0) pe_str))
      (pss_cons (ps_if (PW.pt (pw_and (pt_cmpR op_eq (pe_callB b_len (by rfl) T.n_len PySem.boot_len (pa_cons (pv 1) pa_nil)) pe_int (nomark _)) (pw_and1 (pt_cmpR op_eq (pe_slice C8.sl_txt (pv 0) po_none (po_some pe_int)) pe_str (nomark _))))) (pss_one (ps_ret (pe_tup (pa_cons pe_str (pa_cons (C8.pe_c c_parse_number hr (by first | decide | omega) rfl (pa_cons (pe_slice C8.sl_txt (pv 0) (po_some pe_int) po_none) pa_nil)) pa_nil))))) pss_nil)
      (pss_cons (ps_if (pt_cmpR op_eq (pe_callB b_len (by rfl) T.n_len PySem.boot_len (pa_cons (pv 1) pa_nil)) pe_int (nomark _)) (pss_one (ps_ret (pe_tup (pa_cons pe_str (pa_cons (C8.pe_c c_parse_number hr (by first | decide | omega) rfl (pa_cons (pv 0) pa_nil)) pa_nil))))) pss_nil)
      (pss_cons (ps_if (PW.pt (pw_and (pt_cmpR op_eq (pe_callB b_len (by rfl) T.n_len PySem.boot_len (pa_cons (pv 1) pa_nil)) pe_int (nomark _)) (pw_and1 (pt_cmpR op_eq (pe_ix ix_seq (pv 1) pe_int (fun _ _ => rfl)) pe_str (nomark _))))) (pss_one (ps_ret (pe_tup (pa_cons pe_str (pa_cons (C8.pe_c c_parse_index hr (by first | decide | omega) rfl (pa_cons (pe_ix ix_seq (pv 1) pe_int (fun _ _ => rfl)) pa_nil)) (pa_cons (C8.pe_c c_parse_index hr (by first | decide | omega) rfl (pa_cons (pe_ix ix_seq (pv 1) pe_int (fun _ _ => rfl)) pa_nil)) pa_nil)))))) pss_nil)
      (pss_cons (ps_if (PW.pt (pw_and (pt_cmpR op_eq (pe_callB b_len (by rfl) T.n_len PySem.boot_len (pa_cons (pv 1) pa_nil)) pe_int (nomark _)) (pw_and (pt_cmpR op_eq (pe_ix ix_seq (pv 1) pe_int (fun _ _ => rfl)) pe_str (nomark _)) (pw_and1 (pt_cmpR op_eq (pe_slice C8.sl_txt (pe_ix ix_seq (pv 1) pe_int (fun _ _ => rfl)) po_none (po_some pe_int)) pe_str (nomark _)))))) (pss_one (ps_ret (pe_tup (pa_cons pe_str (pa_cons (C8.pe_c c_parse_index hr (by first | decide | omega) rfl (pa_cons (pe_ix ix_seq (pv 1) pe_int (fun _ _ => rfl)) pa_nil)) (pa_cons (C8.pe_c c_parse_index hr (by first | decide | omega) rfl (pa_cons (pe_ix ix_seq (pv 1) pe_int (fun _ _ => rfl)) pa_nil)) pa_nil)))))) pss_nil)
      (pss_cons (ps_if (PW.pt (pw_and (pt_cmpR op_eq (pe_callB b_len (by rfl) T.n_len PySem.boot_len (pa_cons (pv 1) pa_nil)) pe_int (nomark _)) (pw_and1 (pt_cmpR op_eq (pe_ix ix_seq (pv 1) pe_int (fun _ _ => rfl)) pe_str (nomark _))))) (pss_one (ps_ret (pe_tup (pa_cons pe_str (pa_cons (C8.pe_c c_parse_number hr (by first | decide | omega) rfl (pa_cons (pe_ix ix_seq (pv 1) pe_int (fun _ _ => rfl)) pa_nil)) (pa_cons (C8.pe_c c_parse_index hr (by first | decide | omega) rfl (pa_cons (pe_ix ix_seq (pv 1) pe_int (fun _ _ => rfl)) pa_nil)) pa_nil)))))) pss_nil)
      (pss_cons (ps_if (PW.pt (pw_and (pt_cmpR op_eq (pe_callB b_len (by rfl) T.n_len PySem.boot_len (pa_cons (pv 1) pa_nil)) pe_int (nomark _)) (pw_and (pt_cmpR op_eq (pe_ix ix_seq (pv 1) pe_int (fun _ _ => rfl)) pe_str (nomark _)) (pw_and1 (pt_cmpR op_eq (pe_ix ix_seq (pv 1) pe_int (fun _ _ => rfl)) pe_str (nomark _)))))) (pss_one (ps_ret (pe_tup (pa_cons pe_str (pa_cons (C8.pe_c c_parse_index hr (by first | decide | omega) rfl (pa_cons (pe_ix ix_seq (pv 1) pe_int (fun _ _ => rfl)) pa_nil)) (pa_cons (C8.pe_c c_parse_index hr (by first | decide | omega) rfl (pa_cons (pe_ix ix_seq (pv 1) pe_int (fun _ _ => rfl)) pa_nil)) (pa_cons (C8.pe_c c_parse_index hr (by first | decide | omega) rfl (pa_cons (pe_ix ix_seq (pv 1) pe_int (fun _ _ => rfl)) pa_nil)) pa_nil))))))) pss_nil)
      (pss_one (ps_never))))))))), ?_⟩
    obtain ⟨nd, k, rfl, ok, hk, q⟩ := h
    have hsz : sizeLine = 2 ^ 24 := rfl
    have hxl := tx_len ok hk
    have hwl := (ws_len ok hk).1
    walk_at "rd"
    refine n_split (tx_split _) (by decide +kernel) (by rw [S_len]; omega) fun r H1 nr s1 hr1 => ?_
    cases nd with
    | const n =>
      obtain ⟨n0, n1⟩ : 0 ≤ n ∧ n < 1000000000 := ok
      replace hr1 : H1 r = some (.lst [.str (S (numL n.toNat))]) := hr1
      have e : (Nd.const n).tx = numL n.toNat := rfl
      rw [e] at hxl ⊢
      walk_at "rd"
      refine n_slX (by omega) (slice_to (i := 1) (by decide)) ?_
      have hne := first_ne (n := n.toNat) (s := 36) (by omega)
      replace hne : ¬ (S ((numL n.toNat).take (1 : Int).toNat) = Str.ofString "$") := hne
      walk_at "rd"
      refine ⟨n.toNat, rfl, by omega, ?_⟩
      walk_at "rd"
      refine n_tup (Nat.le_of_ble_eq_true rfl) fun r2 H2 n2 s2 h2 => ?_
      rw [Int.toNat_of_nonneg n0] at h2
      exact q _ _ (s1.trans s2) (node1 h2)
    | input i =>
      have hi : i < 60 := ok
      replace hr1 : H1 r = some (.lst [.str (S (36 :: numL i))]) := hr1
      have e : (Nd.input i).tx = 36 :: numL i := rfl
      rw [e] at hxl ⊢
      walk_at "rd"
      refine n_slX (by omega) (slice_to (i := 1) (by decide)) ?_
      rw [show (36 :: numL i).take (1 : Int).toNat = [36] from rfl]
      walk_at "rd"
      refine n_slX (by omega) (slice_from (i := 1) (by decide)) ?_
      rw [show (36 :: numL i).drop (1 : Int).toNat = numL i from rfl]
      refine ⟨i, rfl, by omega, ?_⟩
      walk_at "rd"
      refine n_tup (Nat.le_of_ble_eq_true rfl) fun r2 H2 n2 s2 h2 => ?_
      exact q _ _ (s1.trans s2) (node1 h2)
    | sum i j =>
      obtain ⟨i1, j1⟩ : i < k ∧ j < k := ok
      replace hr1 : H1 r = some (.lst [.str (S (ixL i)), .str (S [43]), .str (S (ixL j))]) := hr1
      walk_at "rd"
      refine n_idx (by omega) ?_
      walk_at "rd"
      refine n_idx (by omega) ?_
      walk_at "rd"
      refine n_tup (Nat.le_of_ble_eq_true rfl) fun r2 H2 n2 s2 h2 => ?_
      exact q _ _ (s1.trans s2) (node2 h2)
    | product i j =>
      obtain ⟨i1, j1⟩ : i < k ∧ j < k := ok
      replace hr1 : H1 r = some (.lst [.str (S (ixL i)), .str (S [42]), .str (S (ixL j))]) := hr1
      have hil := hwl (ixL i) (by simp [Nd.ws])
      walk_at "rd"
      refine n_slX (by omega) (slice_to (i := 1) (by decide)) ?_
      rw [show (ixL i).take (1 : Int).toNat = [35] from rfl]
      walk_at "rd"
      refine n_idx (by omega) ?_
      walk_at "rd"
      refine n_idx (by omega) ?_
      walk_at "rd"
      refine n_tup (Nat.le_of_ble_eq_true rfl) fun r2 H2 n2 s2 h2 => ?_
      exact q _ _ (s1.trans s2) (node2 h2)
    | scaled n j =>
      obtain ⟨⟨n0, n1⟩, j1⟩ : (0 ≤ n ∧ n < 1000000000) ∧ j < k := ok
      replace hr1 : H1 r = some (.lst [.str (S (numL n.toNat)), .str (S [42]), .str (S (ixL j))]) := hr1
      have hil := hwl (numL n.toNat) (by simp [Nd.ws])
      walk_at "rd"
      refine n_slX (by omega) (slice_to (i := 1) (by decide)) ?_
      have hne := first_ne (n := n.toNat) (s := 35) (by omega)
      replace hne : ¬ (S ((numL n.toNat).take (1 : Int).toNat) = Str.ofString "#") := hne
      walk_at "rd"
      refine ⟨n.toNat, rfl, by omega, ?_⟩
      walk_at "rd"
      refine n_idx (by omega) ?_
      walk_at "rd"
      refine n_tup (Nat.le_of_ble_eq_true rfl) fun r2 H2 n2 s2 h2 => ?_
      rw [Int.toNat_of_nonneg n0] at h2
      exact q _ _ (s1.trans s2) (node2 h2)
    | choose i j l =>
      obtain ⟨i1, j1, l1⟩ : i < k ∧ j < k ∧ l < k := ok
      replace hr1 : H1 r = some (.lst [.str (S (ixL i)), .str (S [63]), .str (S (ixL j)), .str (S [58]), .str (S (ixL l))]) := hr1
      walk_at "rd"
      refine n_idx (by omega) ?_
      walk_at "rd"
      refine n_idx (by omega) ?_
      walk_at "rd"
      refine n_idx (by omega) ?_
      walk_at "rd"
      refine n_tup (Nat.le_of_ble_eq_true rfl) fun r2 H2 n2 s2 h2 => ?_
      exact q _ _ (s1.trans s2) (node3 h2)
end
end Bf
namespace Bf
open PySem L2 SX TL
abbrev s_parse_source : Stmt := topS 55
theorem bi_parse_source : ∀ (kV doc pm : Value) (an : Option Addr) (cdv ct : Value) (us : List Value), us.length = 1 → bindArgs (PySem.W.fnOf "parse_source" "parse_source" (defArgs s_parse_source) (defBody s_parse_source) (defScope s_parse_source) .none kV doc pm an cdv ct) ⟨us, []⟩ = pure ((["text"] : List Str).zip us) := fun _ _ _ _ _ _ us hl => match us, hl with | [_], _ => rfl
theorem sc_parse_source : FnScope ["text", "source", "part"] ["text"] (defScope s_parse_source) := C8.fnScope_by (by decide +kernel)
def spPSrc : Sp := fun vs H Q _ => ∃ src : List Nd, vs = [.str (S (srcL src))] ∧ SrcOk src ∧ 1 ≤ src.length ∧ src.length ≤ 200 ∧ ∀ v H', Same H H' → Rp H' (srcD src) v → Q v H'
section
variable {P : Program} {w : World} {K : PySem.W.Frag} {mg : Str → Option Value} {base : Heap}
theorem cal_parse_source {B : Value} (T : Gs mg) (x_BadSource : mg "BadSource" = some B) (c_parse_node : C8.Cal P w K mg base 3 "parse_node" spPNode []) (c_check_source : C8.Cal P w K mg base 4 "check_source" spCheckSrc []) (F : DefAt K mg "parse_source" s_parse_source) : C8.Cal P w K mg base 5 "parse_source" spPSrc [] := by
  refine cal_of F sc_parse_source bi_parse_source (fun vs H Q E h => ?_) (fun f cdv A outer s H vs Q E hr h => ?_)
  · obtain ⟨src, rfl, _⟩ := h
    rfl
  · refine ⟨_, (pss_cons (ps_if (pt_not (pt_val (pe_callB call_isi (by rfl) T.n_isinstance (by decide +kernel) (pa_cons (pv 0) (pa_cons (pe_bltn (v := .ty "str") rfl T.n_str (by decide +kernel) rfl) pa_nil))))) (pss_one (ps_never)) pss_nil)
      (pss_cons (ps_set (i := 1) sc_parse_source.nd rfl (by first | exact Or.inl rfl | exact Or.inr rfl) (pe_callTy b_tuple (by rfl) T.n_tuple (by decide +kernel) (pa_cons (pe_lc (own := [("part", 2)]) (g := gName 2) (tt := tYes) rfl sc_parse_source.nd (pi_list (pe_splitN (pv 0) pe_str)) (blkOk_by (by first | decide +kernel | kernel_rfl)) (fun _ _ _ _ _ => pg_name (i := 2) sc_parse_source.nd rfl (by first | exact Or.inl rfl | exact Or.inr rfl)) (fun _ _ _ _ _ => pts_nil) (fun _ _ _ _ _ => (C8.pe_c c_parse_node hr (by first | decide | omega) rfl (pa_cons (pv 2) pa_nil)))) pa_nil)))
      (pss_cons (ps_tryN rfl rfl ⟨rfl, by decide, .inl x_BadSource⟩ (fun _ _ _ _ _ => (pss_one (ps_expr (C8.pe_c c_check_source hr (by first | decide | omega) rfl (pa_cons (pv 1) pa_nil))))) (fun _ _ _ _ _ _ _ => (pss_one (ps_never))))
      (pss_one (ps_ret (pv 1)))))), ?_⟩
    obtain ⟨src, rfl, ok, l1, l2, q⟩ := h
    have hl := srcL_len ok l2
    have hsz : sizeLine = 2 ^ 24 := rfl
    have hne : src ≠ [] := fun e => by subst e; simp at l1
    walk_at "rd"
    refine n_split (src_split hne) (by decide +kernel) (by rw [S_len]; omega) fun r H1 nr s1 hr1 => ?_
    refine n_lcL hr1 fun D H0 nD s0 hD => ⟨fun i H' => Same H H' ∧ Same H1 H' ∧ LD H' D ((src.take i).map Nd.d), ⟨s1.trans s0, s0, LD.nil hD⟩, fun i H' h => h.2.1 _ _ hr1, fun i y H' hy h => ?_, fun H' h => ?_⟩
    · obtain ⟨t1, t2, t3⟩ := h
      have nD0 := none_of_same s1 nD
      obtain ⟨z, hz, rfl⟩ := map_at hy
      rw [List.map_map, List.getElem?_map] at hz
      obtain ⟨nd, hnd, rfl⟩ := Option.map_eq_some_iff.mp hz
      have hlt := (List.getElem?_eq_some_iff.mp hnd).1
      walk_at "rd"
      refine ⟨nd, i, rfl, ok i nd hnd, by omega, fun v H2 s2 hv => ?_⟩
      obtain ⟨wt, hD2, hwt⟩ := id (t3.same s2)
      have hwl := hwt.len
      rw [List.length_map, List.length_take] at hwl
      refine n_acc hD2 (by omega) fun H3 k3 h3 => ⟨same_kp nD0 (t1.trans s2) k3, same_kp nD (t2.trans s2) k3, ?_⟩
      rw [take_snoc hnd, List.map_append]
      exact LD.push hD2 hwt hv (flats_map Nd.flat _) (Nd.flat nd) k3 h3
    · obtain ⟨t1, t2, t3⟩ := h
      rw [List.length_map, List.length_map, List.length_map, List.take_length] at t3
      obtain ⟨ws, hD2, hws⟩ := t3
      walk_at "rd"
      refine n_tupL hD2 fun z H2 nz s2 hz => ?_
      walk_at "rd"
      have hsrc : Rp H2 (srcD src) (.ref z) := ⟨z, ws, rfl, hz, hws.same s2⟩
      refine ⟨src, _, rfl, hsrc, ok, l1, l2, fun H3 s3 => ?_⟩
      walk_at "rd"
      exact q _ _ (t1.trans (s2.trans s3)) (hsrc.same s3)
end
end Bf
namespace Bf
open PySem L2 SX TL
abbrev s_list_of : Stmt := topS 67
theorem bi_list_of : ∀ (kV doc pm : Value) (an : Option Addr) (cdv ct : Value) (us : List Value), us.length = 2 → bindArgs (PySem.W.fnOf "list_of" "list_of" (defArgs s_list_of) (defBody s_list_of) (defScope s_list_of) .none kV doc pm an cdv ct) ⟨us, []⟩ = pure ((["word", "modulus"] : List Str).zip us) := fun _ _ _ _ _ _ us hl => match us, hl with | [_, _], _ => rfl
theorem sc_list_of : FnScope ["word", "modulus", "values", "part", "value"] ["word", "modulus"] (defScope s_list_of) := C8.fnScope_by (by decide +kernel)
abbrev s_written : Stmt := topS 68
theorem bi_written : ∀ (kV doc pm : Value) (an : Option Addr) (cdv ct : Value) (us : List Value), us.length = 1 → bindArgs (PySem.W.fnOf "written" "written" (defArgs s_written) (defBody s_written) (defScope s_written) .none kV doc pm an cdv ct) ⟨us, []⟩ = pure ((["values"] : List Str).zip us) := fun _ _ _ _ _ _ us hl => match us, hl with | [_], _ => rfl
theorem sc_written : FnScope ["values", "value"] ["values"] (defScope s_written) := C8.fnScope_by (by decide +kernel)
def Lb (m : Int) (l : List Int) : Prop := (∀ x ∈ l, 0 ≤ x ∧ x < m) ∧ l.length ≤ 1000
def spListOf : Sp := fun vs H Q _ => ∃ (l : List Int) (m : Int), vs = [.str (S (writL l)), .int m] ∧ m ≤ 1000000000 ∧ Lb m l ∧ ∀ q H', H q = none → Same H H' → H' q = some (.lst (l.map V.int)) → Q (.ref q) H'
def spWritten : Sp := fun vs H Q _ => ∃ (p : Addr) (l : List Int), vs = [.ref p] ∧ H p = some (.lst (l.map V.int)) ∧ Lb 1000000000 l ∧ ∀ H', Same H H' → Q (.str (S (writL l))) H'
theorem sum_len {k : Nat} : ∀ {ys : List Str}, (∀ y ∈ ys, y.length ≤ k) → (ys.map (·.length)).sum ≤ ys.length * k
  | [], _ => by show 0 ≤ _; omega
  | y :: r, h => by
    have h1 := h y List.mem_cons_self
    have h2 := sum_len (ys := r) fun z hz => h z (List.mem_cons_of_mem _ hz)
    rw [List.map_cons, List.sum_cons, List.length_cons, Nat.add_mul]
    omega
theorem writ_sum {m : Int} {l : List Int} (hm : m ≤ 1000000000) (h : Lb m l) : (((l.map fun x => numL x.toNat).map S).map (·.length)).sum ≤ l.length * 9 := by
  have := sum_len (k := 9) (ys := (l.map fun x => numL x.toNat).map S) fun y hy => by
    obtain ⟨z, hz, rfl⟩ := List.mem_map.mp hy
    obtain ⟨x, hx, rfl⟩ := List.mem_map.mp hz
    have := h.1 x hx
    rw [S_len]
    exact num9 (by omega)
  rwa [List.length_map, List.length_map] at this
section
variable {P : Program} {w : World} {K : PySem.W.Frag} {mg : Str → Option Value} {base : Heap}
theorem cal_list_of (T : Gs mg) (c_number_of : C8.Cal P w K mg base 1 "number_of" (spNum 40) []) (F : DefAt K mg "list_of" s_list_of) : C8.Cal P w K mg base 2 "list_of" spListOf [] := by
  refine cal_of F sc_list_of bi_list_of (fun vs H Q E h => ?_) (fun f cdv A outer s H vs Q E hr h => ?_)
  · obtain ⟨l, m, rfl, _⟩ := h
    rfl
  · refine ⟨_, (pss_cons (ps_if (pt_cmpR op_eq (pv 0) pe_str (nomark _)) (pss_one (ps_ret (pe_lst pa_nil))) pss_nil)
      (pss_cons (ps_setLc (i := 2) (own := [("part", 3)]) (g := gName 3) (tt := tYes) rfl sc_list_of.nd rfl rfl (sw_true rfl rfl rfl (by decide +kernel)) (pi_list (pe_splitN (pv 0) pe_str)) (blkOk_by (by first | decide +kernel | kernel_rfl)) (fun _ _ _ _ _ => pg_name (i := 3) sc_list_of.nd rfl (by first | exact Or.inl rfl | exact Or.inr rfl)) (fun _ _ _ _ _ => pts_nil) (fun _ _ _ _ _ => (C8.pe_c c_number_of hr (by first | decide | omega) rfl (pa_cons (pv 3) pa_nil))))
      (pss_cons (ps_for PassesOwn.never rfl (pi_list (pv 2)) (pg_name (i := 4) sc_list_of.nd rfl (by first | exact Or.inl rfl | exact Or.inr rfl)) (pss_one (ps_if (pt_cmpR op_ge (pv 4) (pv 1) (nomark _)) (pss_one (ps_never)) pss_nil)))
      (pss_one (ps_ret (pv 2)))))), ?_⟩
    obtain ⟨l, m, rfl, m9, lb, q⟩ := h
    have hll := lb.2
    have hwl := writ_len m9 lb.1
    have hsz : sizeLine = 2 ^ 24 := rfl
    by_cases hn : l = []
    · subst hn
      have e : writL [] = [45] := rfl
      rw [e]
      walk_at "rd"
      refine n_lst (by decide) fun p H1 np s1 hp => ?_
      exact q p H1 np s1 hp
    · have hne : ¬ (S (writL l) = Str.ofString "-") := writ_ne hn
      walk_at "rd"
      refine n_split (writ_split hn) (by decide +kernel) (by rw [S_len]; omega) fun r H1 nr s1 hr1 => ?_
      refine n_lcL hr1 fun D H0 nD s0 hD => ⟨fun i H' => Same H H' ∧ Same H1 H' ∧ H' D = some (.lst ((l.take i).map V.int)), ⟨s1.trans s0, s0, hD⟩, fun i H' h => h.2.1 _ _ hr1, fun i y H' hy h => ?_, fun H' h => ?_⟩
      · obtain ⟨t1, t2, t3⟩ := h
        have nD0 := none_of_same s1 nD
        obtain ⟨z, hz, rfl⟩ := map_at hy
        rw [List.map_map, List.getElem?_map] at hz
        obtain ⟨x, hx, rfl⟩ := Option.map_eq_some_iff.mp hz
        have hb := lb.1 x (List.mem_of_getElem? hx)
        have hlt := (List.getElem?_eq_some_iff.mp hx).1
        walk_at "rd"
        refine ⟨x.toNat, rfl, by have : x.toNat < 1000000000 := by omega
                                 exact Nat.lt_of_lt_of_le this (by decide), ?_⟩
        rw [Int.toNat_of_nonneg hb.1]
        refine n_acc t3 (by rw [List.length_map, List.length_take]; omega) fun H3 k3 h3 => ⟨same_kp nD0 t1 k3, same_kp nD t2 k3, ?_⟩
        rw [take_snoc hx, List.map_append]
        exact h3
      · obtain ⟨t1, t2, t3⟩ := h
        rw [List.length_map, List.length_map, List.length_map, List.take_length] at t3
        walk_at "rd"
        refine n_forL (fun i σ H2 => ∃ u u2 : Option V, σ = [some (.str (S (writL l))), some (.int m), some (.ref D), u, u2] ∧ H2 = H') t3 ⟨_, _, rfl, rfl⟩ (fun i σ H2 _ h => by obtain ⟨_, _, _, rfl⟩ := h; exact SqL.of t3) ?_ ?_
        · rintro i y σ H2 hy ⟨u, u2, rfl, rfl⟩
          obtain ⟨x, hx, rfl⟩ := map_at hy
          have hb := lb.1 x (List.mem_of_getElem? hx)
          walk_at "rd"
          exact ⟨_, _, rfl, rfl⟩
        · rintro σ H2 ⟨u, u2, rfl, rfl⟩
          walk_at "rd"
          exact q D _ (none_of_same s1 nD) t1 t3
theorem cal_written (T : Gs mg) (F : DefAt K mg "written" s_written) : C8.Cal P w K mg base 1 "written" spWritten [] := by
  refine cal_of F sc_written bi_written (fun vs H Q E h => ?_) (fun f cdv A outer s H vs Q E hr h => ?_)
  · obtain ⟨p, l, rfl, _⟩ := h
    rfl
  · refine ⟨_, (pss_cons (ps_if (pt_not (pt_tru (pv 0) (fun _ => rfl))) (pss_one (ps_ret pe_str)) pss_nil)
      (pss_one (ps_ret (pe_joinN pe_str (pe_lc (own := [("value", 1)]) (g := gName 1) (tt := tYes) rfl sc_written.nd (pi_list (pv 0)) (blkOk_by (by first | decide +kernel | kernel_rfl)) (fun _ _ _ _ _ => pg_name (i := 1) sc_written.nd rfl (by first | exact Or.inl rfl | exact Or.inr rfl)) (fun _ _ _ _ _ => pts_nil) (fun _ _ _ _ _ => (pe_callTy b_strI (by rfl) T.n_str (by decide +kernel) (pa_cons (pv 1) pa_nil)))))))), ?_⟩
    obtain ⟨p, l, rfl, hp, lb, q⟩ := h
    have hll := lb.2
    have hsz : sizeLine = 2 ^ 24 := rfl
    by_cases hn : l = []
    · subst hn
      walk_at "rd"
      refine n_truL hp ?_
      walk_at "rd"
      exact q H (Same.refl H)
    · walk_at "rd"
      refine n_truL hp ?_
      rw [show (!(l.map V.int).isEmpty) = true by cases l <;> simp_all]
      walk_at "rd"
      refine n_lcL hp fun D H0 nD s0 hD => ⟨fun i H' => Same H H' ∧ H' D = some (.lst ((((l.take i).map fun x => numL x.toNat).map S).map V.str)), ⟨s0, hD⟩, fun i H' h => h.1 _ _ hp, fun i y H' hy h => ?_, fun H' h => ?_⟩
      · obtain ⟨t1, t3⟩ := h
        obtain ⟨x, hx, rfl⟩ := map_at hy
        have hb := lb.1 x (List.mem_of_getElem? hx)
        have hlt := (List.getElem?_eq_some_iff.mp hx).1
        walk_at "rd"
        refine n_strZ hb.1 (by omega) ?_
        refine n_acc t3 (by simp only [List.length_map, List.length_take]; omega) fun H3 k3 h3 => ⟨same_kp nD t1 k3, ?_⟩
        rw [take_snoc hx]
        simp only [List.map_append]
        exact h3
      · obtain ⟨t1, t3⟩ := h
        rw [List.length_map, List.take_length] at t3
        have hs := writ_sum (Int.le_refl _) lb
        refine n_joinS t3 (by
          rw [List.length_map, List.length_map]
          have e : (Str.ofString ",").length = 1 := by decide +kernel
          rw [e]
          omega) ?_
        rw [writ_join hn]
        walk_at "rd"
        exact q H' t1
end
end Bf
/-! what the program of a source answers -/
namespace Bf
open PySem
theorem ok3_0 : Ok3 0 1 none := ⟨by omega, by omega, by omega, by simp⟩
theorem val_bd {m n : Int} {g : List Int} (m2 : 2 ≤ m) (hG : Mem m n g) {src : List Nd} (hin : ∀ (k i : Nat), src[k]? = some (.input i) → (i : Int) < n) {e : Ex} {k : Nat} (u : Un src k e) : 0 ≤ e.val m g ∧ e.val m g < m := by
  cases u with
  | input h => exact gt_bd hG (by omega) (hin _ _ h)
  | const h => exact md_bd _ m2
  | sum => exact md_bd _ m2
  | prod => exact md_bd _ m2
  | scal => exact md_bd _ m2
  | cho => exact md_bd _ m2
theorem run_eff {m : Int} (m2 : 2 ≤ m) {g mem : List Int} (hM : Mem m 3 mem) (e : Ex) : Eff m mem (runs m g mem (stp m e 0 1 none 1)) 0 (e.val m g) :=
  (stp_eff m2 e 0 1 none 1 mem hM ok3_0).cg (cg_of (by rw [show Fv mem none = 1 from rfl, Int.mul_one, Int.one_mul]))
theorem run_val {m n : Int} (m2 : 2 ≤ m) {g mem : List Int} (hM : Mem m 3 mem) (hG : Mem m n g) {src : List Nd} (hin : ∀ (k i : Nat), src[k]? = some (.input i) → (i : Int) < n) {e : Ex} {k : Nat} (u : Un src k e) :
    (gt (runs m g mem (stp m e 0 1 none 1)) 0 - gt mem 0) % m = e.val m g := by
  have h := (run_eff m2 (g := g) hM e).at_
  unfold Cg at h
  have hb := val_bd m2 hG hin u
  rw [Int.sub_emod, h, ← Int.sub_emod, show gt mem 0 + e.val m g - gt mem 0 = e.val m g by omega]
  exact Int.emod_eq_of_lt hb.1 hb.2
theorem list3 {l : List Int} (h : (l.length : Int) = 3) : l = [gt l 0, gt l 1, gt l 2] := by
  match l, h with
  | [a, b, c], _ => rfl
theorem run_end {m : Int} (m2 : 2 ≤ m) {g mem : List Int} (hM : Mem m 3 mem) (e : Ex) : runs m g mem (stp m e 0 1 none 1) = [(gt mem 0 + e.val m g) % m, gt mem 1, gt mem 2] := by
  have h := run_eff m2 (g := g) hM e
  have h0 := h.at_
  unfold Cg at h0
  have hb := gt_bd h.hm (i := 0) (by decide) (by decide)
  rw [Int.emod_eq_of_lt hb.1 hb.2] at h0
  rw [list3 h.hm.1, h0, h.keep 1 (by decide) (by decide), h.keep 2 (by decide) (by decide)]
/-- a source the desk takes -/
structure SrcP (src : List Nd) (e : Ex) : Prop where
  ok : SrcOk src
  l1 : 1 ≤ src.length
  l2 : src.length ≤ 200
  un : Un src (src.length - 1) e
  le : e.cost ≤ 20000
end Bf
namespace Bf
open PySem L2 SX TL
abbrev s_Desk___init__ : Stmt := inClass (topS 69) 0
theorem bi_Desk___init__ : ∀ (kV doc pm : Value) (an : Option Addr) (cdv ct : Value) (us : List Value), us.length = 1 → bindArgs (PySem.W.fnOf "__init__" "Desk.__init__" (defArgs s_Desk___init__) (defBody s_Desk___init__) (defScope s_Desk___init__) .none kV doc pm an cdv ct) ⟨us, []⟩ = pure ((["self"] : List Str).zip us) := fun _ _ _ _ _ _ us hl => match us, hl with | [_], _ => rfl
theorem sc_Desk___init__ : FnScope ["self"] ["self"] (defScope s_Desk___init__) := C8.fnScope_by (by decide +kernel)
abbrev s_Desk_take_modulus : Stmt := inClass (topS 69) 2
theorem bi_Desk_take_modulus : ∀ (kV doc pm : Value) (an : Option Addr) (cdv ct : Value) (us : List Value), us.length = 2 → bindArgs (PySem.W.fnOf "take_modulus" "Desk.take_modulus" (defArgs s_Desk_take_modulus) (defBody s_Desk_take_modulus) (defScope s_Desk_take_modulus) .none kV doc pm an cdv ct) ⟨us, []⟩ = pure ((["self", "modulus"] : List Str).zip us) := fun _ _ _ _ _ _ us hl => match us, hl with | [_, _], _ => rfl
theorem sc_Desk_take_modulus : FnScope ["self", "modulus"] ["self", "modulus"] (defScope s_Desk_take_modulus) := C8.fnScope_by (by decide +kernel)
abbrev s_Desk_take_memory : Stmt := inClass (topS 69) 3
theorem bi_Desk_take_memory : ∀ (kV doc pm : Value) (an : Option Addr) (cdv ct : Value) (us : List Value), us.length = 2 → bindArgs (PySem.W.fnOf "take_memory" "Desk.take_memory" (defArgs s_Desk_take_memory) (defBody s_Desk_take_memory) (defScope s_Desk_take_memory) .none kV doc pm an cdv ct) ⟨us, []⟩ = pure ((["self", "memory"] : List Str).zip us) := fun _ _ _ _ _ _ us hl => match us, hl with | [_, _], _ => rfl
theorem sc_Desk_take_memory : FnScope ["self", "memory"] ["self", "memory"] (defScope s_Desk_take_memory) := C8.fnScope_by (by decide +kernel)
abbrev s_Desk_take_source : Stmt := inClass (topS 69) 4
theorem bi_Desk_take_source : ∀ (kV doc pm : Value) (an : Option Addr) (cdv ct : Value) (us : List Value), us.length = 2 → bindArgs (PySem.W.fnOf "take_source" "Desk.take_source" (defArgs s_Desk_take_source) (defBody s_Desk_take_source) (defScope s_Desk_take_source) .none kV doc pm an cdv ct) ⟨us, []⟩ = pure ((["self", "text"] : List Str).zip us) := fun _ _ _ _ _ _ us hl => match us, hl with | [_, _], _ => rfl
theorem sc_Desk_take_source : FnScope ["self", "text", "source"] ["self", "text"] (defScope s_Desk_take_source) := C8.fnScope_by (by decide +kernel)
abbrev s_Desk_program : Stmt := inClass (topS 69) 5
theorem bi_Desk_program : ∀ (kV doc pm : Value) (an : Option Addr) (cdv ct : Value) (us : List Value), us.length = 1 → bindArgs (PySem.W.fnOf "program" "Desk.program" (defArgs s_Desk_program) (defBody s_Desk_program) (defScope s_Desk_program) .none kV doc pm an cdv ct) ⟨us, []⟩ = pure ((["self"] : List Str).zip us) := fun _ _ _ _ _ _ us hl => match us, hl with | [_], _ => rfl
theorem sc_Desk_program : FnScope ["self"] ["self"] (defScope s_Desk_program) := C8.fnScope_by (by decide +kernel)
abbrev s_Desk_check : Stmt := inClass (topS 69) 6
theorem bi_Desk_check : ∀ (kV doc pm : Value) (an : Option Addr) (cdv ct : Value) (us : List Value), us.length = 2 → bindArgs (PySem.W.fnOf "check" "Desk.check" (defArgs s_Desk_check) (defBody s_Desk_check) (defScope s_Desk_check) .none kV doc pm an cdv ct) ⟨us, []⟩ = pure ((["self", "given"] : List Str).zip us) := fun _ _ _ _ _ _ us hl => match us, hl with | [_, _], _ => rfl
theorem sc_Desk_check : FnScope ["self", "given", "program"] ["self", "given"] (defScope s_Desk_check) := C8.fnScope_by (by decide +kernel)
abbrev s_Desk_judged : Stmt := inClass (topS 69) 9
theorem bi_Desk_judged : ∀ (kV doc pm : Value) (an : Option Addr) (cdv ct : Value) (us : List Value), us.length = 1 → bindArgs (PySem.W.fnOf "judged" "Desk.judged" (defArgs s_Desk_judged) (defBody s_Desk_judged) (defScope s_Desk_judged) .none kV doc pm an cdv ct) ⟨us, []⟩ = pure ((["self"] : List Str).zip us) := fun _ _ _ _ _ _ us hl => match us, hl with | [_], _ => rfl
theorem sc_Desk_judged : FnScope ["self", "program", "found"] ["self"] (defScope s_Desk_judged) := C8.fnScope_by (by decide +kernel)
structure DkC (K : PySem.W.Frag) (C : Addr) : Prop where
  cls : Cls K C
  mo : NoAttr K C "modulus"
  co : NoAttr K C "content"
  so : NoAttr K C "source"
def DkS (C dk : Addr) (m c s : V) (H : Hp) : Prop := ∃ dx, H dk = some (.ins C dx [("modulus", m), ("content", c), ("source", s)])
theorem DkS.kp {C dk d : Addr} {m c s : V} {H H' : Hp} (h : DkS C dk m c s H) (k : Kp d H H') (n : dk ≠ d) : DkS C dk m c s H' := by
  obtain ⟨dx, h1⟩ := h
  exact ⟨dx, k _ _ n h1⟩
theorem DkS.same {C dk : Addr} {m c s : V} {H H' : Hp} (h : DkS C dk m c s H) (k : Same H H') : DkS C dk m c s H' := by
  obtain ⟨dx, h1⟩ := h
  exact ⟨dx, k _ _ h1⟩
def spDInit (C : Addr) : Sp := fun vs H Q _ => ∃ (x dx : Addr), vs = [.ref x] ∧ H x = some (.ins C dx []) ∧ ∀ H', Kp x H H' → DkS C x .non .non .non H' → Q .non H'
def spTMod (C : Addr) : Sp := fun vs H Q _ => ∃ (dk : Addr) (n : Int) (a b c : V), vs = [.ref dk, .int n] ∧ 2 ≤ n ∧ n ≤ 1000000000 ∧ DkS C dk a b c H ∧ ∀ H', Kp dk H H' → DkS C dk (.int n) .non .non H' → Q (.str "ok") H'
def spTMem (C : Addr) : Sp := fun vs H Q _ => ∃ (dk l : Addr) (xs : List V) (a b c : V), vs = [.ref dk, .ref l] ∧ H l = some (.lst xs) ∧ xs.length = 3 ∧ DkS C dk a b c H ∧ ∀ H', Kp dk H H' → DkS C dk a (.ref l) c H' → Q (.str "ok") H'
def spTSrc (C : Addr) : Sp := fun vs H Q _ => ∃ (dk : Addr) (src : List Nd) (e : Ex) (a b c : V), vs = [.ref dk, .str (S (srcL src))] ∧ SrcP src e ∧ DkS C dk a b c H ∧ ∀ v H', Kp dk H H' → DkS C dk a b v H' → Rp H' (srcD src) v → Q (.str "ok") H'
def spDProg (C CP : Addr) : Sp := fun vs H Q _ => ∃ (dk : Addr) (src : List Nd) (e : Ex) (m : Int) (b c : V), vs = [.ref dk] ∧ DkS C dk (.int m) b c H ∧ Rp H (srcD src) c ∧ SrcP src e ∧ 2 ≤ m ∧ m ≤ 1000000000 ∧
  ∀ x H', Same H H' → Prg CP H' x m 3 (needN src) (stp m e 0 1 none 1) → Vp m 3 (needN src) (stp m e 0 1 none 1) → Q (.ref x) H'
def spDCheck (C CP : Addr) : Sp := fun vs H Q _ => ∃ (dk g l : Addr) (src : List Nd) (e : Ex) (m : Int) (c : V) (given : List Int), vs = [.ref dk, .ref g] ∧ DkS C dk (.int m) (.ref l) c H ∧ Rp H (srcD src) c ∧ SrcP src e ∧ 2 ≤ m ∧ m ≤ 1000000000 ∧ H g = some (.lst (given.map V.int)) ∧ (given.length : Int) = needN src ∧
  ∀ x H', Same H H' → Prg CP H' x m 3 (needN src) (stp m e 0 1 none 1) → Vp m 3 (needN src) (stp m e 0 1 none 1) → Q (.ref x) H'
section
variable {P : Program} {w : World} {K : PySem.W.Frag} {mg : Str → Option Value} {base : Heap}
theorem met_ofD {m qual : Str} {C : Addr} {st : Stmt} {N ps : List Str} {k : Nat} {sp : Sp} (G : DkC K C) (F : MetAt K C m qual st) (S : FnScope N ps (defScope st))
    (b : ∀ (kV doc pm : Value) (an : Option Addr) (cdv ct : Value) (us : List Value), us.length = ps.length → bindArgs (PySem.W.fnOf m qual (defArgs st) (defBody st) (defScope st) .none kV doc pm an cdv ct) ⟨us, []⟩ = pure (ps.zip us))
    (len : ∀ vs H Q E, sp vs H Q E → vs.length = ps.length)
    (hbody : ∀ (f : Addr) (cdv : Value) (A : Around) (outer : List Env) (s : Shared) (H : Hp) (vs : List V) (Q : VK) (E : XK), Room k (A.deeper (PyProof.Rows.envOfC qual (defScope st) s.heap.objs.size f cdv)) → sp vs H Q E →
      ∃ t, PSs (cxOf CX0 P w K mg base N qual (defScope st) f cdv A outer s H E).nox (defBody st) t ∧ t ⟨fun _ H' => Q .non H', Q, fun _ _ => False, fun _ _ => False⟩ (start N vs) H) : C8.Met P w K mg base (k + 1) C m sp [] := by
  obtain ⟨f, fd, D, me⟩ := F.ex
  refine ⟨f, fd, ps, [], G.cls, me, FunD.ok D S len fun cdv A outer s H vs Q E hr h => ?_, FunD.bindsN D b, .nil⟩
  obtain ⟨t, h1, h2⟩ := hbody f cdv A outer s H vs Q E hr h
  exact ⟨t, h1.nox, h2⟩
variable {C CP : Addr}
theorem mak_Desk (T : Gs mg) (G : DkC K C) (F : MakAt K mg "Desk" C "Desk.__init__" s_Desk___init__) : C8.Mak P w K mg base 1 "Desk" C (spDInit C) [] := by
  refine mak_of F sc_Desk___init__ bi_Desk___init__ (fun vs H Q E h => ?_) (fun f cdv A outer s H vs Q E hr h => ?_)
  · obtain ⟨x, dx, rfl, _⟩ := h
    rfl
  · refine ⟨_, (pss_cons (ps_fld (pv 0) pe_non rfl)
      (pss_cons (ps_fld (pv 0) pe_non rfl)
      (pss_one (ps_fld (pv 0) pe_non rfl)))), ?_⟩
    obtain ⟨x, dx, rfl, hx, k⟩ := h
    walk_at "rd"
    refine n_sfld hx G.cls G.mo (by decide) fun H2 k2 h2 => ?_
    replace h2 : H2 x = some (.ins C dx [("modulus", .non)]) := by with_unfolding_all exact h2
    walk_at "rd"
    refine n_sfld h2 G.cls G.co (Nat.le_of_ble_eq_true rfl) fun H3 k3 h3 => ?_
    replace h3 : H3 x = some (.ins C dx [("modulus", .non), ("content", .non)]) := by with_unfolding_all exact h3
    walk_at "rd"
    refine n_sfld h3 G.cls G.so (Nat.le_of_ble_eq_true rfl) fun H4 k4 h4 => ?_
    replace h4 : H4 x = some (.ins C dx [("modulus", .non), ("content", .non), ("source", .non)]) := by with_unfolding_all exact h4
    walk_at "rd"
    exact k H4 (k2.trans (k3.trans k4)) ⟨dx, h4⟩
theorem met_take_modulus (T : Gs mg) (G : DkC K C) (F : MetAt K C "take_modulus" "Desk.take_modulus" s_Desk_take_modulus) : C8.Met P w K mg base 1 C "take_modulus" (spTMod C) [] := by
  refine met_ofD G F sc_Desk_take_modulus bi_Desk_take_modulus (fun vs H Q E h => ?_) (fun f cdv A outer s H vs Q E hr h => ?_)
  · obtain ⟨dk, n, a, b, c, rfl, _⟩ := h
    rfl
  · refine ⟨_, (pss_cons (ps_if (pt_not (pt_chain op_le op_le pe_int (pv 1) (C8.pe_gc rfl T.c_MODULUS))) (pss_one (ps_never)) pss_nil)
      (pss_cons (ps_fld (pv 0) (pv 1) rfl)
      (pss_cons (ps_fld (pv 0) pe_non rfl)
      (pss_cons (ps_fld (pv 0) pe_non rfl)
      (pss_one (ps_ret pe_str)))))), ?_⟩
    obtain ⟨x, n, a, b, c, rfl, n2, n9, ⟨dx, hx⟩, k⟩ := h
    walk_at "rd"
    refine n_sfld hx G.cls G.mo (Nat.le_of_ble_eq_true rfl) fun H2 k2 h2 => ?_
    replace h2 : H2 x = some (.ins C dx [("modulus", .int n), ("content", b), ("source", c)]) := by with_unfolding_all exact h2
    walk_at "rd"
    refine n_sfld h2 G.cls G.co (Nat.le_of_ble_eq_true rfl) fun H3 k3 h3 => ?_
    replace h3 : H3 x = some (.ins C dx [("modulus", .int n), ("content", .non), ("source", c)]) := by with_unfolding_all exact h3
    walk_at "rd"
    refine n_sfld h3 G.cls G.so (Nat.le_of_ble_eq_true rfl) fun H4 k4 h4 => ?_
    replace h4 : H4 x = some (.ins C dx [("modulus", .int n), ("content", .non), ("source", .non)]) := by with_unfolding_all exact h4
    walk_at "rd"
    exact k H4 (k2.trans (k3.trans k4)) ⟨dx, h4⟩
theorem met_take_memory (T : Gs mg) (G : DkC K C) (F : MetAt K C "take_memory" "Desk.take_memory" s_Desk_take_memory) : C8.Met P w K mg base 1 C "take_memory" (spTMem C) [] := by
  refine met_ofD G F sc_Desk_take_memory bi_Desk_take_memory (fun vs H Q E h => ?_) (fun f cdv A outer s H vs Q E hr h => ?_)
  · obtain ⟨dk, l, xs, a, b, c, rfl, _⟩ := h
    rfl
  · refine ⟨_, (pss_cons (ps_if (pt_cmpR op_ne (pe_callB b_len (by rfl) T.n_len PySem.boot_len (pa_cons (pv 1) pa_nil)) (C8.pe_gc rfl T.c_CELLS_desk) (nomark _)) (pss_one (ps_never)) pss_nil)
      (pss_cons (ps_fld (pv 0) (pv 1) rfl)
      (pss_one (ps_ret pe_str)))), ?_⟩
    obtain ⟨x, l, xs, a, b, c, rfl, hl, h3, ⟨dx, hx⟩, k⟩ := h
    walk_at "rd"
    refine n_sfld hx G.cls G.co (Nat.le_of_ble_eq_true rfl) fun H2 k2 h2 => ?_
    replace h2 : H2 x = some (.ins C dx [("modulus", a), ("content", .ref l), ("source", c)]) := by with_unfolding_all exact h2
    walk_at "rd"
    exact k H2 k2 ⟨dx, h2⟩
theorem met_take_source {B : Value} (T : Gs mg) (G : DkC K C) (x_BadText : mg "BadText" = some B) (c_parse_source : C8.Cal P w K mg base 5 "parse_source" spPSrc []) (c_cost : C8.Cal P w K mg base 5 "cost" spSrcCost []) (F : MetAt K C "take_source" "Desk.take_source" s_Desk_take_source) : C8.Met P w K mg base 6 C "take_source" (spTSrc C) [] := by
  refine met_ofD G F sc_Desk_take_source bi_Desk_take_source (fun vs H Q E h => ?_) (fun f cdv A outer s H vs Q E hr h => ?_)
  · obtain ⟨dk, src, e, a, b, c, rfl, _⟩ := h
    rfl
  · refine ⟨_, (pss_cons (ps_tryN rfl rfl ⟨rfl, by decide, .inl x_BadText⟩ (fun _ _ _ _ _ => (pss_one (ps_set (i := 2) sc_Desk_take_source.nd rfl (by first | exact Or.inl rfl | exact Or.inr rfl) (C8.pe_c c_parse_source hr (by first | decide | omega) rfl (pa_cons (pv 1) pa_nil))))) (fun _ _ _ _ _ _ _ => (pss_one (ps_never))))
      (pss_cons (ps_if (pt_cmpR op_gt (C8.pe_c c_cost hr (by first | decide | omega) rfl (pa_cons (pv 2) pa_nil)) (C8.pe_gc rfl T.c_STEPS) (nomark _)) (pss_one (ps_never)) pss_nil)
      (pss_cons (ps_fld (pv 0) (pv 2) rfl)
      (pss_one (ps_ret pe_str))))), ?_⟩
    obtain ⟨x, src, e, a, b, c, rfl, sp, ⟨dx, hx⟩, k⟩ := h
    have le := sp.le
    walk_at "rd"
    refine ⟨src, rfl, sp.ok, sp.l1, sp.l2, fun v H1 s1 hv => ?_⟩
    walk_at "rd"
    refine ⟨src, e, v, rfl, hv, sp.ok, sp.l1, sp.l2, sp.un, fun H2 s2 => ?_⟩
    have hcost : ¬ ((20000 : Int) < (e.cost : Int)) := by omega
    have s12 := s1.trans s2
    walk_at "rd"
    refine n_sfld (s12 _ _ hx) G.cls G.so (Nat.le_of_ble_eq_true rfl) fun H3 k3 h3 => ?_
    replace h3 : H3 x = some (.ins C dx [("modulus", a), ("content", b), ("source", v)]) := by with_unfolding_all exact h3
    walk_at "rd"
    exact k v H3 ((Kp.of s12).trans k3) ⟨dx, h3⟩ ((hv.same s2).tk (TK.kpi (s12 _ _ hx) k3) (flats_map Nd.flat src))
theorem met_program (T : Gs mg) (G : DkC K C) (c_compile_source : C8.Cal P w K mg base 9 "compile_source" (spComp CP) []) (F : MetAt K C "program" "Desk.program" s_Desk_program) : C8.Met P w K mg base 10 C "program" (spDProg C CP) [] := by
  refine met_ofD G F sc_Desk_program bi_Desk_program (fun vs H Q E h => ?_) (fun f cdv A outer s H vs Q E hr h => ?_)
  · obtain ⟨dk, src, e, m, b, c, rfl, _⟩ := h
    rfl
  · refine ⟨_, (pss_cons (ps_if (pt_cmpR op_isNn (pe_fld (pv 0) rfl) pe_non (nomark _)) (pss_one (ps_never)) pss_nil)
      (pss_one (ps_ret (C8.pe_c c_compile_source hr (by first | decide | omega) rfl (pa_cons (pe_fld (pv 0) rfl) (pa_cons (pe_fld (pv 0) rfl) pa_nil)))))), ?_⟩
    obtain ⟨x, src, e, m, b, c, rfl, ⟨dx, hx⟩, hs, sp, m2, m9, k⟩ := h
    obtain ⟨a, ws, rfl, ha, hws⟩ := id hs
    have g1 := G.cls
    have g2 := G.mo
    have g3 := G.so
    walk_at "rd"
    exact ⟨src, e, _, m, rfl, hs, sp.ok, sp.l1, sp.l2, sp.un, sp.le, m2, m9, k⟩
theorem met_check (T : Gs mg) (G : DkC K C) (GP : PgC K CP) (m_program : C8.Met P w K mg base 10 C "program" (spDProg C CP) []) (F : MetAt K C "check" "Desk.check" s_Desk_check) : C8.Met P w K mg base 11 C "check" (spDCheck C CP) [] := by
  refine met_ofD G F sc_Desk_check bi_Desk_check (fun vs H Q E h => ?_) (fun f cdv A outer s H vs Q E hr h => ?_)
  · obtain ⟨dk, g, l, src, e, m, c, given, rfl, _⟩ := h
    rfl
  · refine ⟨_, (pss_cons (ps_set (i := 2) sc_Desk_check.nd rfl (by first | exact Or.inl rfl | exact Or.inr rfl) (C8.pe_mt0 m_program hr (by first | decide | omega) (pv 0)))
      (pss_cons (ps_if (pt_cmpR op_isNn (pe_fld (pv 0) rfl) pe_non (nomark _)) (pss_one (ps_never)) pss_nil)
      (pss_cons (ps_if (pt_cmpR op_ne (pe_callB b_len (by rfl) T.n_len PySem.boot_len (pa_cons (pv 1) pa_nil)) (pe_fld (pv 2) rfl) (nomark _)) (pss_one (ps_never)) pss_nil)
      (pss_one (ps_ret (pv 2)))))), ?_⟩
    obtain ⟨x, g, l, src, e, m, c, given, rfl, hdk, hs, sp, m2, m9, hg, hgl, k⟩ := h
    obtain ⟨dx, hx⟩ := id hdk
    have g1 := G.cls
    have g2 := G.co
    walk_at "rd"
    refine ⟨x, src, e, m, .ref l, c, rfl, hdk, hs, sp, m2, m9, fun y H1 s1 pr vp => ?_⟩
    have hx1 := s1 _ _ hx
    clear hx
    have hg1 := s1 _ _ hg
    obtain ⟨dx', q', wq', hy, _⟩ := id pr
    have g3 := GP.cls
    have g4 := GP.inp
    have hgl' : (((given.map V.int).length : Nat) : Int) = needN src := by rw [List.length_map]; exact hgl
    walk_at "rd"
    exact k y H1 s1 pr vp
theorem met_judged (G : DkC K C) (F : MetAt K C "judged" "Desk.judged" s_Desk_judged) : C8.Met P w K mg base 1 C "judged" (fun _ _ _ _ => False) [] :=
  met_ofD G F sc_Desk_judged bi_Desk_judged (fun _ _ _ _ h => h.elim) (fun _ _ _ _ _ _ _ _ _ _ h => h.elim)
end
end Bf
namespace Bf
open PySem L2 SX TL
abbrev s_Desk_run : Stmt := inClass (topS 69) 7
theorem bi_Desk_run : ∀ (kV doc pm : Value) (an : Option Addr) (cdv ct : Value) (us : List Value), us.length = 2 → bindArgs (PySem.W.fnOf "run" "Desk.run" (defArgs s_Desk_run) (defBody s_Desk_run) (defScope s_Desk_run) .none kV doc pm an cdv ct) ⟨us, []⟩ = pure ((["self", "given"] : List Str).zip us) := fun _ _ _ _ _ _ us hl => match us, hl with | [_, _], _ => rfl
theorem sc_Desk_run : FnScope ["self", "given", "program", "value", "memory"] ["self", "given"] (defScope s_Desk_run) := C8.fnScope_by (by decide +kernel)
abbrev s_Desk_stop : Stmt := inClass (topS 69) 8
theorem bi_Desk_stop : ∀ (kV doc pm : Value) (an : Option Addr) (cdv ct : Value) (us : List Value), us.length = 3 → bindArgs (PySem.W.fnOf "stop" "Desk.stop" (defArgs s_Desk_stop) (defBody s_Desk_stop) (defScope s_Desk_stop) .none kV doc pm an cdv ct) ⟨us, []⟩ = pure ((["self", "steps", "given"] : List Str).zip us) := fun _ _ _ _ _ _ us hl => match us, hl with | [_, _, _], _ => rfl
theorem sc_Desk_stop : FnScope ["self", "steps", "given", "program", "middle"] ["self", "steps", "given"] (defScope s_Desk_stop) := C8.fnScope_by (by decide +kernel)
def litMem : List Nat := [32, 109, 101, 109, 111, 114, 121, 32]
def litThen : List Nat := [32, 116, 104, 101, 110, 32]
theorem litMem_ok : Str.ofString " memory " = S litMem := rfl
theorem litThen_ok : Str.ofString " then " = S litThen := rfl
def runT (v : Int) (mem : List Int) : List Nat := numL v.toNat ++ litMem ++ writL mem
def stopT (mid mem : List Int) : List Nat := writL mid ++ litThen ++ writL mem
theorem mem_lb {m c : Int} {l : List Int} (h : Mem m c l) (m9 : m ≤ 1000000000) (hc : c ≤ 100) : Lb 1000000000 l := ⟨fun x hx => ⟨(h.2 x hx).1, by have := (h.2 x hx).2; omega⟩, by have := h.1; omega⟩
def spDRun (C : Addr) : Sp := fun vs H Q _ => ∃ (dk g l : Addr) (src : List Nd) (e : Ex) (m : Int) (c : V) (mem given : List Int), vs = [.ref dk, .ref g] ∧ DkS C dk (.int m) (.ref l) c H ∧ Rp H (srcD src) c ∧ SrcP src e ∧ 2 ≤ m ∧ m ≤ 1000000000 ∧ H l = some (.lst (mem.map V.int)) ∧ Mem m 3 mem ∧ H g = some (.lst (given.map V.int)) ∧ Mem m (needN src) given ∧
  ∀ q H', H q = none → Kp dk H H' → DkS C dk (.int m) (.ref q) c H' → H' q = some (.lst (mem.map V.int)) → Q (.str (S (runT (e.val m given) mem))) H'
def spDStop (C : Addr) : Sp := fun vs H Q _ => ∃ (dk g l : Addr) (src : List Nd) (e : Ex) (m k : Int) (c : V) (mem given : List Int), vs = [.ref dk, .int k, .ref g] ∧ DkS C dk (.int m) (.ref l) c H ∧ Rp H (srcD src) c ∧ SrcP src e ∧ 2 ≤ m ∧ m ≤ 1000000000 ∧ H l = some (.lst (mem.map V.int)) ∧ Mem m 3 mem ∧ H g = some (.lst (given.map V.int)) ∧ Mem m (needN src) given ∧ (0 ≤ k ∧ k ≤ e.cost) ∧
  ∀ q H', H q = none → Kp dk H H' → DkS C dk (.int m) (.ref q) c H' → H' q = some (.lst (mem.map V.int)) → Q (.str (S (stopT (runs m given mem ((stp m e 0 1 none 1).take k.toNat)) mem))) H'
section
variable {P : Program} {w : World} {K : PySem.W.Frag} {mg : Str → Option Value} {base : Heap} {C CP : Addr}
theorem met_drun (T : Gs mg) (G : DkC K C) (m_check : C8.Met P w K mg base 11 C "check" (spDCheck C CP) []) (c_answer : C8.Cal P w K mg base 10 "answer" (spAnswer CP) []) (c_written : C8.Cal P w K mg base 1 "written" spWritten []) (F : MetAt K C "run" "Desk.run" s_Desk_run) : C8.Met P w K mg base 12 C "run" (spDRun C) [] := by
  refine met_ofD G F sc_Desk_run bi_Desk_run (fun vs H Q E h => ?_) (fun f cdv A outer s H vs Q E hr h => ?_)
  · obtain ⟨dk, g, l, src, e, m, c, mem, given, rfl, _⟩ := h
    rfl
  · refine ⟨_, (pss_cons (ps_set (i := 2) sc_Desk_run.nd rfl (by first | exact Or.inl rfl | exact Or.inr rfl) (C8.pe_mt m_check hr (by first | decide | omega) (pv 0) (pa_cons (pv 1) pa_nil)))
      (pss_cons (ps_asg (C8.pe_c c_answer hr (by first | decide | omega) rfl (pa_cons (pv 2) (pa_cons (pe_fld (pv 0) rfl) (pa_cons (pv 1) pa_nil)))) (pg_tup rfl (pgs_cons (pg_name (i := 3) sc_Desk_run.nd rfl (by first | exact Or.inl rfl | exact Or.inr rfl)) (pgs_cons (pg_name (i := 4) sc_Desk_run.nd rfl (by first | exact Or.inl rfl | exact Or.inr rfl)) pgs_nil))))
      (pss_cons (ps_fld (pv 0) (pv 4) rfl)
      (pss_one (ps_ret (pe_joinedN (PJ.cons (pe_fmt (pv 3)) (PJ.cons pe_str (PJ.cons (pe_fmt (C8.pe_c c_written hr (by first | decide | omega) rfl (pa_cons (pv 4) pa_nil))) PJ.nil))))))))), ?_⟩
    obtain ⟨x, g, l, src, e, m, c, mem, given, rfl, hdk, hs, sp, m2, m9, hl, hM, hg, hG, k⟩ := h
    obtain ⟨dx, hx⟩ := id hdk
    have g1 := G.cls
    have g2 := G.co
    have nb := need_bd sp.ok
    have hsz : sizeLine = 2 ^ 24 := rfl
    have lb := mem_lb hM m9 (by decide)
    have hvb := val_bd m2 hG (fun k i h => needs_in (m := 0) h) sp.un
    have hw := writ_len (Int.le_refl _) lb.1
    have hml := hM.1
    have hv9 := num9 (n := (e.val m given).toNat) (by omega)
    walk_at "rd"
    refine ⟨x, g, l, src, e, m, c, given, rfl, hdk, hs, sp, m2, m9, hg, hG.1, fun y H1 s1 pr vp => ?_⟩
    have hx1 := s1 _ _ hx
    clear hx
    walk_at "rd"
    refine ⟨y, l, g, m, _, _, mem, given, rfl, pr, vp, s1 _ _ hl, s1 _ _ hg, hM, hG, fun p q H2 nq s2 hp hq => ?_⟩
    rw [run_val m2 hM hG (fun k i h => needs_in (m := 0) h) sp.un] at hp
    walk_at "rd"
    have hx2 := s2 _ _ hx1
    refine n_sfld hx2 G.cls G.co (Nat.le_of_ble_eq_true rfl) fun H3 k3 h3 => ?_
    replace h3 : H3 x = some (.ins C dx [("modulus", .int m), ("content", .ref q), ("source", c)]) := by with_unfolding_all exact h3
    have hqx : q ≠ x := ne_of hq hx2 (by intro z; cases z)
    have hq3 := k3 _ _ hqx hq
    walk_at "rd"
    refine n_fmtI hvb.1 (by omega) ?_
    refine n_js0 (by omega) ?_
    walk_at "rd"
    rw [litMem_ok]
    have hlm : litMem.length = 8 := rfl
    refine n_js (by rw [List.length_append]; omega) ?_
    walk_at "rd"
    refine ⟨q, mem, rfl, hq3, lb, fun H4 s4 => ?_⟩
    refine n_fmtS (by omega) ?_
    refine n_js (by rw [List.length_append, List.length_append]; omega) ?_
    walk_at "rd"
    exact k q H4 (none_of_same s1 nq) (((Kp.of (s1.trans s2)).trans k3).trans (Kp.of s4)) ⟨dx, s4 _ _ h3⟩ (s4 _ _ hq3)
theorem met_dstop (T : Gs mg) (G : DkC K C) (GP : PgC K CP) (m_check : C8.Met P w K mg base 11 C "check" (spDCheck C CP) []) (m_part : C8.Met P w K mg base 9 CP "part" (spPart CP) []) (m_called_back : C8.Met P w K mg base 10 CP "called_back" (spBack CP) []) (m_run : C8.Met P w K mg base 5 CP "run" (spRun CP) []) (c_written : C8.Cal P w K mg base 1 "written" spWritten []) (F : MetAt K C "stop" "Desk.stop" s_Desk_stop) : C8.Met P w K mg base 12 C "stop" (spDStop C) [] := by
  refine met_ofD G F sc_Desk_stop bi_Desk_stop (fun vs H Q E h => ?_) (fun f cdv A outer s H vs Q E hr h => ?_)
  · obtain ⟨dk, g, l, src, e, m, n, c, mem, given, rfl, _⟩ := h
    rfl
  · refine ⟨_, (pss_cons (ps_set (i := 3) sc_Desk_stop.nd rfl (by first | exact Or.inl rfl | exact Or.inr rfl) (C8.pe_mt m_check hr (by first | decide | omega) (pv 0) (pa_cons (pv 2) pa_nil)))
      (pss_cons (ps_if (pt_cmpR op_gt (pv 1) (pe_callB b_len (by rfl) T.n_len PySem.boot_len (pa_cons (pe_fld (pv 3) rfl) pa_nil)) (nomark _)) (pss_one (ps_never)) pss_nil)
      (pss_cons (ps_set (i := 4) sc_Desk_stop.nd rfl (by first | exact Or.inl rfl | exact Or.inr rfl) (C8.pe_mt m_run hr (by first | decide | omega) (C8.pe_mt m_part hr (by first | decide | omega) (pv 3) (pa_cons (pv 1) pa_nil)) (pa_cons (pe_fld (pv 0) rfl) (pa_cons (pv 2) pa_nil))))
      (pss_cons (ps_fld (pv 0) (C8.pe_mt m_run hr (by first | decide | omega) (C8.pe_mt m_called_back hr (by first | decide | omega) (pv 3) (pa_cons (pv 1) pa_nil)) (pa_cons (pv 4) (pa_cons (pv 2) pa_nil))) rfl)
      (pss_one (ps_ret (pe_joinedN (PJ.cons (pe_fmt (C8.pe_c c_written hr (by first | decide | omega) rfl (pa_cons (pv 4) pa_nil))) (PJ.cons pe_str (PJ.cons (pe_fmt (C8.pe_c c_written hr (by first | decide | omega) rfl (pa_cons (pe_fld (pv 0) rfl) pa_nil))) PJ.nil)))))))))), ?_⟩
    obtain ⟨x, g, l, src, e, m, n, c, mem, given, rfl, hdk, hs, sp, m2, m9, hl, hM, hg, hG, ⟨n0, n1⟩, k⟩ := h
    obtain ⟨dx, hx⟩ := id hdk
    have g1 := G.cls
    have g2 := G.co
    have g3 := GP.cls
    have g4 := GP.st
    have nb := need_bd sp.ok
    have hsz : sizeLine = 2 ^ 24 := rfl
    have lb := mem_lb hM m9 (by decide)
    have hw := writ_len (Int.le_refl _) lb.1
    have hml := hM.1
    have hlt : litThen.length = 6 := rfl
    walk_at "rd"
    refine ⟨x, g, l, src, e, m, c, given, rfl, hdk, hs, sp, m2, m9, hg, hG.1, fun y H1 s1 pr vp => ?_⟩
    have hx1 := s1 _ _ hx
    clear hx
    have hk : 0 ≤ n ∧ n ≤ (stp m e 0 1 none 1).length := ⟨n0, by rw [stp_len]; exact n1⟩
    obtain ⟨dxp, qp, wsp, hy, hqp, hwsp⟩ := id pr
    have hwl := hwsp.len
    rw [List.length_map, stp_len] at hwl
    have hnl : ¬ ((wsp.length : Int) < n) := by omega
    walk_at "rd"
    refine ⟨y, m, 3, needN src, n, _, rfl, pr, vp, hk, fun z H2 s2 prz => ?_⟩
    have hx2 := s2 _ _ hx1
    have s12 := s1.trans s2
    clear hx1 hy
    walk_at "rd"
    refine n_methP prz (fun _ => by with_unfolding_all rfl) ?_
    have vpt := vp.take n.toNat
    walk_at "rd"
    refine ⟨z, l, g, m, 3, _, _, mem, given, rfl, prz, vpt, s12 _ _ hl, s12 _ _ hg, hM, hG, fun qm H3 nqm s3 hqm => ?_⟩
    have hMm := runs_mem m2 hM vpt.ok (given := given)
    have s23 := s2.trans s3
    have s13 := s12.trans s3
    have hx3 := s3 _ _ hx2
    clear hx2
    walk_at "rd"
    refine n_back (pr.same s23) vp (by with_unfolding_all rfl) hk fun z2 H4 s4 prz2 => ?_
    have s14 := s13.trans s4
    have hx4 := s4 _ _ hx3
    clear hx3
    walk_at "rd"
    refine n_methP prz2 (fun _ => by with_unfolding_all rfl) ?_
    walk_at "rd"
    refine ⟨z2, qm, g, m, 3, _, _, _, given, rfl, prz2, vpt.inverse, s4 _ _ hqm, s14 _ _ hg, hMm, hG, fun qb H5 nqb s5 hqb => ?_⟩
    rw [runs_undo m2 hM vpt.ok] at hqb
    have s15 := s14.trans s5
    have hx5 := s5 _ _ hx4
    clear hx4
    walk_at "rd"
    refine n_sfld hx5 G.cls G.co (Nat.le_of_ble_eq_true rfl) fun H6 k6 h6 => ?_
    replace h6 : H6 x = some (.ins C dx [("modulus", .int m), ("content", .ref qb), ("source", c)]) := by with_unfolding_all exact h6
    have hqx : qb ≠ x := ne_of hqb hx5 (by intro z; cases z)
    have hqm5 := s5 _ _ (s4 _ _ hqm)
    have hqmx : qm ≠ x := ne_of hqm5 hx5 (by intro z; cases z)
    have hqb6 := k6 _ _ hqx hqb
    have hqm6 := k6 _ _ hqmx hqm5
    have lbm := mem_lb hMm m9 (by decide)
    have hwm := writ_len (Int.le_refl _) lbm.1
    have hmml := hMm.1
    clear hx5
    walk_at "rd"
    refine ⟨qm, _, rfl, hqm6, lbm, fun H7 s7 => ?_⟩
    refine n_fmtS (by omega) ?_
    refine n_js0 (by omega) ?_
    walk_at "rd"
    rw [litThen_ok]
    refine n_js (by rw [List.length_append]; omega) ?_
    have h7 := s7 _ _ h6
    walk_at "rd"
    refine ⟨qb, mem, rfl, s7 _ _ hqb6, lb, fun H8 s8 => ?_⟩
    refine n_fmtS (by omega) ?_
    refine n_js (by rw [List.length_append, List.length_append]; omega) ?_
    walk_at "rd"
    have s78 := s7.trans s8
    exact k qb H8 (none_of_same s14 nqb) (((Kp.of s15).trans k6).trans (Kp.of s78)) ⟨dx, s78 _ _ h6⟩ (s78 _ _ hqb6)
end
end Bf
namespace Bf
open PySem L2 SX TL
abbrev s_Desk_do : Stmt := inClass (topS 69) 1
theorem bi_Desk_do : ∀ (kV doc pm : Value) (an : Option Addr) (cdv ct : Value) (us : List Value), us.length = 2 → bindArgs (PySem.W.fnOf "do" "Desk.do" (defArgs s_Desk_do) (defBody s_Desk_do) (defScope s_Desk_do) .none kV doc pm an cdv ct) ⟨us, []⟩ = pure ((["self", "line"] : List Str).zip us) := fun _ _ _ _ _ _ us hl => match us, hl with | [_, _], _ => rfl
theorem sc_Desk_do : FnScope ["self", "line", "words"] ["self", "line"] (defScope s_Desk_do) := C8.fnScope_by (by decide +kernel)
def cMod : List Nat := [109, 111, 100, 117, 108, 117, 115]
def cMem : List Nat := [109, 101, 109, 111, 114, 121]
def cSrc : List Nat := [115, 111, 117, 114, 99, 101]
def cRun : List Nat := [114, 117, 110]
def cStop : List Nat := [115, 116, 111, 112]
def spDoMod (C : Addr) : Sp := fun vs H Q _ => ∃ (dk : Addr) (n : Nat) (a b c : V), vs = [.ref dk, .str (S (joinL [32] [cMod, numL n]))] ∧ 2 ≤ n ∧ n ≤ 1000000000 ∧ DkS C dk a b c H ∧ ∀ H', Kp dk H H' → DkS C dk (.int n) .non .non H' → Q (.str "ok") H'
def spDoMem (C : Addr) : Sp := fun vs H Q _ => ∃ (dk : Addr) (m : Int) (xs : List Int) (b c : V), vs = [.ref dk, .str (S (joinL [32] [cMem, writL xs]))] ∧ DkS C dk (.int m) b c H ∧ 2 ≤ m ∧ m ≤ 1000000000 ∧ Mem m 3 xs ∧ ∀ l H', H l = none → Kp dk H H' → DkS C dk (.int m) (.ref l) c H' → H' l = some (.lst (xs.map V.int)) → Q (.str "ok") H'
def spDoSrc (C : Addr) : Sp := fun vs H Q _ => ∃ (dk : Addr) (src : List Nd) (e : Ex) (m : Int) (b c : V), vs = [.ref dk, .str (S (cSrc ++ 32 :: srcL src))] ∧ SrcP src e ∧ DkS C dk (.int m) b c H ∧ ∀ v H', Kp dk H H' → DkS C dk (.int m) b v H' → Rp H' (srcD src) v → Q (.str "ok") H'
def spDoCost (C : Addr) : Sp := fun vs H Q _ => ∃ (dk : Addr) (src : List Nd) (e : Ex) (m : Int) (b c : V), vs = [.ref dk, .str "cost"] ∧ DkS C dk (.int m) b c H ∧ Rp H (srcD src) c ∧ SrcP src e ∧ 2 ≤ m ∧ m ≤ 1000000000 ∧ ∀ H', Same H H' → Q (.str (S (numL e.cost))) H'
def spDoRun (C : Addr) : Sp := fun vs H Q _ => ∃ (dk l : Addr) (src : List Nd) (e : Ex) (m : Int) (c : V) (mem given : List Int), vs = [.ref dk, .str (S (joinL [32] [cRun, writL given]))] ∧ DkS C dk (.int m) (.ref l) c H ∧ Rp H (srcD src) c ∧ SrcP src e ∧ 2 ≤ m ∧ m ≤ 1000000000 ∧ H l = some (.lst (mem.map V.int)) ∧ Mem m 3 mem ∧ Mem m (needN src) given ∧
  ∀ q H', H q = none → Kp dk H H' → DkS C dk (.int m) (.ref q) c H' → H' q = some (.lst (mem.map V.int)) → Q (.str (S (runT (e.val m given) mem))) H'
def spDoStop (C : Addr) : Sp := fun vs H Q _ => ∃ (dk l : Addr) (src : List Nd) (e : Ex) (m : Int) (k : Nat) (c : V) (mem given : List Int), vs = [.ref dk, .str (S (joinL [32] [cStop, numL k, writL given]))] ∧ DkS C dk (.int m) (.ref l) c H ∧ Rp H (srcD src) c ∧ SrcP src e ∧ 2 ≤ m ∧ m ≤ 1000000000 ∧ H l = some (.lst (mem.map V.int)) ∧ Mem m 3 mem ∧ Mem m (needN src) given ∧ k ≤ e.cost ∧
  ∀ q H', H q = none → Kp dk H H' → DkS C dk (.int m) (.ref q) c H' → H' q = some (.lst (mem.map V.int)) → Q (.str (S (stopT (runs m given mem ((stp m e 0 1 none 1).take k)) mem))) H'
def spDo (C : Addr) : Sp := fun vs H Q E => spDoMod C vs H Q E ∨ spDoMem C vs H Q E ∨ spDoSrc C vs H Q E ∨ spDoCost C vs H Q E ∨ spDoRun C vs H Q E ∨ spDoStop C vs H Q E
theorem given_lb {m n : Int} {l : List Int} (h : Mem m n l) (hn : n ≤ 60) : Lb m l := ⟨h.2, by have := h.1; omega⟩
theorem fr (a : List Nat) : joinL [32] [a] = a := rfl
theorem sp2 (a b : List Nat) : joinL [32] [a, b] = a ++ 32 :: b := rfl
theorem sp3 (a b c : List Nat) : joinL [32] [a, b, c] = a ++ 32 :: (b ++ 32 :: c) := rfl
section
variable {P : Program} {w : World} {K : PySem.W.Frag} {mg : Str → Option Value} {base : Heap} {C CP : Addr}
theorem met_do (T : Gs mg) (G : DkC K C) (c_number_of : C8.Cal P w K mg base 1 "number_of" (spNum 40) []) (c_list_of : C8.Cal P w K mg base 2 "list_of" spListOf []) (m_take_modulus : C8.Met P w K mg base 1 C "take_modulus" (spTMod C) []) (m_take_memory : C8.Met P w K mg base 1 C "take_memory" (spTMem C) []) (m_take_source : C8.Met P w K mg base 6 C "take_source" (spTSrc C) [])
    (m_program : C8.Met P w K mg base 10 C "program" (spDProg C CP) []) (m_run : C8.Met P w K mg base 12 C "run" (spDRun C) []) (m_stop : C8.Met P w K mg base 12 C "stop" (spDStop C) []) (m_judged : C8.Met P w K mg base 1 C "judged" (fun _ _ _ _ => False) []) (m___len__ : C8.Met P w K mg base 1 CP "__len__" (spLen CP) [])
    (F : MetAt K C "do" "Desk.do" s_Desk_do) : C8.Met P w K mg base 13 C "do" (spDo C) [] := by
  refine met_ofD G F sc_Desk_do bi_Desk_do (fun vs H Q E h => ?_) (fun f cdv A outer s H vs Q E hr h => ?_)
  · rcases h with h | h | h | h | h | h
    · obtain ⟨_, _, _, _, _, rfl, _⟩ := h
      rfl
    · obtain ⟨_, _, _, _, _, rfl, _⟩ := h
      rfl
    · obtain ⟨_, _, _, _, _, _, rfl, _⟩ := h
      rfl
    · obtain ⟨_, _, _, _, _, _, rfl, _⟩ := h
      rfl
    · obtain ⟨_, _, _, _, _, _, _, _, rfl, _⟩ := h
      rfl
    · obtain ⟨_, _, _, _, _, _, _, _, _, rfl, _⟩ := h
      rfl
  · refine ⟨_, (pss_cons (ps_if (pt_not (pt_val (pe_callB call_isi (by rfl) T.n_isinstance (by decide +kernel) (pa_cons (pv 1) (pa_cons (pe_bltn (v := .ty "str") rfl T.n_str (by decide +kernel) rfl) pa_nil))))) (pss_one (ps_never)) pss_nil)
      (pss_cons (ps_set (i := 2) sc_Desk_do.nd rfl (by first | exact Or.inl rfl | exact Or.inr rfl) (pe_splitN (pv 1) pe_str))
      (pss_cons (ps_if (PW.pt (pw_and (pt_cmpR op_eq (pe_ix ix_seq (pv 2) pe_int (fun _ _ => rfl)) pe_str (nomark _)) (pw_and1 (pt_cmpR op_eq (pe_callB b_len (by rfl) T.n_len PySem.boot_len (pa_cons (pv 2) pa_nil)) pe_int (nomark _))))) (pss_one (ps_ret (C8.pe_mt m_take_modulus hr (by first | decide | omega) (pv 0) (pa_cons (C8.pe_c c_number_of hr (by first | decide | omega) rfl (pa_cons (pe_ix ix_seq (pv 2) pe_int (fun _ _ => rfl)) pa_nil)) pa_nil)))) pss_nil)
      (pss_cons (ps_if (pt_cmpR op_isNn (pe_fld (pv 0) rfl) pe_non (nomark _)) (pss_one (ps_never)) pss_nil)
      (pss_cons (ps_if (PW.pt (pw_and (pt_cmpR op_eq (pe_ix ix_seq (pv 2) pe_int (fun _ _ => rfl)) pe_str (nomark _)) (pw_and1 (pt_cmpR op_eq (pe_callB b_len (by rfl) T.n_len PySem.boot_len (pa_cons (pv 2) pa_nil)) pe_int (nomark _))))) (pss_one (ps_ret (C8.pe_mt m_take_memory hr (by first | decide | omega) (pv 0) (pa_cons (C8.pe_c c_list_of hr (by first | decide | omega) rfl (pa_cons (pe_ix ix_seq (pv 2) pe_int (fun _ _ => rfl)) (pa_cons (pe_fld (pv 0) rfl) pa_nil))) pa_nil)))) pss_nil)
      (pss_cons (ps_if (PW.pt (pw_and (pt_cmpR op_eq (pe_ix ix_seq (pv 2) pe_int (fun _ _ => rfl)) pe_str (nomark _)) (pw_and1 (pt_cmpR op_gt (pe_callB b_len (by rfl) T.n_len PySem.boot_len (pa_cons (pv 2) pa_nil)) pe_int (nomark _))))) (pss_one (ps_ret (C8.pe_mt m_take_source hr (by first | decide | omega) (pv 0) (pa_cons (pe_slice C8.sl_txt (pv 1) (po_some (pe_callB b_len (by rfl) T.n_len PySem.boot_len (pa_cons pe_str pa_nil))) po_none) pa_nil)))) pss_nil)
      (pss_cons (ps_if (pt_cmpR op_eq (pv 1) pe_str (nomark _)) (pss_one (ps_ret (pe_callTy b_strI (by rfl) T.n_str (by decide +kernel) (pa_cons (pe_callB (call_lenO m___len__ hr (by first | decide | omega)) (by rfl) T.n_len PySem.boot_len (pa_cons (C8.pe_mt0 m_program hr (by first | decide | omega) (pv 0)) pa_nil)) pa_nil)))) pss_nil)
      (pss_cons (ps_if (PW.pt (pw_and (pt_cmpR op_eq (pe_ix ix_seq (pv 2) pe_int (fun _ _ => rfl)) pe_str (nomark _)) (pw_and1 (pt_cmpR op_eq (pe_callB b_len (by rfl) T.n_len PySem.boot_len (pa_cons (pv 2) pa_nil)) pe_int (nomark _))))) (pss_one (ps_ret (C8.pe_mt m_run hr (by first | decide | omega) (pv 0) (pa_cons (C8.pe_c c_list_of hr (by first | decide | omega) rfl (pa_cons (pe_ix ix_seq (pv 2) pe_int (fun _ _ => rfl)) (pa_cons (pe_fld (pv 0) rfl) pa_nil))) pa_nil)))) pss_nil)
      (pss_cons (ps_if (PW.pt (pw_and (pt_cmpR op_eq (pe_ix ix_seq (pv 2) pe_int (fun _ _ => rfl)) pe_str (nomark _)) (pw_and1 (pt_cmpR op_eq (pe_callB b_len (by rfl) T.n_len PySem.boot_len (pa_cons (pv 2) pa_nil)) pe_int (nomark _))))) (pss_one (ps_ret (C8.pe_mt m_stop hr (by first | decide | omega) (pv 0) (pa_cons (C8.pe_c c_number_of hr (by first | decide | omega) rfl (pa_cons (pe_ix ix_seq (pv 2) pe_int (fun _ _ => rfl)) pa_nil)) (pa_cons (C8.pe_c c_list_of hr (by first | decide | omega) rfl (pa_cons (pe_ix ix_seq (pv 2) pe_int (fun _ _ => rfl)) (pa_cons (pe_fld (pv 0) rfl) pa_nil))) pa_nil))))) pss_nil)
      (pss_cons (ps_if (pt_cmpR op_eq (pv 1) pe_str (nomark _)) (pss_one (ps_ret (C8.pe_mt0 m_judged hr (by first | decide | omega) (pv 0)))) pss_nil)
      (pss_one (ps_never)))))))))))), ?_⟩
    have hsz : sizeLine = 2 ^ 24 := rfl
    have g1 := G.cls
    have g2 := G.mo
    have g3 := G.co
    have g4 := G.so
    have l1 : cMod.length = 7 := rfl
    have l2 : cMem.length = 6 := rfl
    have l3 : cSrc.length = 6 := rfl
    have l4 : cRun.length = 3 := rfl
    have l5 : cStop.length = 4 := rfl
    rcases h with h | h | h | h | h | h
    · obtain ⟨x, n, a, b, c, rfl, n2, n9, hdk, k⟩ := h
      have hn := numL_len (n := n) (k := 10) (by decide) (by omega)
      obtain ⟨dx, hx⟩ := id hdk
      have hfr : ∀ p ∈ [cMod, numL n], 32 ∉ p := by
        intro p hp
        simp only [List.mem_cons, List.not_mem_nil, or_false] at hp
        rcases hp with q | q <;> subst q
        · decide
        · exact numL_free (by omega)
      walk_at "rd"
      refine n_split (split_sp (by simp) hfr) (by decide +kernel) (by rw [S_len, sp2, List.length_append, List.length_cons]; omega) fun r H1 nr s1 hr1 => ?_
      replace hr1 : H1 r = some (.lst [.str (S cMod), .str (S (numL n))]) := hr1
      have hx1 := s1 _ _ hx
      clear hx
      walk_at "rd"
      refine ⟨n, rfl, Nat.lt_of_le_of_lt n9 (by decide), ?_⟩
      refine ⟨x, n, a, b, c, rfl, by omega, by omega, ⟨dx, hx1⟩, fun H2 k2 d2 => k H2 ((Kp.of s1).trans k2) d2⟩
    · obtain ⟨x, m, xs, b, c, rfl, hdk, m2, m9, hM, k⟩ := h
      obtain ⟨dx, hx⟩ := id hdk
      have lb := given_lb hM (by decide)
      have hw := writ_len m9 lb.1
      have hml := hM.1
      have hfr : ∀ p ∈ [cMem, writL xs], 32 ∉ p := by
        intro p hp
        simp only [List.mem_cons, List.not_mem_nil, or_false] at hp
        rcases hp with q | q <;> subst q
        · decide
        · exact writ_free rfl _
      walk_at "rd"
      refine n_split (split_sp (by simp) hfr) (by decide +kernel) (by rw [S_len, sp2, List.length_append, List.length_cons]; omega) fun r H1 nr s1 hr1 => ?_
      replace hr1 : H1 r = some (.lst [.str (S cMem), .str (S (writL xs))]) := hr1
      have hx1 := s1 _ _ hx
      clear hx
      walk_at "rd"
      refine ⟨xs, m, rfl, m9, lb, fun q H2 nq s2 hq => ?_⟩
      have s12 := s1.trans s2
      have hx2 := s2 _ _ hx1
      refine ⟨x, q, _, .int m, b, c, rfl, hq, by rw [List.length_map]; omega, ⟨dx, hx2⟩, fun H3 k3 d3 => ?_⟩
      exact k q H3 (none_of_same s1 nq) ((Kp.of s12).trans k3) d3 (k3 _ _ (ne_of hq hx2 (by intro z; cases z)) hq)
    · obtain ⟨x, src, e, m, b, c, rfl, sp, hdk, k⟩ := h
      obtain ⟨dx, hx⟩ := id hdk
      have hl := srcL_len sp.ok sp.l2
      have hlen : (cSrc ++ 32 :: srcL src).length = 7 + (srcL src).length := by rw [List.length_append, List.length_cons, l3]; omega
      obtain ⟨ps, hps, esp⟩ := split_word (w := cSrc) (r := srcL src) (by decide)
      have hpl : 0 < ps.length := List.length_pos_iff.mpr hps
      walk_at "rd"
      refine n_split (esp) (by decide +kernel) (by rw [S_len, hlen]; omega) fun r H1 nr s1 hr1 => ?_
      replace hr1 : H1 r = some (.lst (.str (S cSrc) :: (ps.map S).map V.str)) := hr1
      have hx1 := s1 _ _ hx
      clear hx
      have hgt : (1 : Int) < ((V.str (S cSrc) :: (ps.map S).map V.str).length : Int) := by simp only [List.length_cons, List.length_map]; omega
      have hat : atI (V.str (S cSrc) :: (ps.map S).map V.str) 0 = some (V.str (S cSrc)) := at_nat (by decide) rfl
      walk_at "rd"
      refine r_ixL hr1 hat ?_
      walk_at "rd"
      refine r_ixL hr1 hat ?_
      walk_at "rd"
      refine r_ixL hr1 hat ?_
      walk_at "rd"
      refine r_lenS (z := Str.ofString "source ") (by decide +kernel) ?_
      walk_at "rd"
      have e7 : ((Str.ofString "source ").length : Int) = ((cSrc ++ [32]).length : Int) := by decide +kernel
      have ecs : cSrc ++ 32 :: srcL src = (cSrc ++ [32]) ++ srcL src := by rw [List.append_assoc]; rfl
      refine n_slX (w := srcL src) (by rw [hlen]; omega) (by rw [ecs]; exact from_app _ _ e7) ?_
      refine ⟨x, src, e, .int m, b, c, rfl, sp, ⟨dx, hx1⟩, fun v H2 k2 d2 r2 => ?_⟩
      exact k v H2 ((Kp.of s1).trans k2) d2 r2
    · obtain ⟨x, src, e, m, b, c, rfl, hdk, hs, sp, m2, m9, k⟩ := h
      obtain ⟨dx, hx⟩ := id hdk
      have hc := sp.le
      walk_at "rd"
      refine n_split (ys := [S [99, 111, 115, 116]]) (split_sp (ps := [[99, 111, 115, 116]]) (by simp) (by decide)) (by decide +kernel) (by decide +kernel) fun r H1 nr s1 hr1 => ?_
      replace hr1 : H1 r = some (.lst [.str (S [99, 111, 115, 116])]) := hr1
      have hx1 := s1 _ _ hx
      clear hx
      walk_at "rd"
      refine ⟨x, src, e, m, b, c, rfl, ⟨dx, hx1⟩, hs.same s1, sp, m2, m9, fun y H2 s2 pr vp => ?_⟩
      walk_at "rd"
      have hsl := stp_len (m := m) e 0 1 none 1
      refine n_lenP pr (by omega) ?_
      rw [hsl]
      walk_at "rd"
      refine n_str (by omega) ?_
      exact k H2 (s1.trans s2)
    · obtain ⟨x, l, src, e, m, c, mem, given, rfl, hdk, hs, sp, m2, m9, hl, hM, hG, k⟩ := h
      obtain ⟨dx, hx⟩ := id hdk
      have nb := need_bd sp.ok
      have lb := given_lb hG nb.2
      have hw := writ_len m9 lb.1
      have hml := hG.1
      have hfr : ∀ p ∈ [cRun, writL given], 32 ∉ p := by
        intro p hp
        simp only [List.mem_cons, List.not_mem_nil, or_false] at hp
        rcases hp with q | q <;> subst q
        · decide
        · exact writ_free rfl _
      have hne : ¬ (S (joinL [32] [cRun, writL given]) = Str.ofString "cost") := by
        show ¬ (S (joinL [32] [cRun, writL given]) = S [99, 111, 115, 116])
        exact S_ne (by show some 114 ≠ some 99; decide)
      walk_at "rd"
      refine n_split (split_sp (by simp) hfr) (by decide +kernel) (by rw [S_len, sp2, List.length_append, List.length_cons]; omega) fun r H1 nr s1 hr1 => ?_
      replace hr1 : H1 r = some (.lst [.str (S cRun), .str (S (writL given))]) := hr1
      have hx1 := s1 _ _ hx
      clear hx
      walk_at "rd"
      refine ⟨given, m, rfl, m9, lb, fun q H2 nq s2 hq => ?_⟩
      have s12 := s1.trans s2
      refine ⟨x, q, l, src, e, m, c, mem, given, rfl, hdk.same s12, hs.same s12, sp, m2, m9, s12 _ _ hl, hM, hq, hG, fun q2 H3 nq2 k3 d3 h3 => ?_⟩
      exact k q2 H3 (none_of_same s12 nq2) ((Kp.of s12).trans k3) d3 h3
    · obtain ⟨x, l, src, e, m, n, c, mem, given, rfl, hdk, hs, sp, m2, m9, hl, hM, hG, hn, k⟩ := h
      obtain ⟨dx, hx⟩ := id hdk
      have nb := need_bd sp.ok
      have lb := given_lb hG nb.2
      have hw := writ_len m9 lb.1
      have hml := hG.1
      have hle := sp.le
      have hnl := num9 (n := n) (by omega)
      have hfr : ∀ p ∈ [cStop, numL n, writL given], 32 ∉ p := by
        intro p hp
        simp only [List.mem_cons, List.not_mem_nil, or_false] at hp
        rcases hp with q | q | q <;> subst q
        · decide
        · exact numL_free (by omega)
        · exact writ_free rfl _
      have hne : ¬ (S (joinL [32] [cStop, numL n, writL given]) = Str.ofString "cost") := by
        show ¬ (S (joinL [32] [cStop, numL n, writL given]) = S [99, 111, 115, 116])
        exact S_ne (by show some 115 ≠ some 99; decide)
      walk_at "rd"
      refine n_split (split_sp (by simp) hfr) (by decide +kernel) (by rw [S_len, sp3, List.length_append, List.length_cons, List.length_append, List.length_cons]; omega) fun r H1 nr s1 hr1 => ?_
      replace hr1 : H1 r = some (.lst [.str (S cStop), .str (S (numL n)), .str (S (writL given))]) := hr1
      have hx1 := s1 _ _ hx
      clear hx
      walk_at "rd"
      refine ⟨n, rfl, Nat.lt_of_le_of_lt (Nat.le_trans hn hle) (by decide), ?_⟩
      walk_at "rd"
      refine ⟨given, m, rfl, m9, lb, fun q H2 nq s2 hq => ?_⟩
      have s12 := s1.trans s2
      refine ⟨x, q, l, src, e, m, n, c, mem, given, rfl, hdk.same s12, hs.same s12, sp, m2, m9, s12 _ _ hl, hM, hq, hG, ⟨by omega, by omega⟩, fun q2 H3 nq2 k3 d3 h3 => ?_⟩
      exact k q2 H3 (none_of_same s12 nq2) ((Kp.of s12).trans k3) d3 h3
end
end Bf
namespace Bf
open PySem L2
abbrev s__law_price : Stmt := topS 81
theorem bi__law_price : ∀ (kV doc pm : Value) (an : Option Addr) (cdv ct : Value) (us : List Value), us.length = 1 → bindArgs (PySem.W.fnOf "_law_price" "_law_price" (defArgs s__law_price) (defBody s__law_price) (defScope s__law_price) .none kV doc pm an cdv ct) ⟨us, []⟩ = pure ((["_law_source_here"] : List Str).zip us) := fun _ _ _ _ _ _ us hl => match us, hl with | [_], _ => rfl
theorem sc__law_price : FnScope ["_law_source_here", "_law_costs", "_law_node"] ["_law_source_here"] (defScope s__law_price) := C8.fnScope_by (by decide +kernel)
abbrev s__law_meaning : Stmt := topS 77
theorem bi__law_meaning : ∀ (kV doc pm : Value) (an : Option Addr) (cdv ct : Value) (us : List Value), us.length = 3 → bindArgs (PySem.W.fnOf "_law_meaning" "_law_meaning" (defArgs s__law_meaning) (defBody s__law_meaning) (defScope s__law_meaning) .none kV doc pm an cdv ct) ⟨us, []⟩ = pure ((["_law_source_here", "_law_modulus_here", "_law_given"] : List Str).zip us) := fun _ _ _ _ _ _ us hl => match us, hl with | [_, _, _], _ => rfl
theorem sc__law_meaning : FnScope ["_law_source_here", "_law_modulus_here", "_law_given", "_law_worth", "_law_node", "_law_i"] ["_law_source_here", "_law_modulus_here", "_law_given"] (defScope s__law_meaning) := C8.fnScope_by (by decide +kernel)
abbrev s__law_needs : Stmt := topS 78
theorem bi__law_needs : ∀ (kV doc pm : Value) (an : Option Addr) (cdv ct : Value) (us : List Value), us.length = 1 → bindArgs (PySem.W.fnOf "_law_needs" "_law_needs" (defArgs s__law_needs) (defBody s__law_needs) (defScope s__law_needs) .none kV doc pm an cdv ct) ⟨us, []⟩ = pure ((["_law_source_here"] : List Str).zip us) := fun _ _ _ _ _ _ us hl => match us, hl with | [_], _ => rfl
theorem sc__law_needs : FnScope ["_law_source_here", "_law_node"] ["_law_source_here"] (defScope s__law_needs) := C8.fnScope_by (by decide +kernel)
def spPrice : Sp := fun vs H Q _ => ∃ (src : List Nd) (e : Ex) (v : V), vs = [v] ∧ Rp H (srcD src) v ∧ SrcP src e ∧ ∀ H', Same H H' → Q (.int e.cost) H'
def spMean : Sp := fun vs H Q _ => ∃ (src : List Nd) (e : Ex) (v : V) (m : Int) (g : Addr) (given : List Int), vs = [v, .int m, .ref g] ∧ Rp H (srcD src) v ∧ SrcP src e ∧ 2 ≤ m ∧ m ≤ 1000000000 ∧ H g = some (.lst (given.map V.int)) ∧ Mem m (needN src) given ∧ ∀ H', Same H H' → Q (.int (e.val m given)) H'
def spLNeeds : Sp := fun vs H Q _ => ∃ (src : List Nd) (e : Ex) (v : V), vs = [v] ∧ Rp H (srcD src) v ∧ SrcP src e ∧ ∀ H', Same H H' → Q (.int (needN src)) H'
/-- the numbers that max is asked of -/
def inputsL (l : List Nd) : List Int := l.filterMap fun x => match x with
  | .input i => some ((i : Int) + 1)
  | _ => none
theorem inputs_snoc {l : List Nd} {i : Nat} {x : Nd} (h : l[i]? = some x) : inputsL (l.take (i + 1)) = inputsL (l.take i) ++ inputsL [x] := by
  rw [take_snoc h]
  exact List.filterMap_append
theorem inputs_mem {l : List Nd} {y : Int} (h : y ∈ inputsL l) : ∃ k i : Nat, l[k]? = some (.input i) ∧ y = (i : Int) + 1 := by
  obtain ⟨x, hx, e⟩ := List.mem_filterMap.mp h
  obtain ⟨k, hk⟩ := List.getElem?_of_mem hx
  cases x with
  | input i => exact ⟨k, i, hk, (Option.some.inj e).symm⟩
  | _ => cases e
theorem mem_inputs {l : List Nd} {k i : Nat} (h : l[k]? = some (.input i)) : (i : Int) + 1 ∈ inputsL l := List.mem_filterMap.mpr ⟨_, List.mem_of_getElem? h, rfl⟩
theorem inputs_len (l : List Nd) : (inputsL l).length ≤ l.length := List.length_filterMap_le _ _
theorem max_needs {src : List Nd} {m : Int} (h : m ∈ 0 :: inputsL src) (hm : ∀ y, y ∈ 0 :: inputsL src → y ≤ m) : m = needN src := by
  apply Int.le_antisymm
  · rcases List.mem_cons.mp h with q | q
    · rw [q]
      exact needs_le src 0
    · obtain ⟨k, i, h1, h2⟩ := inputs_mem q
      have := needs_in (m := 0) h1
      rw [h2]
      unfold needN
      omega
  · refine needs_top (hm 0 List.mem_cons_self) fun k i e => ?_
    have := hm _ (List.mem_cons_of_mem _ (mem_inputs e))
    omega
theorem atI_nat_sub {α : Type} {xs : List α} {v : α} (hp : 1 ≤ xs.length) (h : xs[xs.length - 1]? = some v) : atI xs ((xs.length : Int) - 1) = some v := by
  have e : (xs.length : Int) - 1 = ((xs.length - 1 : Nat) : Int) := by omega
  rw [e]
  exact atI_nat h
section
variable {P : Program} {w : World} {K : PySem.W.Frag} {mg : Str → Option Value} {base : Heap}
theorem cal__law_price (T : Gs mg) (F : DefAt K mg "_law_price" s__law_price) : C8.Cal P w K mg base 1 "_law_price" spPrice [] := by
  refine cal_of F sc__law_price bi__law_price (fun vs H Q E h => ?_) (fun f cdv A outer s H vs Q E hr h => ?_)
  · obtain ⟨src, e, v, rfl, _⟩ := h
    rfl
  · refine ⟨_, (pss_cons (ps_set (i := 1) sc__law_price.nd rfl (by first | exact Or.inl rfl | exact Or.inr rfl) (pe_lst pa_nil))
      (pss_cons (ps_for PassesOwn.never rfl (pi_tup (pv 0)) (pg_name (i := 2) sc__law_price.nd rfl (by first | exact Or.inl rfl | exact Or.inr rfl)) (pss_one (ps_if (PW.pt (pw_or (pt_cmpR op_eq (pe_ix ix_seq (pv 2) pe_int (fun _ _ => rfl)) pe_str (nomark _)) (pw_or1 (pt_cmpR op_eq (pe_ix ix_seq (pv 2) pe_int (fun _ _ => rfl)) pe_str (nomark _))))) (pss_one (ps_expr (pe_bm PySem.F.plainAttrs_list PySem.F.slot_list_append PySem.F.type_list_append mt_append (pv 1) (pa_cons pe_int pa_nil)))) (pss_one (ps_if (pt_cmpR op_eq (pe_ix ix_seq (pv 2) pe_int (fun _ _ => rfl)) pe_str (nomark _)) (pss_one (ps_expr (pe_bm PySem.F.plainAttrs_list PySem.F.slot_list_append PySem.F.type_list_append mt_append (pv 1) (pa_cons (pe_op op_add (pe_ix ix_seq (pv 1) (pe_ix ix_seq (pv 2) pe_int (fun _ _ => rfl)) (fun _ _ => rfl)) (pe_ix ix_seq (pv 1) (pe_ix ix_seq (pv 2) pe_int (fun _ _ => rfl)) (fun _ _ => rfl))) pa_nil)))) (pss_one (ps_if (pt_cmpR op_eq (pe_ix ix_seq (pv 2) pe_int (fun _ _ => rfl)) pe_str (nomark _)) (pss_one (ps_expr (pe_bm PySem.F.plainAttrs_list PySem.F.slot_list_append PySem.F.type_list_append mt_append (pv 1) (pa_cons (pe_op op_mul pe_int (pe_op op_add (pe_ix ix_seq (pv 1) (pe_ix ix_seq (pv 2) pe_int (fun _ _ => rfl)) (fun _ _ => rfl)) (pe_ix ix_seq (pv 1) (pe_ix ix_seq (pv 2) pe_int (fun _ _ => rfl)) (fun _ _ => rfl)))) pa_nil)))) (pss_one (ps_if (pt_cmpR op_eq (pe_ix ix_seq (pv 2) pe_int (fun _ _ => rfl)) pe_str (nomark _)) (pss_one (ps_expr (pe_bm PySem.F.plainAttrs_list PySem.F.slot_list_append PySem.F.type_list_append mt_append (pv 1) (pa_cons (pe_ix ix_seq (pv 1) (pe_ix ix_seq (pv 2) pe_int (fun _ _ => rfl)) (fun _ _ => rfl)) pa_nil)))) (pss_one (ps_expr (pe_bm PySem.F.plainAttrs_list PySem.F.slot_list_append PySem.F.type_list_append mt_append (pv 1) (pa_cons (pe_op op_add (pe_ix ix_seq (pv 1) (pe_ix ix_seq (pv 2) pe_int (fun _ _ => rfl)) (fun _ _ => rfl)) (pe_op op_mul pe_int (pe_op op_add (pe_op op_add (pe_ix ix_seq (pv 1) (pe_ix ix_seq (pv 2) pe_int (fun _ _ => rfl)) (fun _ _ => rfl)) (pe_ix ix_seq (pv 1) (pe_ix ix_seq (pv 2) pe_int (fun _ _ => rfl)) (fun _ _ => rfl))) (pe_ix ix_seq (pv 1) (pe_ix ix_seq (pv 2) pe_int (fun _ _ => rfl)) (fun _ _ => rfl))))) pa_nil)))))))))))))
      (pss_one (ps_ret (pe_ix ix_seq (pv 1) (pe_op op_sub (pe_callB b_len (by rfl) T.n_len PySem.boot_len (pa_cons (pv 1) pa_nil)) pe_int) (fun _ _ => rfl)))))), ?_⟩
    obtain ⟨src, e, v, rfl, hR, sp, q⟩ := h
    obtain ⟨a, ws, rfl, ha, hws⟩ := hR
    have hws0 := hws.len
    rw [List.length_map] at hws0
    have hsz : sizeLine = 2 ^ 24 := rfl
    have ok := sp.ok
    have l1 := sp.l1
    have l2 := sp.l2
    have un := sp.un
    walk_at "rd"
    refine n_lst (by decide) fun c H2 nc s2 hc => ?_
    walk_at "rd"
    refine n_forT (fun i σ H' => ∃ (u3 : Option V) (cs : List Int), σ = [some (.ref a), some (.ref c), u3] ∧ Same H H' ∧ H' c = some (.lst (cs.map V.int)) ∧ cs.length = i ∧ ∀ (j : Nat) (x : Ex), j < i → Un src j x → cs[j]? = some (x.cost : Int)) (s2 _ _ ha) ⟨_, [], rfl, s2, hc, rfl, fun j x h => absurd h (Nat.not_lt_zero _)⟩ (fun i σ H' _ h => by obtain ⟨_, _, _, s3, _⟩ := h; exact s3 _ _ ha) ?_ ?_
    · rintro i x σ H3 hx ⟨u3, cs, rfl, s3, hc3, hcl, hcs⟩
      obtain ⟨df, hdf, hfv⟩ := hws.at hx
      obtain ⟨nd, hnd, rfl⟩ := Option.map_eq_some_iff.mp (by rwa [List.getElem?_map] at hdf)
      replace hfv := hfv.same s3
      have hil : i < src.length := (List.getElem?_eq_some_iff.mp hnd).1
      have hok := ok i nd hnd
      have hlen : (cs.map V.int).length < sizeLine := by rw [List.length_map]; omega
      have at_ : ∀ (j : Nat) (x : Ex), j < i → Un src j x → (cs.map V.int)[j]? = some (.int (x.cost : Int)) := fun j x h1 h2 => by rw [List.getElem?_map, hcs j x h1 h2]; rfl
      have fin : ∀ (z : Int), (∀ x, Un src i x → z = x.cost) → ∀ (j : Nat) (x : Ex), j < i + 1 → Un src j x → (cs ++ [z])[j]? = some (x.cost : Int) := fun z hz j x h1 h2 => by
        by_cases e : j = i
        · subst e
          rw [List.getElem?_append_right (by omega), hcl, Nat.sub_self, hz x h2]
          rfl
        · rw [List.getElem?_append_left (by omega)]
          exact hcs j x (by omega) h2
      have ex_ : ∀ j, j < i → ∃ x, Un src j x := fun j h => un_all ok j (by omega)
      cases nd with
      | const n =>
        obtain ⟨b, _, rfl, hb, w1, _, rfl, rfl, w2, _, rfl, rfl, rfl⟩ := hfv
        walk_at "rd"
        refine n_app hc3 hlen fun H5 k5 h5 => ?_
        walk_at "rd"
        exact ⟨_, cs ++ [1], rfl, same_kp nc s3 k5, by rw [h5, List.map_append]; rfl, by rw [List.length_append, hcl]; rfl, fin _ fun x h => by rw [un_one h (.const hnd)]; rfl⟩
      | input j =>
        obtain ⟨b, _, rfl, hb, w1, _, rfl, rfl, w2, _, rfl, rfl, rfl⟩ := hfv
        walk_at "rd"
        refine n_app hc3 hlen fun H5 k5 h5 => ?_
        walk_at "rd"
        exact ⟨_, cs ++ [1], rfl, same_kp nc s3 k5, by rw [h5, List.map_append]; rfl, by rw [List.length_append, hcl]; rfl, fin _ fun x h => by rw [un_one h (.input hnd)]; rfl⟩
      | scaled n j =>
        obtain ⟨b, _, rfl, hb, w1, _, rfl, rfl, w2, _, rfl, rfl, w3, _, rfl, rfl, rfl⟩ := hfv
        obtain ⟨x1, u1⟩ := ex_ j hok.2
        walk_at "rd"
        refine r_ixL hc3 (atI_nat (at_ j x1 hok.2 u1)) ?_
        refine n_app hc3 hlen fun H5 k5 h5 => ?_
        walk_at "rd"
        exact ⟨_, cs ++ [(x1.cost : Int)], rfl, same_kp nc s3 k5, by rw [h5, List.map_append]; rfl, by rw [List.length_append, hcl]; rfl, fin _ fun x h => by rw [un_one h (.scal hnd u1)]; rfl⟩
      | sum j1 j2 =>
        obtain ⟨b, _, rfl, hb, w1, _, rfl, rfl, w2, _, rfl, rfl, w3, _, rfl, rfl, rfl⟩ := hfv
        obtain ⟨x1, u1⟩ := ex_ j1 hok.1
        obtain ⟨x2, u2⟩ := ex_ j2 hok.2
        walk_at "rd"
        refine r_ixL hc3 (atI_nat (at_ j1 x1 hok.1 u1)) ?_
        walk_at "rd"
        refine r_ixL hc3 (atI_nat (at_ j2 x2 hok.2 u2)) ?_
        walk_at "rd"
        refine n_app hc3 hlen fun H5 k5 h5 => ?_
        walk_at "rd"
        exact ⟨_, cs ++ [(x1.cost : Int) + x2.cost], rfl, same_kp nc s3 k5, by rw [h5, List.map_append]; rfl, by rw [List.length_append, hcl]; rfl, fin _ fun x h => by rw [un_one h (.sum hnd u1 u2)]; rfl⟩
      | product j1 j2 =>
        obtain ⟨b, _, rfl, hb, w1, _, rfl, rfl, w2, _, rfl, rfl, w3, _, rfl, rfl, rfl⟩ := hfv
        obtain ⟨x1, u1⟩ := ex_ j1 hok.1
        obtain ⟨x2, u2⟩ := ex_ j2 hok.2
        walk_at "rd"
        refine r_ixL hc3 (atI_nat (at_ j1 x1 hok.1 u1)) ?_
        walk_at "rd"
        refine r_ixL hc3 (atI_nat (at_ j2 x2 hok.2 u2)) ?_
        walk_at "rd"
        refine n_app hc3 hlen fun H5 k5 h5 => ?_
        walk_at "rd"
        exact ⟨_, cs ++ [2 * ((x1.cost : Int) + x2.cost)], rfl, same_kp nc s3 k5, by rw [h5, List.map_append]; rfl, by rw [List.length_append, hcl]; rfl, fin _ fun x h => by rw [un_one h (.prod hnd u1 u2)]; rfl⟩
      | choose j1 j2 j3 =>
        obtain ⟨b, _, rfl, hb, w1, _, rfl, rfl, w2, _, rfl, rfl, w3, _, rfl, rfl, w4, _, rfl, rfl, rfl⟩ := hfv
        obtain ⟨x1, u1⟩ := ex_ j1 hok.1
        obtain ⟨x2, u2⟩ := ex_ j2 hok.2.1
        obtain ⟨x3, u3'⟩ := ex_ j3 hok.2.2
        walk_at "rd"
        refine r_ixL hc3 (atI_nat (at_ j3 x3 hok.2.2 u3')) ?_
        walk_at "rd"
        refine r_ixL hc3 (atI_nat (at_ j1 x1 hok.1 u1)) ?_
        walk_at "rd"
        refine r_ixL hc3 (atI_nat (at_ j2 x2 hok.2.1 u2)) ?_
        walk_at "rd"
        refine r_ixL hc3 (atI_nat (at_ j3 x3 hok.2.2 u3')) ?_
        walk_at "rd"
        refine n_app hc3 hlen fun H5 k5 h5 => ?_
        walk_at "rd"
        exact ⟨_, cs ++ [(x3.cost : Int) + 2 * ((x1.cost : Int) + x2.cost + x3.cost)], rfl, same_kp nc s3 k5, by rw [h5, List.map_append]; rfl, by rw [List.length_append, hcl]; rfl, fin _ fun x h => by rw [un_one h (.cho hnd u1 u2 u3')]; rfl⟩
    · rintro σ H3 ⟨u3, cs, rfl, s3, hc3, hcl, hcs⟩
      walk_at "rd"
      refine r_ixL hc3 (atI_nat_sub (by rw [List.length_map, hcl, hws0]; omega) (v := .int e.cost) ?_) ?_
      · rw [List.length_map, hcl, hws0, List.getElem?_map, hcs (src.length - 1) e (by omega) un]
        rfl
      · exact q _ s3
theorem cal__law_meaning (T : Gs mg) (F : DefAt K mg "_law_meaning" s__law_meaning) : C8.Cal P w K mg base 1 "_law_meaning" spMean [] := by
  refine cal_of F sc__law_meaning bi__law_meaning (fun vs H Q E h => ?_) (fun f cdv A outer s H vs Q E hr h => ?_)
  · obtain ⟨src, e, v, m, g, given, rfl, _⟩ := h
    rfl
  · refine ⟨_, (pss_cons (ps_set (i := 3) sc__law_meaning.nd rfl (by first | exact Or.inl rfl | exact Or.inr rfl) (pe_lst pa_nil))
      (pss_cons (ps_for PassesOwn.never rfl (pi_tup (pv 0)) (pg_name (i := 4) sc__law_meaning.nd rfl (by first | exact Or.inl rfl | exact Or.inr rfl)) (pss_one (ps_if (pt_cmpR op_eq (pe_ix ix_seq (pv 4) pe_int (fun _ _ => rfl)) pe_str (nomark _)) (pss_one (ps_expr (pe_bm PySem.F.plainAttrs_list PySem.F.slot_list_append PySem.F.type_list_append mt_append (pv 3) (pa_cons (pe_op op_mod (pe_ix ix_seq (pv 4) pe_int (fun _ _ => rfl)) (pv 1)) pa_nil)))) (pss_one (ps_if (pt_cmpR op_eq (pe_ix ix_seq (pv 4) pe_int (fun _ _ => rfl)) pe_str (nomark _)) (pss_one (ps_expr (pe_bm PySem.F.plainAttrs_list PySem.F.slot_list_append PySem.F.type_list_append mt_append (pv 3) (pa_cons (pe_ix ix_seq (pv 2) (pe_ix ix_seq (pv 4) pe_int (fun _ _ => rfl)) (fun _ _ => rfl)) pa_nil)))) (pss_one (ps_if (pt_cmpR op_eq (pe_ix ix_seq (pv 4) pe_int (fun _ _ => rfl)) pe_str (nomark _)) (pss_one (ps_expr (pe_bm PySem.F.plainAttrs_list PySem.F.slot_list_append PySem.F.type_list_append mt_append (pv 3) (pa_cons (pe_op op_mod (pe_op op_add (pe_ix ix_seq (pv 3) (pe_ix ix_seq (pv 4) pe_int (fun _ _ => rfl)) (fun _ _ => rfl)) (pe_ix ix_seq (pv 3) (pe_ix ix_seq (pv 4) pe_int (fun _ _ => rfl)) (fun _ _ => rfl))) (pv 1)) pa_nil)))) (pss_one (ps_if (pt_cmpR op_eq (pe_ix ix_seq (pv 4) pe_int (fun _ _ => rfl)) pe_str (nomark _)) (pss_one (ps_expr (pe_bm PySem.F.plainAttrs_list PySem.F.slot_list_append PySem.F.type_list_append mt_append (pv 3) (pa_cons (pe_op op_mod (pe_op op_mul (pe_ix ix_seq (pv 3) (pe_ix ix_seq (pv 4) pe_int (fun _ _ => rfl)) (fun _ _ => rfl)) (pe_ix ix_seq (pv 3) (pe_ix ix_seq (pv 4) pe_int (fun _ _ => rfl)) (fun _ _ => rfl))) (pv 1)) pa_nil)))) (pss_one (ps_if (pt_cmpR op_eq (pe_ix ix_seq (pv 4) pe_int (fun _ _ => rfl)) pe_str (nomark _)) (pss_one (ps_expr (pe_bm PySem.F.plainAttrs_list PySem.F.slot_list_append PySem.F.type_list_append mt_append (pv 3) (pa_cons (pe_op op_mod (pe_op op_mul (pe_ix ix_seq (pv 4) pe_int (fun _ _ => rfl)) (pe_ix ix_seq (pv 3) (pe_ix ix_seq (pv 4) pe_int (fun _ _ => rfl)) (fun _ _ => rfl))) (pv 1)) pa_nil)))) (pss_cons (ps_set (i := 5) sc__law_meaning.nd rfl (by first | exact Or.inl rfl | exact Or.inr rfl) (pe_ix ix_seq (pv 3) (pe_ix ix_seq (pv 4) pe_int (fun _ _ => rfl)) (fun _ _ => rfl)))
      (pss_one (ps_expr (pe_bm PySem.F.plainAttrs_list PySem.F.slot_list_append PySem.F.type_list_append mt_append (pv 3) (pa_cons (pe_op op_mod (pe_op op_sub (pe_op op_add (pe_ix ix_seq (pv 3) (pe_ix ix_seq (pv 4) pe_int (fun _ _ => rfl)) (fun _ _ => rfl)) (pe_op op_mul (pv 5) (pe_ix ix_seq (pv 3) (pe_ix ix_seq (pv 4) pe_int (fun _ _ => rfl)) (fun _ _ => rfl)))) (pe_op op_mul (pv 5) (pe_ix ix_seq (pv 3) (pe_ix ix_seq (pv 4) pe_int (fun _ _ => rfl)) (fun _ _ => rfl)))) (pv 1)) pa_nil))))))))))))))))
      (pss_one (ps_ret (pe_ix ix_seq (pv 3) (pe_op op_sub (pe_callB b_len (by rfl) T.n_len PySem.boot_len (pa_cons (pv 3) pa_nil)) pe_int) (fun _ _ => rfl)))))), ?_⟩
    obtain ⟨src, e, v, m, g, given, rfl, hR, sp, m2, m9, hg, hG, q⟩ := h
    obtain ⟨a, ws, rfl, ha, hws⟩ := hR
    have hin : ∀ (k i : Nat), src[k]? = some (.input i) → (i : Int) < needN src := fun k i h => needs_in (m := 0) h
    have vb : ∀ {x : Ex} {k : Nat}, Un src k x → 0 ≤ x.val m given ∧ x.val m given < m := fun u => val_bd m2 hG hin u
    have hgl := hG.1
    have hws0 := hws.len
    rw [List.length_map] at hws0
    have hsz : sizeLine = 2 ^ 24 := rfl
    have ok := sp.ok
    have l1 := sp.l1
    have l2 := sp.l2
    have un := sp.un
    walk_at "rd"
    refine n_lst (by decide) fun c H2 nc s2 hc => ?_
    walk_at "rd"
    refine n_forT (fun i σ H' => ∃ (u3 u4 : Option V) (cs : List Int), σ = [some (.ref a), some (.int m), some (.ref g), some (.ref c), u3, u4] ∧ Same H H' ∧ H' c = some (.lst (cs.map V.int)) ∧ cs.length = i ∧ ∀ (j : Nat) (x : Ex), j < i → Un src j x → cs[j]? = some (x.val m given)) (s2 _ _ ha) ⟨_, _, [], rfl, s2, hc, rfl, fun j x h => absurd h (Nat.not_lt_zero _)⟩ (fun i σ H' _ h => by obtain ⟨_, _, _, _, s3, _⟩ := h; exact s3 _ _ ha) ?_ ?_
    · rintro i x σ H3 hx ⟨u3, u4, cs, rfl, s3, hc3, hcl, hcs⟩
      obtain ⟨df, hdf, hfv⟩ := hws.at hx
      obtain ⟨nd, hnd, rfl⟩ := Option.map_eq_some_iff.mp (by rwa [List.getElem?_map] at hdf)
      replace hfv := hfv.same s3
      have hil : i < src.length := (List.getElem?_eq_some_iff.mp hnd).1
      have hok := ok i nd hnd
      have hlen : (cs.map V.int).length < sizeLine := by rw [List.length_map]; omega
      have at_ : ∀ (j : Nat) (x : Ex), j < i → Un src j x → (cs.map V.int)[j]? = some (.int (x.val m given)) := fun j x h1 h2 => by rw [List.getElem?_map, hcs j x h1 h2]; rfl
      have fin : ∀ (z : Int), (∀ x, Un src i x → z = (x.val m given)) → ∀ (j : Nat) (x : Ex), j < i + 1 → Un src j x → (cs ++ [z])[j]? = some ((x.val m given) : Int) := fun z hz j x h1 h2 => by
        by_cases e : j = i
        · subst e
          rw [List.getElem?_append_right (by omega), hcl, Nat.sub_self, hz x h2]
          rfl
        · rw [List.getElem?_append_left (by omega)]
          exact hcs j x (by omega) h2
      have ex_ : ∀ j, j < i → ∃ x, Un src j x := fun j h => un_all ok j (by omega)
      cases nd with
      | const n =>
        obtain ⟨b, _, rfl, hb, w1, _, rfl, rfl, w2, _, rfl, rfl, rfl⟩ := hfv
        walk_at "rd"
        refine n_app hc3 hlen fun H5 k5 h5 => ?_
        walk_at "rd"
        exact ⟨_, _, cs ++ [n % m], rfl, same_kp nc s3 k5, by rw [h5, List.map_append]; rfl, by rw [List.length_append, hcl]; rfl, fin _ fun x h => by rw [un_one h (.const hnd)]; rfl⟩
      | input j =>
        obtain ⟨b, _, rfl, hb, w1, _, rfl, rfl, w2, _, rfl, rfl, rfl⟩ := hfv
        have hj := hin i j hnd
        walk_at "rd"
        refine r_ixL (s3 _ _ hg) (gt_V (i := j) (by omega) (by omega)) ?_
        refine n_app hc3 hlen fun H5 k5 h5 => ?_
        walk_at "rd"
        exact ⟨_, _, cs ++ [gt given j], rfl, same_kp nc s3 k5, by rw [h5, List.map_append]; rfl, by rw [List.length_append, hcl]; rfl, fin _ fun x h => by rw [un_one h (.input hnd)]; rfl⟩
      | scaled n j =>
        obtain ⟨b, _, rfl, hb, w1, _, rfl, rfl, w2, _, rfl, rfl, w3, _, rfl, rfl, rfl⟩ := hfv
        obtain ⟨x1, u1⟩ := ex_ j hok.2
        obtain ⟨⟨n0, n1⟩, hj⟩ := hok
        have v1 := vb u1
        walk_at "rd"
        refine r_ixL hc3 (atI_nat (at_ j x1 hj u1)) ?_
        walk_at "rd"
        refine n_app hc3 hlen fun H5 k5 h5 => ?_
        walk_at "rd"
        exact ⟨_, _, cs ++ [n * x1.val m given % m], rfl, same_kp nc s3 k5, by rw [h5, List.map_append]; rfl, by rw [List.length_append, hcl]; rfl, fin _ fun x h => by rw [un_one h (.scal hnd u1)]; rfl⟩
      | sum j1 j2 =>
        obtain ⟨b, _, rfl, hb, w1, _, rfl, rfl, w2, _, rfl, rfl, w3, _, rfl, rfl, rfl⟩ := hfv
        obtain ⟨x1, u1⟩ := ex_ j1 hok.1
        obtain ⟨x2, u2⟩ := ex_ j2 hok.2
        walk_at "rd"
        refine r_ixL hc3 (atI_nat (at_ j1 x1 hok.1 u1)) ?_
        walk_at "rd"
        refine r_ixL hc3 (atI_nat (at_ j2 x2 hok.2 u2)) ?_
        walk_at "rd"
        refine n_app hc3 hlen fun H5 k5 h5 => ?_
        walk_at "rd"
        exact ⟨_, _, cs ++ [(x1.val m given + x2.val m given) % m], rfl, same_kp nc s3 k5, by rw [h5, List.map_append]; rfl, by rw [List.length_append, hcl]; rfl, fin _ fun x h => by rw [un_one h (.sum hnd u1 u2)]; rfl⟩
      | product j1 j2 =>
        obtain ⟨b, _, rfl, hb, w1, _, rfl, rfl, w2, _, rfl, rfl, w3, _, rfl, rfl, rfl⟩ := hfv
        obtain ⟨x1, u1⟩ := ex_ j1 hok.1
        obtain ⟨x2, u2⟩ := ex_ j2 hok.2
        have v1 := vb u1
        have v2 := vb u2
        walk_at "rd"
        refine r_ixL hc3 (atI_nat (at_ j1 x1 hok.1 u1)) ?_
        walk_at "rd"
        refine r_ixL hc3 (atI_nat (at_ j2 x2 hok.2 u2)) ?_
        walk_at "rd"
        refine n_app hc3 hlen fun H5 k5 h5 => ?_
        walk_at "rd"
        exact ⟨_, _, cs ++ [x1.val m given * x2.val m given % m], rfl, same_kp nc s3 k5, by rw [h5, List.map_append]; rfl, by rw [List.length_append, hcl]; rfl, fin _ fun x h => by rw [un_one h (.prod hnd u1 u2)]; rfl⟩
      | choose j1 j2 j3 =>
        obtain ⟨b, _, rfl, hb, w1, _, rfl, rfl, w2, _, rfl, rfl, w3, _, rfl, rfl, w4, _, rfl, rfl, rfl⟩ := hfv
        obtain ⟨x1, u1⟩ := ex_ j1 hok.1
        obtain ⟨x2, u2⟩ := ex_ j2 hok.2.1
        obtain ⟨x3, u3'⟩ := ex_ j3 hok.2.2
        have v1 := vb u1
        have v2 := vb u2
        have v3 := vb u3'
        walk_at "rd"
        refine r_ixL hc3 (atI_nat (at_ j1 x1 hok.1 u1)) ?_
        walk_at "rd"
        refine r_ixL hc3 (atI_nat (at_ j3 x3 hok.2.2 u3')) ?_
        walk_at "rd"
        refine r_ixL hc3 (atI_nat (at_ j2 x2 hok.2.1 u2)) ?_
        walk_at "rd"
        refine r_ixL hc3 (atI_nat (at_ j3 x3 hok.2.2 u3')) ?_
        walk_at "rd"
        refine n_app hc3 hlen fun H5 k5 h5 => ?_
        walk_at "rd"
        exact ⟨_, _, cs ++ [(x3.val m given + x1.val m given * x2.val m given - x1.val m given * x3.val m given) % m], rfl, same_kp nc s3 k5, by rw [h5, List.map_append]; rfl, by rw [List.length_append, hcl]; rfl, fin _ fun x h => by rw [un_one h (.cho hnd u1 u2 u3')]; rfl⟩
    · rintro σ H3 ⟨u3, u4, cs, rfl, s3, hc3, hcl, hcs⟩
      walk_at "rd"
      refine r_ixL hc3 (atI_nat_sub (by rw [List.length_map, hcl, hws0]; omega) (v := .int (e.val m given)) ?_) ?_
      · rw [List.length_map, hcl, hws0, List.getElem?_map, hcs (src.length - 1) e (by omega) un]
        rfl
      · exact q _ s3
theorem cal__law_needs (T : Gs mg) (F : DefAt K mg "_law_needs" s__law_needs) : C8.Cal P w K mg base 1 "_law_needs" spLNeeds [] := by
  refine cal_of F sc__law_needs bi__law_needs (fun vs H Q E h => ?_) (fun f cdv A outer s H vs Q E hr h => ?_)
  · obtain ⟨src, e, v, rfl, _⟩ := h
    rfl
  · refine ⟨_, (pss_one (ps_ret (pe_callB (cr_max rfl) (by rfl) T.n_max (by decide +kernel) (pa_cons (pe_op op_cat (pe_lst (pa_cons pe_int pa_nil)) (pe_lc (own := [("_law_node", 1)]) (g := gName 1) rfl sc__law_needs.nd (pi_tup (pv 0)) (blkOk_by (by first | decide +kernel | kernel_rfl)) (fun _ _ _ _ _ => pg_name (i := 1) sc__law_needs.nd rfl (by first | exact Or.inl rfl | exact Or.inr rfl)) (fun _ _ _ _ _ => pts_one (pt_cmpR op_eq (pe_ix (ix_seqK (K := K) rfl) (pv 1) pe_int (fun _ _ => rfl)) pe_str (nomark _))) (fun _ _ _ _ _ => (pe_op op_add (pe_ix (ix_seqK (K := K) rfl) (pv 1) pe_int (fun _ _ => rfl)) pe_int)))) pa_nil)))), ?_⟩
    obtain ⟨src, e, v, rfl, hR, sp, q⟩ := h
    obtain ⟨a, ws, rfl, ha, hws⟩ := hR
    have hws0 := hws.len
    rw [List.length_map] at hws0
    have hsz : sizeLine = 2 ^ 24 := rfl
    have l2 := sp.l2
    walk_at "rd"
    refine n_lst (Nat.le_of_ble_eq_true rfl) fun z H1 nz s1 hz => ?_
    walk_at "rd"
    refine n_lcT (s1 _ _ ha) fun D H0 nD s0 hD => ⟨fun i H' => Same H1 H' ∧ H' D = some (.lst ((inputsL (src.take i)).map V.int)), ⟨s0, hD⟩, fun i H' h => h.1 _ _ (s1 _ _ ha), fun i y H' hy h => ?_, fun H' h => ?_⟩
    · obtain ⟨t1, t3⟩ := h
      obtain ⟨df, hdf, hfv⟩ := hws.at hy
      obtain ⟨nd, hnd, rfl⟩ := Option.map_eq_some_iff.mp (by rwa [List.getElem?_map] at hdf)
      replace hfv := hfv.same (s1.trans t1)
      have hil := (List.getElem?_eq_some_iff.mp hnd).1
      have hlen : ((inputsL (src.take i)).map V.int).length < sizeLine := by
        have := inputs_len (src.take i)
        rw [List.length_take] at this
        rw [List.length_map]
        omega
      have e := inputs_snoc hnd
      cases nd with
      | input j =>
        obtain ⟨b, _, rfl, hb, w1, _, rfl, rfl, w2, _, rfl, rfl, rfl⟩ := hfv
        walk_at "rd"
        refine n_acc t3 hlen fun H3 k3 h3 => ⟨same_kp nD t1 k3, ?_⟩
        rw [e, List.map_append]
        exact h3
      | const n =>
        obtain ⟨b, _, rfl, hb, w1, _, rfl, rfl, w2, _, rfl, rfl, rfl⟩ := hfv
        walk_at "rd"
        exact ⟨t1, by rw [e, List.map_append]; exact (congrArg (fun x => some (HO.lst x)) (List.append_nil _)).symm ▸ t3⟩
      | sum n j =>
        obtain ⟨b, _, rfl, hb, w1, _, rfl, rfl, w2, _, rfl, rfl, w3, _, rfl, rfl, rfl⟩ := hfv
        walk_at "rd"
        exact ⟨t1, by rw [e, List.map_append]; exact (congrArg (fun x => some (HO.lst x)) (List.append_nil _)).symm ▸ t3⟩
      | product n j =>
        obtain ⟨b, _, rfl, hb, w1, _, rfl, rfl, w2, _, rfl, rfl, w3, _, rfl, rfl, rfl⟩ := hfv
        walk_at "rd"
        exact ⟨t1, by rw [e, List.map_append]; exact (congrArg (fun x => some (HO.lst x)) (List.append_nil _)).symm ▸ t3⟩
      | scaled n j =>
        obtain ⟨b, _, rfl, hb, w1, _, rfl, rfl, w2, _, rfl, rfl, w3, _, rfl, rfl, rfl⟩ := hfv
        walk_at "rd"
        exact ⟨t1, by rw [e, List.map_append]; exact (congrArg (fun x => some (HO.lst x)) (List.append_nil _)).symm ▸ t3⟩
      | choose n j l =>
        obtain ⟨b, _, rfl, hb, w1, _, rfl, rfl, w2, _, rfl, rfl, w3, _, rfl, rfl, w4, _, rfl, rfl, rfl⟩ := hfv
        walk_at "rd"
        exact ⟨t1, by rw [e, List.map_append]; exact (congrArg (fun x => some (HO.lst x)) (List.append_nil _)).symm ▸ t3⟩
    · obtain ⟨t1, t3⟩ := h
      rw [hws0, List.take_length] at t3
      have hil := inputs_len src
      walk_at "rd"
      refine n_cat (t1 _ _ hz) t3 (by rw [List.length_map]; show 1 + _ ≤ _; omega) fun p H2 np s2 hp => ?_
      have ep : [V.int 0] ++ (inputsL src).map V.int = (0 :: inputsL src).map V.int := rfl
      rw [ep] at hp
      walk_at "rd"
      refine ⟨p, 0 :: inputsL src, rfl, SqL.of hp, by simp, fun m h1 h2 => ?_⟩
      rw [max_needs h1 h2]
      exact q _ (s1.trans (t1.trans s2))
end
end Bf
namespace Bf
open PySem L2 SX TL
abbrev s__law_text : Stmt := topS 79
theorem bi__law_text : ∀ (kV doc pm : Value) (an : Option Addr) (cdv ct : Value) (us : List Value), us.length = 1 → bindArgs (PySem.W.fnOf "_law_text" "_law_text" (defArgs s__law_text) (defBody s__law_text) (defScope s__law_text) .none kV doc pm an cdv ct) ⟨us, []⟩ = pure ((["_law_source_here"] : List Str).zip us) := fun _ _ _ _ _ _ us hl => match us, hl with | [_], _ => rfl
theorem sc__law_text : FnScope ["_law_source_here", "_law_words", "_law_node"] ["_law_source_here"] (defScope s__law_text) := C8.fnScope_by (by decide +kernel)
abbrev s__law_written : Stmt := topS 80
theorem bi__law_written : ∀ (kV doc pm : Value) (an : Option Addr) (cdv ct : Value) (us : List Value), us.length = 1 → bindArgs (PySem.W.fnOf "_law_written" "_law_written" (defArgs s__law_written) (defBody s__law_written) (defScope s__law_written) .none kV doc pm an cdv ct) ⟨us, []⟩ = pure ((["_law_numbers_here"] : List Str).zip us) := fun _ _ _ _ _ _ us hl => match us, hl with | [_], _ => rfl
theorem sc__law_written : FnScope ["_law_numbers_here", "_law_number"] ["_law_numbers_here"] (defScope s__law_written) := C8.fnScope_by (by decide +kernel)
abbrev s__law_modulus : Stmt := topS 82
theorem bi__law_modulus : ∀ (kV doc pm : Value) (an : Option Addr) (cdv ct : Value) (us : List Value), us.length = 1 → bindArgs (PySem.W.fnOf "_law_modulus" "_law_modulus" (defArgs s__law_modulus) (defBody s__law_modulus) (defScope s__law_modulus) .none kV doc pm an cdv ct) ⟨us, []⟩ = pure ((["_law_draws"] : List Str).zip us) := fun _ _ _ _ _ _ us hl => match us, hl with | [_], _ => rfl
theorem sc__law_modulus : FnScope ["_law_draws"] ["_law_draws"] (defScope s__law_modulus) := C8.fnScope_by (by decide +kernel)
def spLText : Sp := fun vs H Q _ => ∃ (src : List Nd) (e : Ex) (v : V), vs = [v] ∧ Rp H (srcD src) v ∧ SrcP src e ∧ ∀ H', Same H H' → Q (.str (S (srcL src))) H'
theorem tx_const {n : Int} : numL n.toNat = (Nd.const n).tx := rfl
theorem tx_input {i : Nat} : [36] ++ numL i = (Nd.input i).tx := rfl
theorem tx_sum {i j : Nat} : [35] ++ numL i ++ [32, 43, 32, 35] ++ numL j = (Nd.sum i j).tx := by simp [Nd.tx, Nd.ws, ixL, joinL]
theorem tx_product {i j : Nat} : [35] ++ numL i ++ [32, 42, 32, 35] ++ numL j = (Nd.product i j).tx := by simp [Nd.tx, Nd.ws, ixL, joinL]
theorem tx_scaled {n : Int} {j : Nat} : numL n.toNat ++ [32, 42, 32, 35] ++ numL j = (Nd.scaled n j).tx := by simp [Nd.tx, Nd.ws, ixL, joinL]
theorem tx_choose {i j l : Nat} : [35] ++ numL i ++ [32, 63, 32, 35] ++ numL j ++ [32, 58, 32, 35] ++ numL l = (Nd.choose i j l).tx := by simp [Nd.tx, Nd.ws, ixL, joinL]
section
variable {P : Program} {w : World} {K : PySem.W.Frag} {mg : Str → Option Value} {base : Heap}
theorem cal__law_text (T : Gs mg) (F : DefAt K mg "_law_text" s__law_text) : C8.Cal P w K mg base 1 "_law_text" spLText [] := by
  refine cal_of F sc__law_text bi__law_text (fun vs H Q E h => ?_) (fun f cdv A outer s H vs Q E hr h => ?_)
  · obtain ⟨src, e, v, rfl, _⟩ := h
    rfl
  · refine ⟨_, (pss_cons (ps_set (i := 1) sc__law_text.nd rfl (by first | exact Or.inl rfl | exact Or.inr rfl) (pe_lst pa_nil))
      (pss_cons (ps_for PassesOwn.never rfl (pi_tup (pv 0)) (pg_name (i := 2) sc__law_text.nd rfl (by first | exact Or.inl rfl | exact Or.inr rfl)) (pss_one (ps_if (pt_cmpR op_eq (pe_ix ix_seq (pv 2) pe_int (fun _ _ => rfl)) pe_str (nomark _)) (pss_one (ps_expr (pe_bm PySem.F.plainAttrs_list PySem.F.slot_list_append PySem.F.type_list_append mt_append (pv 1) (pa_cons (pe_callTy b_strI (by rfl) T.n_str (by decide +kernel) (pa_cons (pe_ix ix_seq (pv 2) pe_int (fun _ _ => rfl)) pa_nil)) pa_nil)))) (pss_one (ps_if (pt_cmpR op_eq (pe_ix ix_seq (pv 2) pe_int (fun _ _ => rfl)) pe_str (nomark _)) (pss_one (ps_expr (pe_bm PySem.F.plainAttrs_list PySem.F.slot_list_append PySem.F.type_list_append mt_append (pv 1) (pa_cons (pe_op op_addSt pe_str (pe_callTy b_strI (by rfl) T.n_str (by decide +kernel) (pa_cons (pe_ix ix_seq (pv 2) pe_int (fun _ _ => rfl)) pa_nil))) pa_nil)))) (pss_one (ps_if (pt_cmpR op_eq (pe_ix ix_seq (pv 2) pe_int (fun _ _ => rfl)) pe_str (nomark _)) (pss_one (ps_expr (pe_bm PySem.F.plainAttrs_list PySem.F.slot_list_append PySem.F.type_list_append mt_append (pv 1) (pa_cons (pe_op op_addSt (pe_op op_addSt (pe_op op_addSt pe_str (pe_callTy b_strI (by rfl) T.n_str (by decide +kernel) (pa_cons (pe_ix ix_seq (pv 2) pe_int (fun _ _ => rfl)) pa_nil))) pe_str) (pe_callTy b_strI (by rfl) T.n_str (by decide +kernel) (pa_cons (pe_ix ix_seq (pv 2) pe_int (fun _ _ => rfl)) pa_nil))) pa_nil)))) (pss_one (ps_if (pt_cmpR op_eq (pe_ix ix_seq (pv 2) pe_int (fun _ _ => rfl)) pe_str (nomark _)) (pss_one (ps_expr (pe_bm PySem.F.plainAttrs_list PySem.F.slot_list_append PySem.F.type_list_append mt_append (pv 1) (pa_cons (pe_op op_addSt (pe_op op_addSt (pe_op op_addSt pe_str (pe_callTy b_strI (by rfl) T.n_str (by decide +kernel) (pa_cons (pe_ix ix_seq (pv 2) pe_int (fun _ _ => rfl)) pa_nil))) pe_str) (pe_callTy b_strI (by rfl) T.n_str (by decide +kernel) (pa_cons (pe_ix ix_seq (pv 2) pe_int (fun _ _ => rfl)) pa_nil))) pa_nil)))) (pss_one (ps_if (pt_cmpR op_eq (pe_ix ix_seq (pv 2) pe_int (fun _ _ => rfl)) pe_str (nomark _)) (pss_one (ps_expr (pe_bm PySem.F.plainAttrs_list PySem.F.slot_list_append PySem.F.type_list_append mt_append (pv 1) (pa_cons (pe_op op_addSt (pe_op op_addSt (pe_callTy b_strI (by rfl) T.n_str (by decide +kernel) (pa_cons (pe_ix ix_seq (pv 2) pe_int (fun _ _ => rfl)) pa_nil)) pe_str) (pe_callTy b_strI (by rfl) T.n_str (by decide +kernel) (pa_cons (pe_ix ix_seq (pv 2) pe_int (fun _ _ => rfl)) pa_nil))) pa_nil)))) (pss_one (ps_expr (pe_bm PySem.F.plainAttrs_list PySem.F.slot_list_append PySem.F.type_list_append mt_append (pv 1) (pa_cons (pe_op op_addSt (pe_op op_addSt (pe_op op_addSt (pe_op op_addSt (pe_op op_addSt pe_str (pe_callTy b_strI (by rfl) T.n_str (by decide +kernel) (pa_cons (pe_ix ix_seq (pv 2) pe_int (fun _ _ => rfl)) pa_nil))) pe_str) (pe_callTy b_strI (by rfl) T.n_str (by decide +kernel) (pa_cons (pe_ix ix_seq (pv 2) pe_int (fun _ _ => rfl)) pa_nil))) pe_str) (pe_callTy b_strI (by rfl) T.n_str (by decide +kernel) (pa_cons (pe_ix ix_seq (pv 2) pe_int (fun _ _ => rfl)) pa_nil))) pa_nil)))))))))))))))
      (pss_one (ps_ret (pe_joinN pe_str (pv 1)))))), ?_⟩
    obtain ⟨src, e, v, rfl, hR, sp, q⟩ := h
    obtain ⟨a, ws, rfl, ha, hws⟩ := hR
    have hws0 := hws.len
    rw [List.length_map] at hws0
    have hsz : sizeLine = 2 ^ 24 := rfl
    have ok := sp.ok
    have sl2 := sp.l2
    walk_at "rd"
    refine n_lst (by decide) fun c H2 nc s2 hc => ?_
    walk_at "rd"
    refine n_forT (fun i σ H' => ∃ u3 : Option V, σ = [some (.ref a), some (.ref c), u3] ∧ Same H H' ∧ H' c = some (.lst ((((src.take i).map Nd.tx).map S).map V.str))) (s2 _ _ ha) ⟨_, rfl, s2, hc⟩ (fun i σ H' _ h => by obtain ⟨_, _, s3, _⟩ := h; exact s3 _ _ ha) ?_ ?_
    · rintro i0 x σ H3 hx ⟨u3, rfl, s3, hc3⟩
      obtain ⟨df, hdf, hfv⟩ := hws.at hx
      obtain ⟨nd, hnd, rfl⟩ := Option.map_eq_some_iff.mp (by rwa [List.getElem?_map] at hdf)
      replace hfv := hfv.same s3
      have hil : i0 < src.length := (List.getElem?_eq_some_iff.mp hnd).1
      have hok := ok i0 nd hnd
      have hlen : ((((src.take i0).map Nd.tx).map S).map V.str).length < sizeLine := by simp only [List.length_map, List.length_take]; omega
      cases nd with
      | const n =>
        obtain ⟨b, _, rfl, hb, w1, _, rfl, rfl, w2, _, rfl, rfl, rfl⟩ := hfv
        obtain ⟨n0, n1⟩ : 0 ≤ n ∧ n < 1000000000 := hok
        walk_at "rd"
        refine n_strZ n0 (by omega) ?_
        refine n_app hc3 hlen fun H5 k5 h5 => ?_
        walk_at "rd"
        exact ⟨_, rfl, same_kp nc s3 k5, by rw [h5, take_snoc hnd]; simp only [List.map_append, List.map_cons, List.map_nil, tx_const]⟩
      | input i =>
        obtain ⟨b, _, rfl, hb, w1, _, rfl, rfl, w2, _, rfl, rfl, rfl⟩ := hfv
        have hi : i < 60 := hok
        have l1 := num9 (n := i) (by omega)
        walk_at "rd"
        refine n_str (n := i) (by omega) ?_
        refine n_addS (z := [36]) (by simp only [List.length_append, List.length_cons, List.length_nil]; omega) ?_
        refine n_app hc3 hlen fun H5 k5 h5 => ?_
        walk_at "rd"
        exact ⟨_, rfl, same_kp nc s3 k5, by rw [h5, take_snoc hnd]; simp only [List.map_append, List.map_cons, List.map_nil, tx_input]⟩
      | sum i j =>
        obtain ⟨b, _, rfl, hb, w1, _, rfl, rfl, w2, _, rfl, rfl, w3, _, rfl, rfl, rfl⟩ := hfv
        obtain ⟨i1, j1⟩ : i < i0 ∧ j < i0 := hok
        have l1 := num9 (n := i) (by omega)
        have l2 := num9 (n := j) (by omega)
        walk_at "rd"
        refine n_str (n := i) (by omega) ?_
        refine n_addS (z := [35]) (by simp only [List.length_append, List.length_cons, List.length_nil]; omega) ?_
        walk_at "rd"
        refine n_addS (w := [32, 43, 32, 35]) (by simp only [List.length_append, List.length_cons, List.length_nil]; omega) ?_
        walk_at "rd"
        refine n_str (n := j) (by omega) ?_
        refine n_addS (by simp only [List.length_append, List.length_cons, List.length_nil]; omega) ?_
        refine n_app hc3 hlen fun H5 k5 h5 => ?_
        walk_at "rd"
        exact ⟨_, rfl, same_kp nc s3 k5, by rw [h5, take_snoc hnd]; simp only [List.map_append, List.map_cons, List.map_nil, tx_sum]⟩
      | product i j =>
        obtain ⟨b, _, rfl, hb, w1, _, rfl, rfl, w2, _, rfl, rfl, w3, _, rfl, rfl, rfl⟩ := hfv
        obtain ⟨i1, j1⟩ : i < i0 ∧ j < i0 := hok
        have l1 := num9 (n := i) (by omega)
        have l2 := num9 (n := j) (by omega)
        walk_at "rd"
        refine n_str (n := i) (by omega) ?_
        refine n_addS (z := [35]) (by simp only [List.length_append, List.length_cons, List.length_nil]; omega) ?_
        walk_at "rd"
        refine n_addS (w := [32, 42, 32, 35]) (by simp only [List.length_append, List.length_cons, List.length_nil]; omega) ?_
        walk_at "rd"
        refine n_str (n := j) (by omega) ?_
        refine n_addS (by simp only [List.length_append, List.length_cons, List.length_nil]; omega) ?_
        refine n_app hc3 hlen fun H5 k5 h5 => ?_
        walk_at "rd"
        exact ⟨_, rfl, same_kp nc s3 k5, by rw [h5, take_snoc hnd]; simp only [List.map_append, List.map_cons, List.map_nil, tx_product]⟩
      | scaled n j =>
        obtain ⟨b, _, rfl, hb, w1, _, rfl, rfl, w2, _, rfl, rfl, w3, _, rfl, rfl, rfl⟩ := hfv
        obtain ⟨⟨n0, n1⟩, j1⟩ : (0 ≤ n ∧ n < 1000000000) ∧ j < i0 := hok
        have l1 := num9 (n := n.toNat) (by omega)
        have l2 := num9 (n := j) (by omega)
        walk_at "rd"
        refine n_strZ n0 (by omega) ?_
        walk_at "rd"
        refine n_addS (w := [32, 42, 32, 35]) (by simp only [List.length_append, List.length_cons, List.length_nil]; omega) ?_
        walk_at "rd"
        refine n_str (n := j) (by omega) ?_
        refine n_addS (by simp only [List.length_append, List.length_cons, List.length_nil]; omega) ?_
        refine n_app hc3 hlen fun H5 k5 h5 => ?_
        walk_at "rd"
        exact ⟨_, rfl, same_kp nc s3 k5, by rw [h5, take_snoc hnd]; simp only [List.map_append, List.map_cons, List.map_nil, tx_scaled]⟩
      | choose i j l =>
        obtain ⟨b, _, rfl, hb, w1, _, rfl, rfl, w2, _, rfl, rfl, w3, _, rfl, rfl, w4, _, rfl, rfl, rfl⟩ := hfv
        obtain ⟨i1, j1, l1'⟩ : i < i0 ∧ j < i0 ∧ l < i0 := hok
        have l1 := num9 (n := i) (by omega)
        have l2 := num9 (n := j) (by omega)
        have l3 := num9 (n := l) (by omega)
        walk_at "rd"
        refine n_str (n := i) (by omega) ?_
        refine n_addS (z := [35]) (by simp only [List.length_append, List.length_cons, List.length_nil]; omega) ?_
        walk_at "rd"
        refine n_addS (w := [32, 63, 32, 35]) (by simp only [List.length_append, List.length_cons, List.length_nil]; omega) ?_
        walk_at "rd"
        refine n_str (n := j) (by omega) ?_
        refine n_addS (by simp only [List.length_append, List.length_cons, List.length_nil]; omega) ?_
        walk_at "rd"
        refine n_addS (w := [32, 58, 32, 35]) (by simp only [List.length_append, List.length_cons, List.length_nil]; omega) ?_
        walk_at "rd"
        refine n_str (n := l) (by omega) ?_
        refine n_addS (by simp only [List.length_append, List.length_cons, List.length_nil]; omega) ?_
        refine n_app hc3 hlen fun H5 k5 h5 => ?_
        walk_at "rd"
        exact ⟨_, rfl, same_kp nc s3 k5, by rw [h5, take_snoc hnd]; simp only [List.map_append, List.map_cons, List.map_nil, tx_choose]⟩
    · rintro σ H3 ⟨u3, rfl, s3, hc3⟩
      rw [hws0, List.take_length] at hc3
      have hs : (((src.map Nd.tx).map S).map (·.length)).sum ≤ ((src.map Nd.tx).map S).length * 55 := sum_len fun y hy => by
        obtain ⟨z, hz, rfl⟩ := List.mem_map.mp hy
        obtain ⟨x, hx, rfl⟩ := List.mem_map.mp hz
        obtain ⟨k, hk⟩ := List.getElem?_of_mem hx
        have hlt := (List.getElem?_eq_some_iff.mp hk).1
        rw [S_len]
        exact tx_len (ok k x hk) (by omega)
      rw [List.length_map, List.length_map] at hs
      walk_at "rd"
      refine n_joinS hc3 (by
        have e : (Str.ofString "; ").length = 2 := by decide +kernel
        rw [e, List.length_map, List.length_map]
        omega) ?_
      rw [src_join]
      exact q _ s3
theorem cal__law_written (T : Gs mg) (F : DefAt K mg "_law_written" s__law_written) : C8.Cal P w K mg base 1 "_law_written" spWritten [] := by
  refine cal_of F sc__law_written bi__law_written (fun vs H Q E h => ?_) (fun f cdv A outer s H vs Q E hr h => ?_)
  · obtain ⟨p, l, rfl, _⟩ := h
    rfl
  · refine ⟨_, (pss_cons (ps_if (pt_cmpR op_eq (pe_callB b_len (by rfl) T.n_len PySem.boot_len (pa_cons (pv 0) pa_nil)) pe_int (nomark _)) (pss_one (ps_ret pe_str)) pss_nil)
      (pss_one (ps_ret (pe_joinN pe_str (pe_lc (own := [("_law_number", 1)]) (g := gName 1) (tt := tYes) rfl sc__law_written.nd (pi_list (pv 0)) (blkOk_by (by first | decide +kernel | kernel_rfl)) (fun _ _ _ _ _ => pg_name (i := 1) sc__law_written.nd rfl (by first | exact Or.inl rfl | exact Or.inr rfl)) (fun _ _ _ _ _ => pts_nil) (fun _ _ _ _ _ => (pe_callTy b_strI (by rfl) T.n_str (by decide +kernel) (pa_cons (pv 1) pa_nil)))))))), ?_⟩
    obtain ⟨p, l, rfl, hp, lb, q⟩ := h
    have hll := lb.2
    have hsz : sizeLine = 2 ^ 24 := rfl
    by_cases hn : l = []
    · subst hn
      walk_at "rd"
      exact q H (Same.refl H)
    · have hpos : ¬ (((l.map V.int).length : Int) = 0) := by
        have := List.length_pos_iff.mpr hn
        rw [List.length_map]
        omega
      walk_at "rd"
      refine n_lcL hp fun D H0 nD s0 hD => ⟨fun i H' => Same H H' ∧ H' D = some (.lst ((((l.take i).map fun x => numL x.toNat).map S).map V.str)), ⟨s0, hD⟩, fun i H' h => h.1 _ _ hp, fun i y H' hy h => ?_, fun H' h => ?_⟩
      · obtain ⟨t1, t3⟩ := h
        obtain ⟨x, hx, rfl⟩ := map_at hy
        have hb := lb.1 x (List.mem_of_getElem? hx)
        have hlt := (List.getElem?_eq_some_iff.mp hx).1
        walk_at "rd"
        refine n_strZ hb.1 (by omega) ?_
        refine n_acc t3 (by simp only [List.length_map, List.length_take]; omega) fun H3 k3 h3 => ⟨same_kp nD t1 k3, ?_⟩
        rw [take_snoc hx]
        simp only [List.map_append]
        exact h3
      · obtain ⟨t1, t3⟩ := h
        rw [List.length_map, List.take_length] at t3
        have hs := writ_sum (Int.le_refl _) lb
        refine n_joinS t3 (by
          rw [List.length_map, List.length_map]
          have e : (Str.ofString ",").length = 1 := by decide +kernel
          rw [e]
          omega) ?_
        rw [writ_join hn]
        exact q H' t1
theorem cal__law_modulus (T : Gs mg) (c__law_draw : C8.Cal P w K mg base 2 "_law_draw" spDraw []) (F : DefAt K mg "_law_modulus" s__law_modulus) : C8.Cal P w K mg base 3 "_law_modulus" spModulus [] := by
  refine cal_of F sc__law_modulus bi__law_modulus (fun vs H Q E h => ?_) (fun f cdv A outer s H vs Q E hr h => ?_)
  · obtain ⟨D, rfl, _⟩ := h
    rfl
  · refine ⟨_, (pss_cons (ps_if (pt_cmpR op_eq (pe_op op_mod (C8.pe_c c__law_draw hr (by first | decide | omega) rfl (pa_cons (pv 0) pa_nil)) pe_int) pe_int (nomark _)) (pss_one (ps_ret (pe_op op_add pe_int (pe_op op_mod (pe_op op_add (C8.pe_c c__law_draw hr (by first | decide | omega) rfl (pa_cons (pv 0) pa_nil)) (pe_op op_mul pe_int (C8.pe_c c__law_draw hr (by first | decide | omega) rfl (pa_cons (pv 0) pa_nil)))) (pe_op op_sub (pe_op op_pow pe_int pe_int) pe_int))))) pss_nil)
      (pss_one (ps_ret (pe_ix ix_seq (pe_lst (pa_cons pe_int (pa_cons pe_int (pa_cons pe_int (pa_cons pe_int (pa_cons pe_int (pa_cons pe_int (pa_cons (pe_op op_pow pe_int pe_int) (pa_cons pe_int pa_nil))))))))) (pe_op op_mod (C8.pe_c c__law_draw hr (by first | decide | omega) rfl (pa_cons (pv 0) pa_nil)) pe_int) (fun _ _ => rfl))))), ?_⟩
    obtain ⟨D, rfl, dr, k⟩ := h
    walk_at "rd"
    refine ⟨D, rfl, dr, fun v1 H1 a1 b1 s1 => ?_⟩
    have dr1 := s1.dr
    walk_at "rd"
    refine i_d2 (fun hc => ?_) (fun hc => ?_)
    · walk_at "rd"
      refine ⟨D, rfl, dr1, fun v2 H2 a2 b2 s2 => ?_⟩
      walk_at "rd"
      refine ⟨D, rfl, s2.dr, fun v3 H3 a3 b3 s3 => ?_⟩
      walk_at "rd"
      have hb := mod_bd (v2 + 1000000 * v3) (b := 999999999) (by decide)
      exact k _ _ (show (2 : Int) ≤ 2 + (v2 + 1000000 * v3) % 999999999 by omega) (show 2 + (v2 + 1000000 * v3) % 999999999 ≤ (1000000000 : Int) by omega) (s1.trans (s2.trans s3))
    · walk_at "rd"
      refine n_lst (Nat.le_of_ble_eq_true rfl) fun q H2 nq s2 hq => ?_
      walk_at "rd"
      refine ⟨D, rfl, dr1.same s2, fun v3 H3 a3 b3 s3 => ?_⟩
      have p3 := mod_bd v3 (b := 8) (by decide)
      replace hq := Ds.new dr1 nq hq s3
      walk_at "rd"
      refine n_pick (ns := [2, 3, 4, 6, 10, 97, 1000000000, 999999937]) hq p3.1 p3.2 fun x hx => ?_
      refine k _ _ ?_ ?_ ((s1.same s2).trans s3)
      all_goals
        simp only [List.mem_cons, List.not_mem_nil, or_false] at hx
        omega
end
end Bf
/-! drawn sources, plain -/
namespace Bf
open PySem L2
theorem get_app {α : Type} {l r : List α} {k : Nat} {x : α} (h : l[k]? = some x) : (l ++ r)[k]? = some x := by
  rw [List.getElem?_append_left (List.getElem?_eq_some_iff.mp h).1]
  exact h
theorem un_app {src r : List Nd} {k : Nat} {e : Ex} (h : Un src k e) : Un (src ++ r) k e := by
  induction h with
  | const h => exact .const (get_app h)
  | input h => exact .input (get_app h)
  | sum h _ _ a b => exact .sum (get_app h) a b
  | prod h _ _ a b => exact .prod (get_app h) a b
  | scal h _ a => exact .scal (get_app h) a
  | cho h _ _ _ a b d => exact .cho (get_app h) a b d
theorem ok_snoc {src : List Nd} {x : Nd} (h : SrcOk src) (hx : x.ok src.length) : SrcOk (src ++ [x]) := fun k nd e => by
  by_cases hk : k < src.length
  · rw [List.getElem?_append_left hk] at e
    exact h k nd e
  · have hk2 : k = src.length := by
      have := (List.getElem?_eq_some_iff.mp e).1
      rw [List.length_append, List.length_singleton] at this
      omega
    subst hk2
    rw [List.getElem?_append_right (Nat.le_refl _), Nat.sub_self] at e
    cases e
    exact hx
theorem get_last {src : List Nd} {x : Nd} : (src ++ [x])[src.length]? = some x := by
  rw [List.getElem?_append_right (Nat.le_refl _), Nat.sub_self]
  rfl
/-- a source every node of which costs at most b -/
structure Src (b : Nat) (src : List Nd) : Prop where
  ok : SrcOk src
  un : ∀ k, k < src.length → ∃ e, Un src k e ∧ e.cost ≤ b
theorem Src.nil {b : Nat} : Src b [] := ⟨fun k nd h => by simp at h, fun k h => absurd h (Nat.not_lt_zero _)⟩
theorem Src.snoc {b : Nat} {src : List Nd} {x : Nd} {e : Ex} (h : Src b src) (hx : x.ok src.length) (u : Un (src ++ [x]) src.length e) (hb : e.cost ≤ b) : Src b (src ++ [x]) := by
  refine ⟨ok_snoc h.ok hx, fun k hk => ?_⟩
  rw [List.length_append, List.length_singleton] at hk
  by_cases hk2 : k < src.length
  · obtain ⟨y, u1, h1⟩ := h.un k hk2
    exact ⟨y, un_app u1, h1⟩
  · have e2 : k = src.length := by omega
    subst e2
    exact ⟨e, u, hb⟩
theorem Src.mono {b c : Nat} {src : List Nd} (h : Src b src) (hb : b ≤ c) : Src c src := ⟨h.ok, fun k hk => by
  obtain ⟨e, u, he⟩ := h.un k hk
  exact ⟨e, u, Nat.le_trans he hb⟩⟩
/-- the costs, kept beside -/
structure Cst (src : List Nd) (cs : List Int) : Prop where
  len : cs.length = src.length
  at_ : ∀ k e, Un src k e → cs[k]? = some (e.cost : Int)
theorem Cst.nil : Cst [] [] := ⟨rfl, fun k e h => absurd (un_lt h) (Nat.not_lt_zero _)⟩
theorem un_back {src : List Nd} {x : Nd} (ok : SrcOk src) {k : Nat} {e : Ex} (h : Un (src ++ [x]) k e) (hk : k < src.length) : Un src k e := by
  obtain ⟨y, hy⟩ := un_all ok k hk
  have := un_one h (un_app hy)
  rw [this]
  exact hy
theorem Cst.snoc {src : List Nd} {cs : List Int} {x : Nd} {e : Ex} {c : Int} (ok : SrcOk src) (h : Cst src cs) (u : Un (src ++ [x]) src.length e) (hc : c = e.cost) : Cst (src ++ [x]) (cs ++ [c]) := by
  refine ⟨by rw [List.length_append, List.length_append, h.len]; rfl, fun k y hy => ?_⟩
  by_cases hk : k < src.length
  · rw [List.getElem?_append_left (by rw [h.len]; exact hk)]
    exact h.at_ k y (un_back ok hy hk)
  · have e2 : k = src.length := by
      have := un_lt hy
      rw [List.length_append, List.length_singleton] at this
      omega
    subst e2
    rw [List.getElem?_append_right (by rw [h.len]; exact Nat.le_refl _), h.len, Nat.sub_self, un_one hy u, hc]
    rfl
theorem Src.prp {b : Nat} {src : List Nd} (h : Src b src) (l1 : 1 ≤ src.length) (l2 : src.length ≤ 200) (hb : b ≤ 20000) : ∃ e, SrcP src e := by
  obtain ⟨e, u, he⟩ := h.un (src.length - 1) (by omega)
  exact ⟨e, h.ok, l1, l2, u, by omega⟩
theorem LD.ds {D : DD} {H H' : Hp} {a : Addr} {ds : List Dt} (h : LD H a ds) (f : Dt.flats ds = true) (dr : Drw D H) (ne : a ≠ D.d) (s : Ds D H H') : LD H' a ds := by
  obtain ⟨ws, h1, h2⟩ := h
  exact ⟨ws, s.kp _ _ ne h1, h2.tk (Ds.tk dr s) f⟩
theorem idx_nat {v : Int} {k : Nat} : ∃ i : Nat, v % max 1 (k : Int) = i ∧ i < max 1 k := by
  have h := Int.emod_nonneg v (b := max 1 (k : Int)) (by omega)
  have h2 := Int.emod_lt_of_pos v (b := max 1 (k : Int)) (by omega)
  exact ⟨(v % max 1 (k : Int)).toNat, by omega, by omega⟩
theorem mod_nat {v b : Int} (hb : 0 < b) : ∃ i : Nat, v % b = i ∧ (i : Int) < b := by
  have h := Int.emod_nonneg v (b := b) (by omega)
  have h2 := Int.emod_lt_of_pos v hb
  exact ⟨(v % b).toNat, by omega, by omega⟩
end Bf
namespace Bf
open PySem L2
abbrev s__law_source : Stmt := topS 76
theorem bi__law_source : ∀ (kV doc pm : Value) (an : Option Addr) (cdv ct : Value) (us : List Value), us.length = 3 → bindArgs (PySem.W.fnOf "_law_source" "_law_source" (defArgs s__law_source) (defBody s__law_source) (defScope s__law_source) .none kV doc pm an cdv ct) ⟨us, []⟩ = pure ((["_law_draws", "_law_many", "_law_inputs"] : List Str).zip us) := fun _ _ _ _ _ _ us hl => match us, hl with | [_, _, _], _ => rfl
theorem sc__law_source : FnScope ["_law_draws", "_law_many", "_law_inputs", "_law_nodes", "_law_costs", "_law_k", "_law_pick", "_law_i", "_law_j", "_law_l", "_law_node", "_law_cost"] ["_law_draws", "_law_many", "_law_inputs"] (defScope s__law_source) := C8.fnScope_by (by decide +kernel)
def spSource : Sp := fun vs H Q _ => ∃ (D : DD) (many inp : Int), vs = [.ref D.d, .int many, .int inp] ∧ Drw D H ∧ 1 ≤ many ∧ many ≤ 10 ∧ 1 ≤ inp ∧ inp ≤ 4 ∧ ∀ v nds H', (nds.length : Int) = many → Src 300 nds → Rp H' (srcD nds) v → Ds D H H' → Q v H'
section
variable {P : Program} {w : World} {K : PySem.W.Frag} {mg : Str → Option Value} {base : Heap}
theorem cal__law_source (T : Gs mg) (c__law_draw : C8.Cal P w K mg base 2 "_law_draw" spDraw []) (F : DefAt K mg "_law_source" s__law_source) : C8.Cal P w K mg base 3 "_law_source" spSource [] := by
  refine cal_of F sc__law_source bi__law_source (fun vs H Q E h => ?_) (fun f cdv A outer s H vs Q E hr h => ?_)
  · obtain ⟨D, many, inp, rfl, _⟩ := h
    rfl
  · refine ⟨_, (pss_cons (ps_set (i := 3) sc__law_source.nd rfl (by first | exact Or.inl rfl | exact Or.inr rfl) (pe_lst pa_nil))
      (pss_cons (ps_set (i := 4) sc__law_source.nd rfl (by first | exact Or.inl rfl | exact Or.inr rfl) (pe_lst pa_nil))
      (pss_cons (ps_for PassesOwn.never rfl (pi_range1 rfl T.n_range (pa_cons (pv 1) pa_nil)) (pg_name (i := 5) sc__law_source.nd rfl (by first | exact Or.inl rfl | exact Or.inr rfl)) (pss_cons (ps_set (i := 6) sc__law_source.nd rfl (by first | exact Or.inl rfl | exact Or.inr rfl) (pe_op op_mod (C8.pe_c c__law_draw hr (by first | decide | omega) rfl (pa_cons (pv 0) pa_nil)) pe_int))
      (pss_cons (ps_set (i := 7) sc__law_source.nd rfl (by first | exact Or.inl rfl | exact Or.inr rfl) (pe_op op_mod (C8.pe_c c__law_draw hr (by first | decide | omega) rfl (pa_cons (pv 0) pa_nil)) (pe_callB (b_max2 rfl) (by rfl) T.n_max (by decide +kernel) (pa_cons pe_int (pa_cons (pv 5) pa_nil)))))
      (pss_cons (ps_set (i := 8) sc__law_source.nd rfl (by first | exact Or.inl rfl | exact Or.inr rfl) (pe_op op_mod (C8.pe_c c__law_draw hr (by first | decide | omega) rfl (pa_cons (pv 0) pa_nil)) (pe_callB (b_max2 rfl) (by rfl) T.n_max (by decide +kernel) (pa_cons pe_int (pa_cons (pv 5) pa_nil)))))
      (pss_cons (ps_set (i := 9) sc__law_source.nd rfl (by first | exact Or.inl rfl | exact Or.inr rfl) (pe_op op_mod (C8.pe_c c__law_draw hr (by first | decide | omega) rfl (pa_cons (pv 0) pa_nil)) (pe_callB (b_max2 rfl) (by rfl) T.n_max (by decide +kernel) (pa_cons pe_int (pa_cons (pv 5) pa_nil)))))
      (pss_cons (ps_set (i := 10) sc__law_source.nd rfl (by first | exact Or.inl rfl | exact Or.inr rfl) (pe_tup (pa_cons pe_str (pa_cons (pe_op op_mod (C8.pe_c c__law_draw hr (by first | decide | omega) rfl (pa_cons (pv 0) pa_nil)) (pv 2)) pa_nil))))
      (pss_cons (ps_set (i := 11) sc__law_source.nd rfl (by first | exact Or.inl rfl | exact Or.inr rfl) pe_int)
      (pss_cons (ps_if (PW.pt (pw_and (pt_cmpR op_gt (pv 5) pe_int (nomark _)) (pw_and1 (pt_cmpR op_lt (pv 6) pe_int (nomark _))))) (pss_cons (ps_set (i := 10) sc__law_source.nd rfl (by first | exact Or.inl rfl | exact Or.inr rfl) (pe_tup (pa_cons pe_str (pa_cons (pv 7) (pa_cons (pv 8) pa_nil)))))
      (pss_one (ps_set (i := 11) sc__law_source.nd rfl (by first | exact Or.inl rfl | exact Or.inr rfl) (pe_op op_add (pe_ix ix_seq (pv 4) (pv 7) (fun _ _ => rfl)) (pe_ix ix_seq (pv 4) (pv 8) (fun _ _ => rfl)))))) (pss_one (ps_if (PW.pt (pw_and (pt_cmpR op_gt (pv 5) pe_int (nomark _)) (pw_and1 (pt_cmpR op_lt (pv 6) pe_int (nomark _))))) (pss_cons (ps_set (i := 10) sc__law_source.nd rfl (by first | exact Or.inl rfl | exact Or.inr rfl) (pe_tup (pa_cons pe_str (pa_cons (pv 7) (pa_cons (pv 8) pa_nil)))))
      (pss_one (ps_set (i := 11) sc__law_source.nd rfl (by first | exact Or.inl rfl | exact Or.inr rfl) (pe_op op_mul pe_int (pe_op op_add (pe_ix ix_seq (pv 4) (pv 7) (fun _ _ => rfl)) (pe_ix ix_seq (pv 4) (pv 8) (fun _ _ => rfl))))))) (pss_one (ps_if (PW.pt (pw_and (pt_cmpR op_gt (pv 5) pe_int (nomark _)) (pw_and1 (pt_cmpR op_eq (pv 6) pe_int (nomark _))))) (pss_cons (ps_set (i := 10) sc__law_source.nd rfl (by first | exact Or.inl rfl | exact Or.inr rfl) (pe_tup (pa_cons pe_str (pa_cons (pv 7) (pa_cons (pv 8) (pa_cons (pv 9) pa_nil))))))
      (pss_one (ps_set (i := 11) sc__law_source.nd rfl (by first | exact Or.inl rfl | exact Or.inr rfl) (pe_op op_add (pe_ix ix_seq (pv 4) (pv 9) (fun _ _ => rfl)) (pe_op op_mul pe_int (pe_op op_add (pe_op op_add (pe_ix ix_seq (pv 4) (pv 7) (fun _ _ => rfl)) (pe_ix ix_seq (pv 4) (pv 8) (fun _ _ => rfl))) (pe_ix ix_seq (pv 4) (pv 9) (fun _ _ => rfl)))))))) (pss_one (ps_if (PW.pt (pw_and (pt_cmpR op_gt (pv 5) pe_int (nomark _)) (pw_and1 (pt_cmpR op_eq (pv 6) pe_int (nomark _))))) (pss_cons (ps_set (i := 10) sc__law_source.nd rfl (by first | exact Or.inl rfl | exact Or.inr rfl) (pe_tup (pa_cons pe_str (pa_cons (C8.pe_c c__law_draw hr (by first | decide | omega) rfl (pa_cons (pv 0) pa_nil)) (pa_cons (pv 7) pa_nil)))))
      (pss_one (ps_set (i := 11) sc__law_source.nd rfl (by first | exact Or.inl rfl | exact Or.inr rfl) (pe_ix ix_seq (pv 4) (pv 7) (fun _ _ => rfl))))) (pss_one (ps_if (pt_cmpR op_eq (pv 6) pe_int (nomark _)) (pss_one (ps_set (i := 10) sc__law_source.nd rfl (by first | exact Or.inl rfl | exact Or.inr rfl) (pe_tup (pa_cons pe_str (pa_cons (C8.pe_c c__law_draw hr (by first | decide | omega) rfl (pa_cons (pv 0) pa_nil)) pa_nil))))) pss_nil)))))))))
      (pss_cons (ps_if (pt_cmpR op_gt (pv 11) pe_int (nomark _)) (pss_cons (ps_set (i := 10) sc__law_source.nd rfl (by first | exact Or.inl rfl | exact Or.inr rfl) (pe_tup (pa_cons pe_str (pa_cons (C8.pe_c c__law_draw hr (by first | decide | omega) rfl (pa_cons (pv 0) pa_nil)) pa_nil))))
      (pss_one (ps_set (i := 11) sc__law_source.nd rfl (by first | exact Or.inl rfl | exact Or.inr rfl) pe_int))) pss_nil)
      (pss_cons (ps_expr (pe_bm PySem.F.plainAttrs_list PySem.F.slot_list_append PySem.F.type_list_append mt_append (pv 3) (pa_cons (pv 10) pa_nil)))
      (pss_one (ps_expr (pe_bm PySem.F.plainAttrs_list PySem.F.slot_list_append PySem.F.type_list_append mt_append (pv 4) (pa_cons (pv 11) pa_nil))))))))))))))
      (pss_one (ps_ret (pe_callTy b_tuple (by rfl) T.n_tuple (by decide +kernel) (pa_cons (pv 3) pa_nil))))))), ?_⟩
    obtain ⟨D, many, inp, rfl, dr, m1, m10, i1, i4, q⟩ := h
    have hsz : sizeLine = 2 ^ 24 := rfl
    walk_at "rd"
    refine n_lst (by decide) fun nq H1 nq0 s1 hnq1 => ?_
    walk_at "rd"
    refine n_lst (by decide) fun cq H2 ncq1 s2 hcq2 => ?_
    have ncq : nq ≠ cq := ne_of_none hnq1 ncq1
    have cq0 := none_of_same s1 ncq1
    have nqd : nq ≠ D.d := dr.ne nq0
    have cqd : cq ≠ D.d := dr.ne cq0
    have s12 := s1.trans s2
    walk_at "rd"
    refine n_forR (fun i σ H' => ∃ (u5 u6 u7 u8 u9 u10 u11 : Option V) (nds : List Nd) (cs : List Int), σ = [some (.ref D.d), some (.int many), some (.int inp), some (.ref nq), some (.ref cq), u5, u6, u7, u8, u9, u10, u11] ∧ Ds D H H' ∧ nds.length = i ∧ Src 300 nds ∧ Cst nds cs ∧ LD H' nq (nds.map Nd.d) ∧ H' cq = some (.lst (cs.map V.int))) (by omega)
      ⟨_, _, _, _, _, _, _, [], [], rfl, Ds.of dr s12, rfl, Src.nil, Cst.nil, LD.nil (s2 _ _ hnq1), hcq2⟩ ?_ ?_
    · rintro i σ H3 hi ⟨u5, u6, u7, u8, u9, u10, u11, nds, cs, rfl, s3, hlen, hS, hC, ln3, hc3⟩
      have dr3 := s3.dr
      have hi10 : i < 10 := by omega
      have at_ : ∀ (j : Nat) (x : Ex), Un nds j x → (cs.map V.int)[j]? = some (.int (x.cost : Int)) := fun j x h => by rw [List.getElem?_map, hC.at_ j x h]; rfl
      walk_at "rd"
      refine ⟨D, rfl, dr3, fun v1 H4 a1 b1 s4 => ?_⟩
      have p1 := mod_bd v1 (b := 8) (by decide)
      walk_at "rd"
      refine ⟨D, rfl, s4.dr, fun v2 H5 a2 b2 s5 => ?_⟩
      replace s5 := s4.trans s5
      walk_at "rd"
      refine ⟨D, rfl, s5.dr, fun v3 H6 a3 b3 s6 => ?_⟩
      replace s6 := s5.trans s6
      walk_at "rd"
      refine ⟨D, rfl, s6.dr, fun v4 H7 a4 b4 s7 => ?_⟩
      replace s7 := s6.trans s7
      walk_at "rd"
      refine ⟨D, rfl, s7.dr, fun v5 H8 a5 b5 s8 => ?_⟩
      replace s8 := s7.trans s8
      obtain ⟨p', ep, hp'⟩ := mod_nat (v := v5) (b := inp) (by omega)
      obtain ⟨i', ei, hi'⟩ := idx_nat (v := v2) (k := i)
      obtain ⟨j', ej, hj'⟩ := idx_nat (v := v3) (k := i)
      obtain ⟨l', el, hl'⟩ := idx_nat (v := v4) (k := i)
      walk_at "rd"
      refine n_tup (Nat.le_of_ble_eq_true rfl) fun r9 H9 n9 t9 hr9 => ?_
      have s9 := s8.same t9
      rw [ep] at hr9
      rw [ei, ej, el]
      by_cases hk : i = 0
      · by_cases h6 : v1 % 8 = 6
        · skip
          walk_at "rd"
          refine ⟨D, rfl, s9.dr, fun v6 H10 a6 b6 s10 => ?_⟩
          walk_at "rd"
          refine n_tup (Nat.le_of_ble_eq_true rfl) fun rA H10' nA tA hA => ?_
          have sA := (s9.trans s10).same tA
          walk_at "rd"
          have hrA : Rp H10' (Nd.const v6).d (.ref rA) := node1 hA
          have okA : (Nd.const v6).ok nds.length := ⟨a6, by omega⟩
          have hxA : ∃ e, Un (nds ++ [.const v6]) nds.length e ∧ (e.cost : Int) = 1 ∧ e.cost ≤ 300 := ⟨.const v6, .const get_last, rfl, Nat.le_of_ble_eq_true rfl⟩
          obtain ⟨xe, ux, cx, bx⟩ := hxA
          obtain ⟨wn, hnq, hwn⟩ := ln3.ds (flats_map Nd.flat _) dr3 nqd sA
          have hcqA := sA.kp _ _ cqd hc3
          have hwl := hwn.len
          rw [List.length_map] at hwl
          walk_at "rd"
          refine n_app hnq (by omega) fun HB kB hB => ?_
          have hcqB := kB _ _ ncq.symm hcqA
          walk_at "rd"
          refine n_app hcqB (by rw [List.length_map, hC.len]; omega) fun HC kC hCC => ?_
          walk_at "rd"
          refine ⟨_, _, _, _, _, _, _, nds ++ [(.const v6)], cs ++ [1], rfl, Ds.kpn dr cq0 (Ds.kpn dr nq0 (s3.trans sA) kB) kC, by rw [List.length_append, hlen]; rfl, hS.snoc okA ux bx, hC.snoc hS.ok ux cx.symm, ?_, by rw [hCC, List.map_append]; rfl⟩
          rw [List.map_append]
          exact (LD.push hnq hwn hrA (flats_map Nd.flat _) (Nd.flat _) kB hB).kp (flats_app (flats_map Nd.flat _) (Nd.flat _)) hcqB kC ncq
        · skip
          walk_at "rd"
          have sA := s9
          have hrA : Rp H9 (Nd.input p').d (.ref r9) := node1 hr9
          have okA : (Nd.input p').ok nds.length := by show p' < 60; omega
          have hxA : ∃ e, Un (nds ++ [.input p']) nds.length e ∧ (e.cost : Int) = 1 ∧ e.cost ≤ 300 := ⟨.input p', .input get_last, rfl, Nat.le_of_ble_eq_true rfl⟩
          obtain ⟨xe, ux, cx, bx⟩ := hxA
          obtain ⟨wn, hnq, hwn⟩ := ln3.ds (flats_map Nd.flat _) dr3 nqd sA
          have hcqA := sA.kp _ _ cqd hc3
          have hwl := hwn.len
          rw [List.length_map] at hwl
          walk_at "rd"
          refine n_app hnq (by omega) fun HB kB hB => ?_
          have hcqB := kB _ _ ncq.symm hcqA
          walk_at "rd"
          refine n_app hcqB (by rw [List.length_map, hC.len]; omega) fun HC kC hCC => ?_
          walk_at "rd"
          refine ⟨_, _, _, _, _, _, _, nds ++ [(.input p')], cs ++ [1], rfl, Ds.kpn dr cq0 (Ds.kpn dr nq0 (s3.trans sA) kB) kC, by rw [List.length_append, hlen]; rfl, hS.snoc okA ux bx, hC.snoc hS.ok ux cx.symm, ?_, by rw [hCC, List.map_append]; rfl⟩
          rw [List.map_append]
          exact (LD.push hnq hwn hrA (flats_map Nd.flat _) (Nd.flat _) kB hB).kp (flats_app (flats_map Nd.flat _) (Nd.flat _)) hcqB kC ncq
      · have hk0 : (0 : Int) < (i : Int) := by omega
        have hi2 : i' < nds.length := by omega
        have hj2 : j' < nds.length := by omega
        have hl2 : l' < nds.length := by omega
        obtain ⟨xi, ui, bi⟩ := hS.un i' hi2
        obtain ⟨xj, uj, bj⟩ := hS.un j' hj2
        obtain ⟨xl, ul, bl⟩ := hS.un l' hl2
        have cases6 : v1 % 8 < 2 ∨ (2 ≤ v1 % 8 ∧ v1 % 8 < 4) ∨ v1 % 8 = 4 ∨ v1 % 8 = 5 ∨ v1 % 8 = 6 ∨ v1 % 8 = 7 := by omega
        rcases cases6 with h | ⟨h, h'⟩ | h | h | h | h
        · skip
          walk_at "rd"
          refine n_tup (Nat.le_of_ble_eq_true rfl) fun rA H10 nA tA hA => ?_
          have sA := s9.same tA
          have hcq := sA.kp _ _ cqd hc3
          walk_at "rd"
          refine r_ixL hcq (atI_nat (at_ i' xi ui)) ?_
          walk_at "rd"
          refine r_ixL hcq (atI_nat (at_ j' xj uj)) ?_
          walk_at "rd"
          have hrA : Rp H10 (Nd.sum i' j').d (.ref rA) := node2 hA
          have okA : (Nd.sum i' j').ok nds.length := ⟨hi2, hj2⟩
          have hxB : ∃ e, Un (nds ++ [.sum i' j']) nds.length e ∧ (e.cost : Int) = (xi.cost : Int) + xj.cost := ⟨.sum xi xj, .sum get_last (un_app ui) (un_app uj), by show ((xi.cost + xj.cost : Nat) : Int) = _; omega⟩
          refine i_d2 (fun hgt => ?_) (fun hgt => ?_)
          · walk_at "rd"
            refine ⟨D, rfl, sA.dr, fun vC H11 a11 b11 s11 => ?_⟩
            walk_at "rd"
            refine n_tup (Nat.le_of_ble_eq_true rfl) fun r11 H12 n12 t12 h12 => ?_
            replace sA := (sA.trans s11).same t12
            have hrA : Rp H12 (Nd.const vC).d (.ref r11) := node1 h12
            have hxA : ∃ e, Un (nds ++ [.const vC]) nds.length e ∧ (e.cost : Int) = 1 ∧ e.cost ≤ 300 := ⟨.const vC, .const get_last, rfl, Nat.le_of_ble_eq_true rfl⟩
            have okA : (Nd.const vC).ok nds.length := ⟨a11, by omega⟩
            obtain ⟨xe, ux, cx, bx⟩ := hxA
            obtain ⟨wn, hnq, hwn⟩ := ln3.ds (flats_map Nd.flat _) dr3 nqd sA
            have hcqA := sA.kp _ _ cqd hc3
            have hwl := hwn.len
            rw [List.length_map] at hwl
            walk_at "rd"
            refine n_app hnq (by omega) fun HB kB hB => ?_
            have hcqB := kB _ _ ncq.symm hcqA
            walk_at "rd"
            refine n_app hcqB (by rw [List.length_map, hC.len]; omega) fun HC kC hCC => ?_
            walk_at "rd"
            refine ⟨_, _, _, _, _, _, _, nds ++ [(.const vC)], cs ++ [1], rfl, Ds.kpn dr cq0 (Ds.kpn dr nq0 (s3.trans sA) kB) kC, by rw [List.length_append, hlen]; rfl, hS.snoc okA ux bx, hC.snoc hS.ok ux cx.symm, ?_, by rw [hCC, List.map_append]; rfl⟩
            rw [List.map_append]
            exact (LD.push hnq hwn hrA (flats_map Nd.flat _) (Nd.flat _) kB hB).kp (flats_app (flats_map Nd.flat _) (Nd.flat _)) hcqB kC ncq
          · obtain ⟨eB, uB, cB⟩ := hxB
            have hxA : ∃ e, Un (nds ++ [(.sum i' j')]) nds.length e ∧ (e.cost : Int) = ((xi.cost : Int) + xj.cost) ∧ e.cost ≤ 300 := ⟨eB, uB, cB, by omega⟩
            obtain ⟨xe, ux, cx, bx⟩ := hxA
            obtain ⟨wn, hnq, hwn⟩ := ln3.ds (flats_map Nd.flat _) dr3 nqd sA
            have hcqA := sA.kp _ _ cqd hc3
            have hwl := hwn.len
            rw [List.length_map] at hwl
            walk_at "rd"
            refine n_app hnq (by omega) fun HB kB hB => ?_
            have hcqB := kB _ _ ncq.symm hcqA
            walk_at "rd"
            refine n_app hcqB (by rw [List.length_map, hC.len]; omega) fun HC kC hCC => ?_
            walk_at "rd"
            refine ⟨_, _, _, _, _, _, _, nds ++ [(.sum i' j')], cs ++ [((xi.cost : Int) + xj.cost)], rfl, Ds.kpn dr cq0 (Ds.kpn dr nq0 (s3.trans sA) kB) kC, by rw [List.length_append, hlen]; rfl, hS.snoc okA ux bx, hC.snoc hS.ok ux cx.symm, ?_, by rw [hCC, List.map_append]; rfl⟩
            rw [List.map_append]
            exact (LD.push hnq hwn hrA (flats_map Nd.flat _) (Nd.flat _) kB hB).kp (flats_app (flats_map Nd.flat _) (Nd.flat _)) hcqB kC ncq
        · skip
          walk_at "rd"
          refine n_tup (Nat.le_of_ble_eq_true rfl) fun rA H10 nA tA hA => ?_
          have sA := s9.same tA
          have hcq := sA.kp _ _ cqd hc3
          walk_at "rd"
          refine r_ixL hcq (atI_nat (at_ i' xi ui)) ?_
          walk_at "rd"
          refine r_ixL hcq (atI_nat (at_ j' xj uj)) ?_
          walk_at "rd"
          have hrA : Rp H10 (Nd.product i' j').d (.ref rA) := node2 hA
          have okA : (Nd.product i' j').ok nds.length := ⟨hi2, hj2⟩
          have hxB : ∃ e, Un (nds ++ [.product i' j']) nds.length e ∧ (e.cost : Int) = 2 * ((xi.cost : Int) + xj.cost) := ⟨.prod xi xj, .prod get_last (un_app ui) (un_app uj), by show ((2 * (xi.cost + xj.cost) : Nat) : Int) = _; omega⟩
          refine i_d2 (fun hgt => ?_) (fun hgt => ?_)
          · walk_at "rd"
            refine ⟨D, rfl, sA.dr, fun vC H11 a11 b11 s11 => ?_⟩
            walk_at "rd"
            refine n_tup (Nat.le_of_ble_eq_true rfl) fun r11 H12 n12 t12 h12 => ?_
            replace sA := (sA.trans s11).same t12
            have hrA : Rp H12 (Nd.const vC).d (.ref r11) := node1 h12
            have hxA : ∃ e, Un (nds ++ [.const vC]) nds.length e ∧ (e.cost : Int) = 1 ∧ e.cost ≤ 300 := ⟨.const vC, .const get_last, rfl, Nat.le_of_ble_eq_true rfl⟩
            have okA : (Nd.const vC).ok nds.length := ⟨a11, by omega⟩
            obtain ⟨xe, ux, cx, bx⟩ := hxA
            obtain ⟨wn, hnq, hwn⟩ := ln3.ds (flats_map Nd.flat _) dr3 nqd sA
            have hcqA := sA.kp _ _ cqd hc3
            have hwl := hwn.len
            rw [List.length_map] at hwl
            walk_at "rd"
            refine n_app hnq (by omega) fun HB kB hB => ?_
            have hcqB := kB _ _ ncq.symm hcqA
            walk_at "rd"
            refine n_app hcqB (by rw [List.length_map, hC.len]; omega) fun HC kC hCC => ?_
            walk_at "rd"
            refine ⟨_, _, _, _, _, _, _, nds ++ [(.const vC)], cs ++ [1], rfl, Ds.kpn dr cq0 (Ds.kpn dr nq0 (s3.trans sA) kB) kC, by rw [List.length_append, hlen]; rfl, hS.snoc okA ux bx, hC.snoc hS.ok ux cx.symm, ?_, by rw [hCC, List.map_append]; rfl⟩
            rw [List.map_append]
            exact (LD.push hnq hwn hrA (flats_map Nd.flat _) (Nd.flat _) kB hB).kp (flats_app (flats_map Nd.flat _) (Nd.flat _)) hcqB kC ncq
          · obtain ⟨eB, uB, cB⟩ := hxB
            have hxA : ∃ e, Un (nds ++ [(.product i' j')]) nds.length e ∧ (e.cost : Int) = (2 * ((xi.cost : Int) + xj.cost)) ∧ e.cost ≤ 300 := ⟨eB, uB, cB, by omega⟩
            obtain ⟨xe, ux, cx, bx⟩ := hxA
            obtain ⟨wn, hnq, hwn⟩ := ln3.ds (flats_map Nd.flat _) dr3 nqd sA
            have hcqA := sA.kp _ _ cqd hc3
            have hwl := hwn.len
            rw [List.length_map] at hwl
            walk_at "rd"
            refine n_app hnq (by omega) fun HB kB hB => ?_
            have hcqB := kB _ _ ncq.symm hcqA
            walk_at "rd"
            refine n_app hcqB (by rw [List.length_map, hC.len]; omega) fun HC kC hCC => ?_
            walk_at "rd"
            refine ⟨_, _, _, _, _, _, _, nds ++ [(.product i' j')], cs ++ [(2 * ((xi.cost : Int) + xj.cost))], rfl, Ds.kpn dr cq0 (Ds.kpn dr nq0 (s3.trans sA) kB) kC, by rw [List.length_append, hlen]; rfl, hS.snoc okA ux bx, hC.snoc hS.ok ux cx.symm, ?_, by rw [hCC, List.map_append]; rfl⟩
            rw [List.map_append]
            exact (LD.push hnq hwn hrA (flats_map Nd.flat _) (Nd.flat _) kB hB).kp (flats_app (flats_map Nd.flat _) (Nd.flat _)) hcqB kC ncq
        · skip
          walk_at "rd"
          refine n_tup (Nat.le_of_ble_eq_true rfl) fun rA H10 nA tA hA => ?_
          have sA := s9.same tA
          have hcq := sA.kp _ _ cqd hc3
          walk_at "rd"
          refine r_ixL hcq (atI_nat (at_ l' xl ul)) ?_
          walk_at "rd"
          refine r_ixL hcq (atI_nat (at_ i' xi ui)) ?_
          walk_at "rd"
          refine r_ixL hcq (atI_nat (at_ j' xj uj)) ?_
          walk_at "rd"
          refine r_ixL hcq (atI_nat (at_ l' xl ul)) ?_
          walk_at "rd"
          have hrA : Rp H10 (Nd.choose i' j' l').d (.ref rA) := node3 hA
          have okA : (Nd.choose i' j' l').ok nds.length := ⟨hi2, hj2, hl2⟩
          have hxB : ∃ e, Un (nds ++ [.choose i' j' l']) nds.length e ∧ (e.cost : Int) = (xl.cost : Int) + 2 * ((xi.cost : Int) + xj.cost + xl.cost) := ⟨.cho xi xj xl, .cho get_last (un_app ui) (un_app uj) (un_app ul), by show ((xl.cost + 2 * (xi.cost + xj.cost + xl.cost) : Nat) : Int) = _; omega⟩
          refine i_d2 (fun hgt => ?_) (fun hgt => ?_)
          · walk_at "rd"
            refine ⟨D, rfl, sA.dr, fun vC H11 a11 b11 s11 => ?_⟩
            walk_at "rd"
            refine n_tup (Nat.le_of_ble_eq_true rfl) fun r11 H12 n12 t12 h12 => ?_
            replace sA := (sA.trans s11).same t12
            have hrA : Rp H12 (Nd.const vC).d (.ref r11) := node1 h12
            have hxA : ∃ e, Un (nds ++ [.const vC]) nds.length e ∧ (e.cost : Int) = 1 ∧ e.cost ≤ 300 := ⟨.const vC, .const get_last, rfl, Nat.le_of_ble_eq_true rfl⟩
            have okA : (Nd.const vC).ok nds.length := ⟨a11, by omega⟩
            obtain ⟨xe, ux, cx, bx⟩ := hxA
            obtain ⟨wn, hnq, hwn⟩ := ln3.ds (flats_map Nd.flat _) dr3 nqd sA
            have hcqA := sA.kp _ _ cqd hc3
            have hwl := hwn.len
            rw [List.length_map] at hwl
            walk_at "rd"
            refine n_app hnq (by omega) fun HB kB hB => ?_
            have hcqB := kB _ _ ncq.symm hcqA
            walk_at "rd"
            refine n_app hcqB (by rw [List.length_map, hC.len]; omega) fun HC kC hCC => ?_
            walk_at "rd"
            refine ⟨_, _, _, _, _, _, _, nds ++ [(.const vC)], cs ++ [1], rfl, Ds.kpn dr cq0 (Ds.kpn dr nq0 (s3.trans sA) kB) kC, by rw [List.length_append, hlen]; rfl, hS.snoc okA ux bx, hC.snoc hS.ok ux cx.symm, ?_, by rw [hCC, List.map_append]; rfl⟩
            rw [List.map_append]
            exact (LD.push hnq hwn hrA (flats_map Nd.flat _) (Nd.flat _) kB hB).kp (flats_app (flats_map Nd.flat _) (Nd.flat _)) hcqB kC ncq
          · obtain ⟨eB, uB, cB⟩ := hxB
            have hxA : ∃ e, Un (nds ++ [(.choose i' j' l')]) nds.length e ∧ (e.cost : Int) = ((xl.cost : Int) + 2 * ((xi.cost : Int) + xj.cost + xl.cost)) ∧ e.cost ≤ 300 := ⟨eB, uB, cB, by omega⟩
            obtain ⟨xe, ux, cx, bx⟩ := hxA
            obtain ⟨wn, hnq, hwn⟩ := ln3.ds (flats_map Nd.flat _) dr3 nqd sA
            have hcqA := sA.kp _ _ cqd hc3
            have hwl := hwn.len
            rw [List.length_map] at hwl
            walk_at "rd"
            refine n_app hnq (by omega) fun HB kB hB => ?_
            have hcqB := kB _ _ ncq.symm hcqA
            walk_at "rd"
            refine n_app hcqB (by rw [List.length_map, hC.len]; omega) fun HC kC hCC => ?_
            walk_at "rd"
            refine ⟨_, _, _, _, _, _, _, nds ++ [(.choose i' j' l')], cs ++ [((xl.cost : Int) + 2 * ((xi.cost : Int) + xj.cost + xl.cost))], rfl, Ds.kpn dr cq0 (Ds.kpn dr nq0 (s3.trans sA) kB) kC, by rw [List.length_append, hlen]; rfl, hS.snoc okA ux bx, hC.snoc hS.ok ux cx.symm, ?_, by rw [hCC, List.map_append]; rfl⟩
            rw [List.map_append]
            exact (LD.push hnq hwn hrA (flats_map Nd.flat _) (Nd.flat _) kB hB).kp (flats_app (flats_map Nd.flat _) (Nd.flat _)) hcqB kC ncq
        · walk_at "rd"
          refine ⟨D, rfl, s9.dr, fun v6 H10 a6 b6 s10 => ?_⟩
          walk_at "rd"
          refine n_tup (Nat.le_of_ble_eq_true rfl) fun rA H10' nA tA hA => ?_
          have sA := (s9.trans s10).same tA
          have hcq := sA.kp _ _ cqd hc3
          walk_at "rd"
          refine r_ixL hcq (atI_nat (at_ i' xi ui)) ?_
          walk_at "rd"
          have hrA : Rp H10' (Nd.scaled v6 i').d (.ref rA) := node2 hA
          have okA : (Nd.scaled v6 i').ok nds.length := ⟨⟨a6, by omega⟩, hi2⟩
          have hxA : ∃ e, Un (nds ++ [.scaled v6 i']) nds.length e ∧ (e.cost : Int) = (xi.cost : Int) ∧ e.cost ≤ 300 := ⟨.scal v6 xi, .scal get_last (un_app ui), rfl, bi⟩
          obtain ⟨xe, ux, cx, bx⟩ := hxA
          obtain ⟨wn, hnq, hwn⟩ := ln3.ds (flats_map Nd.flat _) dr3 nqd sA
          have hcqA := sA.kp _ _ cqd hc3
          have hwl := hwn.len
          rw [List.length_map] at hwl
          walk_at "rd"
          refine n_app hnq (by omega) fun HB kB hB => ?_
          have hcqB := kB _ _ ncq.symm hcqA
          walk_at "rd"
          refine n_app hcqB (by rw [List.length_map, hC.len]; omega) fun HC kC hCC => ?_
          walk_at "rd"
          refine ⟨_, _, _, _, _, _, _, nds ++ [(.scaled v6 i')], cs ++ [(xi.cost : Int)], rfl, Ds.kpn dr cq0 (Ds.kpn dr nq0 (s3.trans sA) kB) kC, by rw [List.length_append, hlen]; rfl, hS.snoc okA ux bx, hC.snoc hS.ok ux cx.symm, ?_, by rw [hCC, List.map_append]; rfl⟩
          rw [List.map_append]
          exact (LD.push hnq hwn hrA (flats_map Nd.flat _) (Nd.flat _) kB hB).kp (flats_app (flats_map Nd.flat _) (Nd.flat _)) hcqB kC ncq
        · skip
          walk_at "rd"
          refine ⟨D, rfl, s9.dr, fun v6 H10 a6 b6 s10 => ?_⟩
          walk_at "rd"
          refine n_tup (Nat.le_of_ble_eq_true rfl) fun rA H10' nA tA hA => ?_
          have sA := (s9.trans s10).same tA
          walk_at "rd"
          have hrA : Rp H10' (Nd.const v6).d (.ref rA) := node1 hA
          have okA : (Nd.const v6).ok nds.length := ⟨a6, by omega⟩
          have hxA : ∃ e, Un (nds ++ [.const v6]) nds.length e ∧ (e.cost : Int) = 1 ∧ e.cost ≤ 300 := ⟨.const v6, .const get_last, rfl, Nat.le_of_ble_eq_true rfl⟩
          obtain ⟨xe, ux, cx, bx⟩ := hxA
          obtain ⟨wn, hnq, hwn⟩ := ln3.ds (flats_map Nd.flat _) dr3 nqd sA
          have hcqA := sA.kp _ _ cqd hc3
          have hwl := hwn.len
          rw [List.length_map] at hwl
          walk_at "rd"
          refine n_app hnq (by omega) fun HB kB hB => ?_
          have hcqB := kB _ _ ncq.symm hcqA
          walk_at "rd"
          refine n_app hcqB (by rw [List.length_map, hC.len]; omega) fun HC kC hCC => ?_
          walk_at "rd"
          refine ⟨_, _, _, _, _, _, _, nds ++ [(.const v6)], cs ++ [1], rfl, Ds.kpn dr cq0 (Ds.kpn dr nq0 (s3.trans sA) kB) kC, by rw [List.length_append, hlen]; rfl, hS.snoc okA ux bx, hC.snoc hS.ok ux cx.symm, ?_, by rw [hCC, List.map_append]; rfl⟩
          rw [List.map_append]
          exact (LD.push hnq hwn hrA (flats_map Nd.flat _) (Nd.flat _) kB hB).kp (flats_app (flats_map Nd.flat _) (Nd.flat _)) hcqB kC ncq
        · skip
          walk_at "rd"
          have sA := s9
          have hrA : Rp H9 (Nd.input p').d (.ref r9) := node1 hr9
          have okA : (Nd.input p').ok nds.length := by show p' < 60; omega
          have hxA : ∃ e, Un (nds ++ [.input p']) nds.length e ∧ (e.cost : Int) = 1 ∧ e.cost ≤ 300 := ⟨.input p', .input get_last, rfl, Nat.le_of_ble_eq_true rfl⟩
          obtain ⟨xe, ux, cx, bx⟩ := hxA
          obtain ⟨wn, hnq, hwn⟩ := ln3.ds (flats_map Nd.flat _) dr3 nqd sA
          have hcqA := sA.kp _ _ cqd hc3
          have hwl := hwn.len
          rw [List.length_map] at hwl
          walk_at "rd"
          refine n_app hnq (by omega) fun HB kB hB => ?_
          have hcqB := kB _ _ ncq.symm hcqA
          walk_at "rd"
          refine n_app hcqB (by rw [List.length_map, hC.len]; omega) fun HC kC hCC => ?_
          walk_at "rd"
          refine ⟨_, _, _, _, _, _, _, nds ++ [(.input p')], cs ++ [1], rfl, Ds.kpn dr cq0 (Ds.kpn dr nq0 (s3.trans sA) kB) kC, by rw [List.length_append, hlen]; rfl, hS.snoc okA ux bx, hC.snoc hS.ok ux cx.symm, ?_, by rw [hCC, List.map_append]; rfl⟩
          rw [List.map_append]
          exact (LD.push hnq hwn hrA (flats_map Nd.flat _) (Nd.flat _) kB hB).kp (flats_app (flats_map Nd.flat _) (Nd.flat _)) hcqB kC ncq
    · rintro σ H3 ⟨u5, u6, u7, u8, u9, u10, u11, nds, cs, rfl, s3, hlen, hS, hC, ⟨wn, hnq, hwn⟩, hc3⟩
      walk_at "rd"
      refine n_tupL hnq fun r H4 nr t4 hr4 => ?_
      exact q _ nds H4 (by omega) hS ⟨r, wn, rfl, hr4, hwn.same t4⟩ (s3.same t4)
end
end Bf
namespace Bf
open PySem L2
abbrev s__law_long_source : Stmt := topS 83
theorem bi__law_long_source : ∀ (kV doc pm : Value) (an : Option Addr) (cdv ct : Value) (us : List Value), us.length = 2 → bindArgs (PySem.W.fnOf "_law_long_source" "_law_long_source" (defArgs s__law_long_source) (defBody s__law_long_source) (defScope s__law_long_source) .none kV doc pm an cdv ct) ⟨us, []⟩ = pure ((["_law_draws", "_law_inputs"] : List Str).zip us) := fun _ _ _ _ _ _ us hl => match us, hl with | [_, _], _ => rfl
theorem sc__law_long_source : FnScope ["_law_draws", "_law_inputs", "_law_nodes", "_law_kind", "_law_k", "_law_last"] ["_law_draws", "_law_inputs"] (defScope s__law_long_source) := C8.fnScope_by (by decide +kernel)
abbrev s__law_any_source : Stmt := topS 86
theorem bi__law_any_source : ∀ (kV doc pm : Value) (an : Option Addr) (cdv ct : Value) (us : List Value), us.length = 1 → bindArgs (PySem.W.fnOf "_law_any_source" "_law_any_source" (defArgs s__law_any_source) (defBody s__law_any_source) (defScope s__law_any_source) .none kV doc pm an cdv ct) ⟨us, []⟩ = pure ((["_law_draws"] : List Str).zip us) := fun _ _ _ _ _ _ us hl => match us, hl with | [_], _ => rfl
theorem sc__law_any_source : FnScope ["_law_draws", "_law_inputs", "_law_nodes", "_law_k"] ["_law_draws"] (defScope s__law_any_source) := C8.fnScope_by (by decide +kernel)
def spLong : Sp := fun vs H Q _ => ∃ (D : DD) (inp : Int), vs = [.ref D.d, .int inp] ∧ Drw D H ∧ 1 ≤ inp ∧ inp ≤ 4 ∧ ∀ v nds H', 1 ≤ nds.length → nds.length ≤ 200 → Src 600 nds → Rp H' (srcD nds) v → Ds D H H' → Q v H'
def spAny : Sp := fun vs H Q _ => ∃ D : DD, vs = [.ref D.d] ∧ Drw D H ∧ ∀ v src e H', SrcP src e → Rp H' (srcD src) v → Ds D H H' → Q v H'
section
variable {P : Program} {w : World} {K : PySem.W.Frag} {mg : Str → Option Value} {base : Heap}
theorem cal__law_long_source (T : Gs mg) (c__law_draw : C8.Cal P w K mg base 2 "_law_draw" spDraw []) (c__law_source : C8.Cal P w K mg base 3 "_law_source" spSource []) (F : DefAt K mg "_law_long_source" s__law_long_source) : C8.Cal P w K mg base 4 "_law_long_source" spLong [] := by
  refine cal_of F sc__law_long_source bi__law_long_source (fun vs H Q E h => ?_) (fun f cdv A outer s H vs Q E hr h => ?_)
  · obtain ⟨D, inp, rfl, _⟩ := h
    rfl
  · refine ⟨_, (pss_cons (ps_set (i := 2) sc__law_long_source.nd rfl (by first | exact Or.inl rfl | exact Or.inr rfl) (pe_callTy b_list (by rfl) T.n_list (by decide +kernel) (pa_cons (C8.pe_c c__law_source hr (by first | decide | omega) rfl (pa_cons (pv 0) (pa_cons (pe_op op_add pe_int (pe_op op_mod (C8.pe_c c__law_draw hr (by first | decide | omega) rfl (pa_cons (pv 0) pa_nil)) pe_int)) (pa_cons (pv 1) pa_nil)))) pa_nil)))
      (pss_cons (ps_set (i := 3) sc__law_long_source.nd rfl (by first | exact Or.inl rfl | exact Or.inr rfl) (pe_op op_mod (C8.pe_c c__law_draw hr (by first | decide | omega) rfl (pa_cons (pv 0) pa_nil)) pe_int))
      (pss_cons (ps_for PassesOwn.never rfl (pi_range1 rfl T.n_range (pa_cons (pe_op op_mod (C8.pe_c c__law_draw hr (by first | decide | omega) rfl (pa_cons (pv 0) pa_nil)) pe_int) pa_nil)) (pg_name (i := 4) sc__law_long_source.nd rfl (by first | exact Or.inl rfl | exact Or.inr rfl)) (pss_cons (ps_set (i := 5) sc__law_long_source.nd rfl (by first | exact Or.inl rfl | exact Or.inr rfl) (pe_op op_sub (pe_callB b_len (by rfl) T.n_len PySem.boot_len (pa_cons (pv 2) pa_nil)) pe_int))
      (pss_one (ps_if (PW.pt (pw_and (pt_cmpR op_eq (pv 3) pe_int (nomark _)) (pw_and1 (pt_cmpR op_lt (pv 5) pe_int (nomark _))))) (pss_one (ps_expr (pe_bm PySem.F.plainAttrs_list PySem.F.slot_list_append PySem.F.type_list_append mt_append (pv 2) (pa_cons (pe_tup (pa_cons pe_str (pa_cons (C8.pe_c c__law_draw hr (by first | decide | omega) rfl (pa_cons (pv 0) pa_nil)) (pa_cons (pv 5) pa_nil)))) pa_nil)))) (pss_one (ps_if (pt_cmpR op_eq (pv 3) pe_int (nomark _)) (pss_one (ps_expr (pe_bm PySem.F.plainAttrs_list PySem.F.slot_list_append PySem.F.type_list_append mt_append (pv 2) (pa_cons (pe_tup (pa_cons pe_str (pa_cons (C8.pe_c c__law_draw hr (by first | decide | omega) rfl (pa_cons (pv 0) pa_nil)) pa_nil))) pa_nil)))) (pss_one (ps_expr (pe_bm PySem.F.plainAttrs_list PySem.F.slot_list_append PySem.F.type_list_append mt_append (pv 2) (pa_cons (pe_ix ix_seq (pe_lst (pa_cons (pe_tup (pa_cons pe_str (pa_cons (pe_op op_mod (C8.pe_c c__law_draw hr (by first | decide | omega) rfl (pa_cons (pv 0) pa_nil)) (pv 1)) pa_nil))) (pa_cons (pe_tup (pa_cons pe_str (pa_cons pe_int (pa_cons (pv 5) pa_nil)))) pa_nil))) (pe_op op_mod (C8.pe_c c__law_draw hr (by first | decide | omega) rfl (pa_cons (pv 0) pa_nil)) pe_int) (fun _ _ => rfl)) pa_nil))))))))))
      (pss_cons (ps_set (i := 5) sc__law_long_source.nd rfl (by first | exact Or.inl rfl | exact Or.inr rfl) (pe_op op_sub (pe_callB b_len (by rfl) T.n_len PySem.boot_len (pa_cons (pv 2) pa_nil)) pe_int))
      (pss_cons (ps_expr (pe_bm PySem.F.plainAttrs_list PySem.F.slot_list_append PySem.F.type_list_append mt_append (pv 2) (pa_cons (pe_tup (pa_cons pe_str (pa_cons (pv 5) (pa_cons (pe_op op_mod (C8.pe_c c__law_draw hr (by first | decide | omega) rfl (pa_cons (pv 0) pa_nil)) (pe_op op_add (pv 5) pe_int)) pa_nil)))) pa_nil)))
      (pss_one (ps_ret (pe_callTy b_tuple (by rfl) T.n_tuple (by decide +kernel) (pa_cons (pv 2) pa_nil))))))))), ?_⟩
    obtain ⟨D, inp, rfl, dr, i1, i4, q⟩ := h
    have hsz : sizeLine = 2 ^ 24 := rfl
    walk_at "rd"
    refine ⟨D, rfl, dr, fun v1 H1 a1 b1 s1 => ?_⟩
    have p1 := mod_bd v1 (b := 5) (by decide)
    walk_at "rd"
    refine ⟨D, 1 + v1 % 5, inp, rfl, s1.dr, by omega, by omega, i1, i4, fun v nds0 H2 hl0 hS0 hv0 s2 => ?_⟩
    obtain ⟨p, ws0, rfl, hp, hws0⟩ := hv0
    replace s2 := s1.trans s2
    walk_at "rd"
    refine n_listT hp fun nq H3 nq3 s3 hnq3 => ?_
    have l30 : LD H3 nq (nds0.map Nd.d) := ⟨ws0, hnq3, hws0.same s3⟩
    have nqd : nq ≠ D.d := s2.dr.ne nq3
    have nq0 : H nq = none := by
      cases h : H nq with
      | none => rfl
      | some o =>
        have := s2.kp nq o nqd h
        rw [this] at nq3
        cases nq3
    replace s3 := s2.same s3
    walk_at "rd"
    refine ⟨D, rfl, s3.dr, fun v2 H4 a2 b2 s4 => ?_⟩
    have p2 := mod_bd v2 (b := 3) (by decide)
    have l40 := l30.ds (flats_map Nd.flat _) s3.dr nqd s4
    replace s4 := s3.trans s4
    walk_at "rd"
    refine ⟨D, rfl, s4.dr, fun v3 H5 a3 b3 s5 => ?_⟩
    have p3 := mod_bd v3 (b := 60) (by decide)
    have l50 := l40.ds (flats_map Nd.flat _) s4.dr nqd s5
    replace s5 := s4.trans s5
    walk_at "rd"
    refine n_forR (fun i σ H' => ∃ (u4 u5 : Option V) (nds : List Nd), σ = [some (.ref D.d), some (.int inp), some (.ref nq), some (.int (v2 % 3)), u4, u5] ∧ Ds D H H' ∧ 1 ≤ nds.length ∧ nds.length ≤ 5 + i ∧ Src 300 nds ∧ LD H' nq (nds.map Nd.d)) (by omega)
      ⟨_, _, nds0, rfl, s5, by omega, by omega, hS0, l50⟩ ?_ ?_
    · rintro i σ H6 hi ⟨u4, u5, nds, rfl, s3, hl1, hl2, hS, ⟨wn, hnq, hwn⟩⟩
      have dr3 := s3.dr
      have hi60 : i < 60 := by omega
      have hwl := hwn.len
      rw [List.length_map] at hwl
      obtain ⟨xl, ul, bl⟩ := hS.un (nds.length - 1) (by omega)
      have el : (wn.length : Int) - 1 = ((nds.length - 1 : Nat) : Int) := by omega
      walk_at "rd"
      rw [el]
      by_cases h0 : v2 % 3 = 0
      · walk_at "rd"
        refine ⟨D, rfl, dr3, fun v6 H7 a6 b6 s7 => ?_⟩
        walk_at "rd"
        refine n_tup (Nat.le_of_ble_eq_true rfl) fun rA H8 nA tA hA => ?_
        have sA := s7.same tA
        have hrA : Rp H8 (Nd.scaled v6 (nds.length - 1)).d (.ref rA) := node2 hA
        have okA : (Nd.scaled v6 (nds.length - 1)).ok nds.length := ⟨⟨a6, by omega⟩, by omega⟩
        have hnq4 := sA.kp _ _ nqd hnq
        have hwn4 := hwn.tk (Ds.tk dr3 sA) (flats_map Nd.flat nds)
        refine n_app hnq4 (by omega) fun HB kB hB => ?_
        walk_at "rd"
        refine ⟨_, _, nds ++ [(.scaled v6 (nds.length - 1))], rfl, Ds.kpn dr nq0 (s3.trans sA) kB, by rw [List.length_append]; show 1 ≤ _ + 1; omega, by rw [List.length_append]; show _ + 1 ≤ _; omega, hS.snoc okA (.scal get_last (un_app ul)) bl, ?_⟩
        rw [List.map_append]
        exact LD.push hnq4 hwn4 hrA (flats_map Nd.flat _) (Nd.flat _) kB hB
      · by_cases h1 : v2 % 3 = 1
        · walk_at "rd"
          refine ⟨D, rfl, dr3, fun v6 H7 a6 b6 s7 => ?_⟩
          walk_at "rd"
          refine n_tup (Nat.le_of_ble_eq_true rfl) fun rA H8 nA tA hA => ?_
          have sA := s7.same tA
          have hrA : Rp H8 (Nd.const v6).d (.ref rA) := node1 hA
          have okA : (Nd.const v6).ok nds.length := ⟨a6, by omega⟩
          have hnq4 := sA.kp _ _ nqd hnq
          have hwn4 := hwn.tk (Ds.tk dr3 sA) (flats_map Nd.flat nds)
          refine n_app hnq4 (by omega) fun HB kB hB => ?_
          walk_at "rd"
          refine ⟨_, _, nds ++ [(.const v6)], rfl, Ds.kpn dr nq0 (s3.trans sA) kB, by rw [List.length_append]; show 1 ≤ _ + 1; omega, by rw [List.length_append]; show _ + 1 ≤ _; omega, hS.snoc okA (.const get_last) (Nat.le_of_ble_eq_true rfl), ?_⟩
          rw [List.map_append]
          exact LD.push hnq4 hwn4 hrA (flats_map Nd.flat _) (Nd.flat _) kB hB
        · walk_at "rd"
          refine ⟨D, rfl, dr3, fun v6 H7 a6 b6 s7 => ?_⟩
          obtain ⟨p', ep, hp'⟩ := mod_nat (v := v6) (b := inp) (by omega)
          walk_at "rd"
          refine n_tup (Nat.le_of_ble_eq_true rfl) fun r1 H8 n1 t1 h1t => ?_
          walk_at "rd"
          refine n_tup (Nat.le_of_ble_eq_true rfl) fun r2 H9 n2 t2 h2t => ?_
          walk_at "rd"
          refine n_lst (Nat.le_of_ble_eq_true rfl) fun r3 H10 n3 t3 h3t => ?_
          rw [ep] at h1t
          have t13 := t1.trans (t2.trans t3)
          have s10 := s7.same t13
          have hr1 : Rp H10 (Nd.input p').d (.ref r1) := node1 (t3 _ _ (t2 _ _ h1t))
          have hr2 : Rp H10 (Nd.scaled 2 (nds.length - 1)).d (.ref r2) := node2 (t3 _ _ h2t)
          have n3d : r3 ≠ D.d := ((s7.same t1).same t2).dr.ne n3
          walk_at "rd"
          refine ⟨D, rfl, s10.dr, fun v7 H11 a7 b7 s11 => ?_⟩
          have p7 := mod_bd v7 (b := 2) (by decide)
          have h3u := s11.kp _ _ n3d h3t
          have sA := s10.trans s11
          walk_at "rd"
          have c2 : v7 % 2 = 0 ∨ v7 % 2 = 1 := by omega
          rcases c2 with h2 | h2
          · rw [h2]
            refine r_ixL h3u (at_nat (by decide) rfl) ?_
            have hrA := hr1.tk (Ds.tk s10.dr s11) (Nd.flat _)
            have okA : (Nd.input p').ok nds.length := by show p' < 60; omega
            have hnq4 := sA.kp _ _ nqd hnq
            have hwn4 := hwn.tk (Ds.tk dr3 sA) (flats_map Nd.flat nds)
            refine n_app hnq4 (by omega) fun HB kB hB => ?_
            walk_at "rd"
            refine ⟨_, _, nds ++ [(.input p')], rfl, Ds.kpn dr nq0 (s3.trans sA) kB, by rw [List.length_append]; show 1 ≤ _ + 1; omega, by rw [List.length_append]; show _ + 1 ≤ _; omega, hS.snoc okA (.input get_last) (Nat.le_of_ble_eq_true rfl), ?_⟩
            rw [List.map_append]
            exact LD.push hnq4 hwn4 hrA (flats_map Nd.flat _) (Nd.flat _) kB hB
          · rw [h2]
            refine r_ixL h3u (at_nat (by decide) rfl) ?_
            have hrA := hr2.tk (Ds.tk s10.dr s11) (Nd.flat _)
            have okA : (Nd.scaled 2 (nds.length - 1)).ok nds.length := ⟨⟨by decide, by decide⟩, by omega⟩
            have hnq4 := sA.kp _ _ nqd hnq
            have hwn4 := hwn.tk (Ds.tk dr3 sA) (flats_map Nd.flat nds)
            refine n_app hnq4 (by omega) fun HB kB hB => ?_
            walk_at "rd"
            refine ⟨_, _, nds ++ [(.scaled 2 (nds.length - 1))], rfl, Ds.kpn dr nq0 (s3.trans sA) kB, by rw [List.length_append]; show 1 ≤ _ + 1; omega, by rw [List.length_append]; show _ + 1 ≤ _; omega, hS.snoc okA (.scal get_last (un_app ul)) bl, ?_⟩
            rw [List.map_append]
            exact LD.push hnq4 hwn4 hrA (flats_map Nd.flat _) (Nd.flat _) kB hB
    · rintro σ H6 ⟨u4, u5, nds, rfl, s3, hl1, hl2, hS, ⟨wn, hnq, hwn⟩⟩
      have dr3 := s3.dr
      have hi60 : (v3 % 60).toNat < 60 := by omega
      have hwl := hwn.len
      rw [List.length_map] at hwl
      obtain ⟨xl, ul, bl⟩ := hS.un (nds.length - 1) (by omega)
      have el : (wn.length : Int) - 1 = ((nds.length - 1 : Nat) : Int) := by omega
      walk_at "rd"
      rw [el]
      walk_at "rd"
      refine ⟨D, rfl, dr3, fun v6 H7 a6 b6 s7 => ?_⟩
      obtain ⟨j', ej, hj'⟩ := mod_nat (v := v6) (b := ((nds.length - 1 : Nat) : Int) + 1) (by omega)
      obtain ⟨xj, uj, bj⟩ := hS.un j' (by omega)
      walk_at "rd"
      refine n_tup (Nat.le_of_ble_eq_true rfl) fun rA H8 nA tA hA => ?_
      rw [ej] at hA
      have sA := s7.same tA
      have hrA : Rp H8 (Nd.sum (nds.length - 1) j').d (.ref rA) := node2 hA
      have okA : (Nd.sum (nds.length - 1) j').ok nds.length := ⟨by omega, by omega⟩
      have hnq4 := sA.kp _ _ nqd hnq
      have hwn4 := hwn.tk (Ds.tk dr3 sA) (flats_map Nd.flat nds)
      refine n_app hnq4 (by omega) fun HB kB hB => ?_
      have hB2 : LD HB nq ((nds ++ [Nd.sum (nds.length - 1) j']).map Nd.d) := by
        rw [List.map_append]
        exact LD.push hnq4 hwn4 hrA (flats_map Nd.flat _) (Nd.flat _) kB hB
      have sB := Ds.kpn dr nq0 (s3.trans sA) kB
      obtain ⟨wB, hnB, hwB⟩ := hB2
      walk_at "rd"
      refine n_tupL hnB fun r HC nr tC hrC => ?_
      exact q _ (nds ++ [Nd.sum (nds.length - 1) j']) HC (by rw [List.length_append]; show 1 ≤ _ + 1; omega) (by rw [List.length_append]; show _ + 1 ≤ 200; omega) ((hS.mono (c := 600) (by omega)).snoc okA (.sum get_last (un_app ul) (un_app uj)) (by show xl.cost + xj.cost ≤ 600; omega)) ⟨r, wB, rfl, hrC, hwB.same tC⟩ (sB.same tC)
theorem cal__law_any_source (T : Gs mg) (c__law_draw : C8.Cal P w K mg base 2 "_law_draw" spDraw []) (c__law_source : C8.Cal P w K mg base 3 "_law_source" spSource []) (c__law_long_source : C8.Cal P w K mg base 4 "_law_long_source" spLong []) (F : DefAt K mg "_law_any_source" s__law_any_source) : C8.Cal P w K mg base 5 "_law_any_source" spAny [] := by
  refine cal_of F sc__law_any_source bi__law_any_source (fun vs H Q E h => ?_) (fun f cdv A outer s H vs Q E hr h => ?_)
  · obtain ⟨D, rfl, _⟩ := h
    rfl
  · refine ⟨_, (pss_cons (ps_set (i := 1) sc__law_any_source.nd rfl (by first | exact Or.inl rfl | exact Or.inr rfl) (pe_op op_add pe_int (pe_op op_mod (C8.pe_c c__law_draw hr (by first | decide | omega) rfl (pa_cons (pv 0) pa_nil)) pe_int)))
      (pss_cons (ps_if (pt_cmpR op_eq (pe_op op_mod (C8.pe_c c__law_draw hr (by first | decide | omega) rfl (pa_cons (pv 0) pa_nil)) pe_int) pe_int (nomark _)) (pss_cons (ps_set (i := 2) sc__law_any_source.nd rfl (by first | exact Or.inl rfl | exact Or.inr rfl) (pe_lst (pa_cons (pe_tup (pa_cons pe_str (pa_cons pe_int pa_nil))) (pa_cons (pe_tup (pa_cons pe_str (pa_cons (pe_op op_sub (pv 1) pe_int) pa_nil))) pa_nil))))
      (pss_cons (ps_for PassesOwn.never rfl (pi_range2 rfl T.n_range (pa_cons pe_int (pa_cons (pe_op op_add pe_int (pe_op op_mod (C8.pe_c c__law_draw hr (by first | decide | omega) rfl (pa_cons (pv 0) pa_nil)) pe_int)) pa_nil))) (pg_name (i := 3) sc__law_any_source.nd rfl (by first | exact Or.inl rfl | exact Or.inr rfl)) (pss_one (ps_expr (pe_bm PySem.F.plainAttrs_list PySem.F.slot_list_append PySem.F.type_list_append mt_append (pv 2) (pa_cons (pe_tup (pa_cons pe_str (pa_cons (pv 3) (pa_cons (pe_op op_add (pe_op op_sub (pv 3) pe_int) (pe_op op_mod (C8.pe_c c__law_draw hr (by first | decide | omega) rfl (pa_cons (pv 0) pa_nil)) pe_int)) pa_nil)))) pa_nil)))))
      (pss_one (ps_ret (pe_callTy b_tuple (by rfl) T.n_tuple (by decide +kernel) (pa_cons (pv 2) pa_nil)))))) pss_nil)
      (pss_cons (ps_if (pt_cmpR op_eq (pe_op op_mod (C8.pe_c c__law_draw hr (by first | decide | omega) rfl (pa_cons (pv 0) pa_nil)) pe_int) pe_int (nomark _)) (pss_one (ps_ret (C8.pe_c c__law_long_source hr (by first | decide | omega) rfl (pa_cons (pv 0) (pa_cons (pv 1) pa_nil))))) pss_nil)
      (pss_one (ps_ret (C8.pe_c c__law_source hr (by first | decide | omega) rfl (pa_cons (pv 0) (pa_cons (pe_op op_add pe_int (pe_op op_mod (C8.pe_c c__law_draw hr (by first | decide | omega) rfl (pa_cons (pv 0) pa_nil)) pe_int)) (pa_cons (pv 1) pa_nil))))))))), ?_⟩
    obtain ⟨D, rfl, dr, q⟩ := h
    have hsz : sizeLine = 2 ^ 24 := rfl
    walk_at "rd"
    refine ⟨D, rfl, dr, fun v1 H1 a1 b1 s1 => ?_⟩
    have p1 := mod_bd v1 (b := 4) (by decide)
    walk_at "rd"
    refine ⟨D, rfl, s1.dr, fun v2 H2 a2 b2 s2 => ?_⟩
    replace s2 := s1.trans s2
    walk_at "rd"
    refine i_d2 (fun hc => ?_) (fun hc => ?_)
    · walk_at "rd"
      refine n_tup (Nat.le_of_ble_eq_true rfl) fun r1 H3 n1 t1 h1t => ?_
      walk_at "rd"
      refine n_tup (Nat.le_of_ble_eq_true rfl) fun r2 H4 n2 t2 h2t => ?_
      walk_at "rd"
      refine n_lst (Nat.le_of_ble_eq_true rfl) fun nq H5 n3 t3 h3t => ?_
      obtain ⟨p', ep⟩ : ∃ p' : Nat, 1 + v1 % 4 - 1 = p' := ⟨(1 + v1 % 4 - 1).toNat, by omega⟩
      rw [ep] at h2t
      have t13 := t1.trans (t2.trans t3)
      have s5 := s2.same t13
      have nqd : nq ≠ D.d := ((s2.same t1).same t2).dr.ne n3
      have nq0 : H nq = none := by
        cases h : H nq with
        | none => rfl
        | some o =>
          have := ((s2.same t1).same t2).kp nq o nqd h
          rw [this] at n3
          cases n3
      have l5 : LD H5 nq (([.input 0, .input p'] : List Nd).map Nd.d) := ⟨_, h3t, _, _, rfl, node1 (t3 _ _ (t2 _ _ h1t)), _, _, rfl, node1 (t3 _ _ h2t), rfl⟩
      have hS0 : Src 1 ([.input 0, .input p'] : List Nd) := by
        have h1 : Src 1 ([] ++ [Nd.input 0]) := Src.nil.snoc (x := .input 0) (e := .input 0) (by show 0 < 60; decide) (.input rfl) (Nat.le_refl _)
        exact h1.snoc (x := .input p') (e := .input p') (by show p' < 60; omega) (.input rfl) (Nat.le_refl _)
      walk_at "rd"
      refine ⟨D, rfl, s5.dr, fun v3 H6 a3 b3 s6 => ?_⟩
      have p3 := mod_bd v3 (b := 6) (by decide)
      have l6 := l5.ds (flats_map Nd.flat _) s5.dr nqd s6
      replace s6 := s5.trans s6
      walk_at "rd"
      refine n_forR2 (fun i σ H' => ∃ (u3 : Option V) (nds : List Nd), σ = [some (.ref D.d), some (.int (1 + v1 % 4)), some (.ref nq), u3] ∧ Ds D H H' ∧ nds.length = 2 + i ∧ Src (2 ^ i) nds ∧ LD H' nq (nds.map Nd.d)) (by omega)
        ⟨_, _, rfl, s6, rfl, hS0, l6⟩ ?_ ?_
      · rintro i σ H7 hi ⟨u3, nds, rfl, s7, hlen, hS, ⟨wn, hnq, hwn⟩⟩
        have dr7 := s7.dr
        have hi12 : i < 12 := by omega
        have hwl := hwn.len
        rw [List.length_map] at hwl
        walk_at "rd"
        refine ⟨D, rfl, dr7, fun v6 H8 a6 b6 s8 => ?_⟩
        have p6 := mod_bd v6 (b := 2) (by decide)
        obtain ⟨j', ej, hj'⟩ : ∃ j' : Nat, 1 + (i : Int) - 1 + v6 % 2 = j' ∧ j' < nds.length := ⟨(1 + (i : Int) - 1 + v6 % 2).toNat, by omega, by omega⟩
        obtain ⟨xl, ul, bl⟩ := hS.un (1 + i) (by omega)
        obtain ⟨xj, uj, bj⟩ := hS.un j' hj'
        walk_at "rd"
        refine n_tup (Nat.le_of_ble_eq_true rfl) fun rA H9 nA tA hA => ?_
        rw [ej, show (1 : Int) + (i : Int) = ((1 + i : Nat) : Int) by omega] at hA
        have sA := s8.same tA
        have hrA : Rp H9 (Nd.sum (1 + i) j').d (.ref rA) := node2 hA
        have okA : (Nd.sum (1 + i) j').ok nds.length := ⟨by omega, by omega⟩
        have hnq4 := sA.kp _ _ nqd hnq
        have hwn4 := hwn.tk (Ds.tk dr7 sA) (flats_map Nd.flat nds)
        refine n_app hnq4 (by omega) fun HB kB hB => ?_
        have e2 : 2 ^ (i + 1) = 2 * 2 ^ i := by rw [Nat.pow_succ, Nat.mul_comm]
        walk_at "rd"
        refine ⟨_, nds ++ [.sum (1 + i) j'], rfl, Ds.kpn dr nq0 (s7.trans sA) kB, by rw [List.length_append, hlen]; rfl, (hS.mono (c := 2 ^ (i + 1)) (by omega)).snoc okA (.sum get_last (un_app ul) (un_app uj)) (by show xl.cost + xj.cost ≤ _; omega), ?_⟩
        rw [List.map_append]
        exact LD.push hnq4 hwn4 hrA (flats_map Nd.flat _) (Nd.flat _) kB hB
      · rintro σ H7 ⟨u3, nds, rfl, s7, hlen, hS, ⟨wn, hnq, hwn⟩⟩
        have hi12 : (8 + v3 % 6 - 1).toNat ≤ 12 := by omega
        have hpow : 2 ^ (8 + v3 % 6 - 1).toNat ≤ 2 ^ 12 := Nat.pow_le_pow_right (by decide) hi12
        obtain ⟨e, hP⟩ := Src.prp hS (by omega) (by omega) (by omega)
        walk_at "rd"
        refine n_tupL hnq fun r HC nr tC hrC => ?_
        exact q _ nds e HC hP ⟨r, wn, rfl, hrC, hwn.same tC⟩ (s7.same tC)
    · walk_at "rd"
      refine ⟨D, rfl, s2.dr, fun v3 H3 a3 b3 s3 => ?_⟩
      replace s3 := s2.trans s3
      walk_at "rd"
      refine i_d2 (fun hc => ?_) (fun hc => ?_)
      · walk_at "rd"
        refine ⟨D, 1 + v1 % 4, rfl, s3.dr, by omega, by omega, fun v nds H4 l1 l2 hS hv s4 => ?_⟩
        obtain ⟨e, hP⟩ := Src.prp hS l1 l2 (by decide)
        exact q v nds e H4 hP hv (s3.trans s4)
      · walk_at "rd"
        refine ⟨D, rfl, s3.dr, fun v4 H4 a4 b4 s4 => ?_⟩
        have p4 := mod_bd v4 (b := 10) (by decide)
        replace s4 := s3.trans s4
        walk_at "rd"
        refine ⟨D, 1 + v4 % 10, 1 + v1 % 4, rfl, s4.dr, by omega, by omega, by omega, by omega, fun v nds H5 hl hS hv s5 => ?_⟩
        obtain ⟨e, hP⟩ := Src.prp hS (by omega) (by omega) (by decide)
        exact q v nds e H5 hP hv (s4.trans s5)
end
end Bf
/-! what the law keeps: the draws, the desk, its own state -/
namespace Bf
open PySem L2
def MV : Option Int → V
  | none => .non
  | some m => .int m
def LMem (D : DD) (st : Addr) (H : Hp) : Option (List Int) → V → Prop
  | none, v => v = .non
  | some xs, v => ∃ a, v = .ref a ∧ H a = some (.lst (xs.map V.int)) ∧ a ≠ D.d ∧ a ≠ st
structure LS (C : Addr) (D : DD) (dk st : Addr) (H : Hp) (m : Option Int) (xs : Option (List Int)) (s : V) : Prop where
  dr : Drw D H
  sd : st ≠ D.d
  sl : st ≠ D.l
  dk_ : ∃ c, DkS C dk (MV m) c s H ∧ LMem D st H xs c
  st_ : ∃ w, H st = some (.lst [MV m, w]) ∧ LMem D st H xs w
def K3 (D : DD) (dk st : Addr) (H H' : Hp) : Prop := ∀ b o, b ≠ D.d → b ≠ dk → b ≠ st → H b = some o → H' b = some o
section
variable {C CP : Addr} {D : DD} {dk st : Addr} {H H1 H2 : Hp} {m m' : Option Int} {xs xs' : Option (List Int)} {s s' v : V}
theorem K3.refl : K3 D dk st H H := fun _ _ _ _ _ h => h
theorem K3.trans (a : K3 D dk st H H1) (b : K3 D dk st H1 H2) : K3 D dk st H H2 := fun x o h1 h2 h3 h => b x o h1 h2 h3 (a x o h1 h2 h3 h)
theorem K3.same (a : Same H H1) : K3 D dk st H H1 := fun x o _ _ _ h => a x o h
theorem K3.ds (a : Ds D H H1) : K3 D dk st H H1 := fun x o h1 _ _ h => a.kp x o h1 h
theorem K3.ofd (a : Kp dk H H1) : K3 D dk st H H1 := fun x o _ h2 _ h => a x o h2 h
theorem K3.ofs (a : Kp st H H1) : K3 D dk st H H1 := fun x o _ _ h3 h => a x o h3 h
theorem LMem.same (h : LMem D st H xs v) (k : Same H H1) : LMem D st H1 xs v := by
  cases xs with
  | none => exact h
  | some l =>
    obtain ⟨a, e, h1, h2, h3⟩ := h
    exact ⟨a, e, k _ _ h1, h2, h3⟩
theorem LMem.kpd (h : LMem D st H xs v) (k : Kp D.d H H1) : LMem D st H1 xs v := by
  cases xs with
  | none => exact h
  | some l =>
    obtain ⟨a, e, h1, h2, h3⟩ := h
    exact ⟨a, e, k _ _ h2 h1, h2, h3⟩
theorem LMem.kps (h : LMem D st H xs v) (k : Kp st H H1) : LMem D st H1 xs v := by
  cases xs with
  | none => exact h
  | some l =>
    obtain ⟨a, e, h1, h2, h3⟩ := h
    exact ⟨a, e, k _ _ h3 h1, h2, h3⟩
theorem LMem.kpi {K C' dx : Addr} {fs : List (Str × V)} (h : LMem D st H xs v) (hd : H K = some (.ins C' dx fs)) (k : Kp K H H1) : LMem D st H1 xs v := by
  cases xs with
  | none => exact h
  | some l =>
    obtain ⟨a, e, h1, h2, h3⟩ := h
    exact ⟨a, e, k _ _ (ne_of h1 hd (by intro z; cases z)) h1, h2, h3⟩
theorem Drw.kpi {K C' dx : Addr} {fs : List (Str × V)} (h : Drw D H) (hd : H K = some (.ins C' dx fs)) (k : Kp K H H1) : Drw D H1 := by
  obtain ⟨⟨j, h1, h2⟩, h3, h4⟩ := h
  exact ⟨⟨j, k _ _ (ne_of h1 hd (by intro z; cases z)) h1, h2⟩, k _ _ (ne_of h3 hd (by intro z; cases z)) h3, h4⟩
theorem Drw.kps (h : Drw D H) (sd : st ≠ D.d) (sl : st ≠ D.l) (k : Kp st H H1) : Drw D H1 := by
  obtain ⟨⟨j, h1, h2⟩, h3, h4⟩ := h
  exact ⟨⟨j, k _ _ (fun e => sd e.symm) h1, h2⟩, k _ _ (fun e => sl e.symm) h3, h4⟩
theorem DkS.ned (h : DkS C dk v s s' H) (dr : Drw D H) : dk ≠ D.d := by
  obtain ⟨dx, h1⟩ := h
  obtain ⟨⟨j, h2, _⟩, _⟩ := dr
  exact ne_of h1 h2 (by intro z; cases z)
theorem LS.same (h : LS C D dk st H m xs s) (k : Same H H1) : LS C D dk st H1 m xs s := by
  obtain ⟨dr, sd, sl, ⟨c, h1, h2⟩, w, h3, h4⟩ := h
  exact ⟨dr.same k, sd, sl, ⟨c, h1.same k, h2.same k⟩, w, k _ _ h3, h4.same k⟩
theorem LS.ds (h : LS C D dk st H m xs s) (k : Ds D H H1) : LS C D dk st H1 m xs s := by
  obtain ⟨dr, sd, sl, ⟨c, h1, h2⟩, w, h3, h4⟩ := h
  exact ⟨k.dr, sd, sl, ⟨c, h1.kp k.kp (h1.ned dr), h2.kpd k.kp⟩, w, k.kp _ _ sd h3, h4.kpd k.kp⟩
theorem LS.dkd (h : LS C D dk st H m xs s) : dk ≠ D.d := by
  obtain ⟨dr, sd, sl, ⟨c, h1, h2⟩, w, h3, h4⟩ := h
  exact h1.ned dr
theorem LS.std (h : LS C D dk st H m xs s) : st ≠ dk := by
  obtain ⟨dr, sd, sl, ⟨c, ⟨dx, h1⟩, h2⟩, w, h3, h4⟩ := h
  exact ne_of h3 h1 (by intro z; cases z)
/-- the desk was asked -/
theorem LS.desk {c : V} (h : LS C D dk st H m xs s) (k : Kp dk H H1) (hd : DkS C dk (MV m) c s' H1) (hc : LMem D st H1 xs c) : LS C D dk st H1 m xs s' := by
  have sk := h.std
  obtain ⟨dr, sd, sl, ⟨c0, ⟨dx, h1⟩, h2⟩, w, h3, h4⟩ := h
  exact ⟨dr.kpi h1 k, sd, sl, ⟨c, hd, hc⟩, w, k _ _ sk h3, h4.kpi h1 k⟩
theorem LS.tk (h : LS C D dk st H m xs s) (k : K3 D dk st H H1) : TK H H1 := by
  obtain ⟨⟨⟨j, d1, _⟩, _⟩, sd, sl, ⟨c0, ⟨dx, h1⟩, h2⟩, w, h3, h4⟩ := h
  exact fun b ys e => k b _ (ne_of e d1 (by intro z; cases z)) (ne_of e h1 (by intro z; cases z)) (ne_of e h3 (by intro z; cases z)) e
theorem LS.prg {y : Addr} {n c k : Int} {ss : List Step} (h : LS C D dk st H m xs s) (hm : m ≠ none) (pr : Prg CP H y n c k ss) (kk : K3 D dk st H H1) : Prg CP H1 y n c k ss := by
  have tk := h.tk kk
  obtain ⟨dr, sd, sl, ⟨c0, ⟨dx, h1⟩, h2⟩, w, h3, h4⟩ := h
  obtain ⟨dp, q, vs, p1, p2, p3⟩ := pr
  have n1 : y ≠ dk := fun e => by
    rw [e, h1] at p1
    injection p1 with p1
    injection p1 with _ _ p1
    simp at p1
  have n2 : q ≠ st := fun e => by
    rw [e, h3] at p2
    cases p2
    obtain ⟨d, e1, e2⟩ := p3.at (i := 0) (v := MV m) rfl
    rw [List.getElem?_map] at e1
    obtain ⟨x, _, rfl⟩ := Option.map_eq_some_iff.mp e1
    obtain ⟨a, e⟩ := step_ref e2
    cases m with
    | none => exact hm rfl
    | some z => cases e
  obtain ⟨⟨j, d1, _⟩, _⟩ := id dr
  exact ⟨dp, q, vs, kk _ _ (ne_of p1 d1 (by intro z; cases z)) n1 (ne_of p1 h3 (by intro z; cases z)) p1, kk _ _ (steps_ne dr p2 p3) (ne_of p2 h1 (by intro z; cases z)) n2 p2, p3.tk tk (steps_flat ss)⟩
theorem LMem.k3 {C' dx : Addr} {fs : List (Str × V)} (h : LMem D st H xs v) (hd : H dk = some (.ins C' dx fs)) (k : K3 D dk st H H1) : LMem D st H1 xs v := by
  cases xs with
  | none => exact h
  | some l =>
    obtain ⟨a, e, h1, h2, h3⟩ := h
    exact ⟨a, e, k _ _ h2 (ne_of h1 hd (by intro z; cases z)) h3 h1, h2, h3⟩
/-- a list that is none of the three -/
theorem LS.lst {a : Addr} {zs : List V} (h : LS C D dk st H m xs s) (ha : H a = some (.lst zs)) (n1 : a ≠ D.d) (n2 : a ≠ st) (k : K3 D dk st H H1) : H1 a = some (.lst zs) := by
  obtain ⟨dr, sd, sl, ⟨c0, ⟨dx, h1⟩, h2⟩, w, h3, h4⟩ := h
  exact k _ _ n1 (ne_of ha h1 (by intro z; cases z)) n2 ha
theorem LS.new {q : Addr} (h : LS C D dk st H m xs s) (n : H q = none) : q ≠ D.d ∧ q ≠ st := by
  obtain ⟨dr, sd, sl, ⟨c0, ⟨dx, h1⟩, h2⟩, w, h3, h4⟩ := h
  exact ⟨dr.ne n, (ne_of_none h3 n).symm⟩
end
end Bf
namespace Bf
open PySem L2 SX TL
abbrev s__law_memory_anew : Stmt := topS 85
theorem bi__law_memory_anew : ∀ (kV doc pm : Value) (an : Option Addr) (cdv ct : Value) (us : List Value), us.length = 3 → bindArgs (PySem.W.fnOf "_law_memory_anew" "_law_memory_anew" (defArgs s__law_memory_anew) (defBody s__law_memory_anew) (defScope s__law_memory_anew) .none kV doc pm an cdv ct) ⟨us, []⟩ = pure ((["_law_draws", "_law_desk", "_law_state"] : List Str).zip us) := fun _ _ _ _ _ _ us hl => match us, hl with | [_, _, _], _ => rfl
theorem sc__law_memory_anew : FnScope ["_law_draws", "_law_desk", "_law_state", "_law_k"] ["_law_draws", "_law_desk", "_law_state"] (defScope s__law_memory_anew) := C8.fnScope_by (by decide +kernel)
def spAnew (C : Addr) : Sp := fun vs H Q _ => ∃ (D : DD) (dk st : Addr) (m : Int) (xs : Option (List Int)) (s : V), vs = [.ref D.d, .ref dk, .ref st] ∧ LS C D dk st H (some m) xs s ∧ 2 ≤ m ∧ m ≤ 1000000000 ∧ (∀ l, xs = some l → Mem m 3 l) ∧
  ∀ H' ys, LS C D dk st H' (some m) (some ys) s → Mem m 3 ys → K3 D dk st H H' → Q (.bl true) H'
section
variable {P : Program} {w : World} {K : PySem.W.Frag} {mg : Str → Option Value} {base : Heap} {C : Addr}
theorem cal__law_memory_anew (T : Gs mg) (c__law_draw : C8.Cal P w K mg base 2 "_law_draw" spDraw []) (c__law_written : C8.Cal P w K mg base 1 "_law_written" spWritten []) (c__law_equal : C8.Cal P w K mg base 10 "_law_equal" (spEq 4) []) (m_do : C8.Met P w K mg base 13 C "do" (spDo C) []) (F : DefAt K mg "_law_memory_anew" s__law_memory_anew) : C8.Cal P w K mg base 14 "_law_memory_anew" (spAnew C) [] := by
  refine cal_of F sc__law_memory_anew bi__law_memory_anew (fun vs H Q E h => ?_) (fun f cdv A outer s H vs Q E hr h => ?_)
  · obtain ⟨D, dk, st, m, xs, s, rfl, _⟩ := h
    rfl
  · refine ⟨_, (pss_cons (ps_if (PW.pt (pw_or (pt_cmpR op_isNn (pe_ix ix_seq (pv 2) pe_int (fun _ _ => rfl)) pe_non (nomark _)) (pw_or1 (pt_cmpR op_eq (pe_op op_mod (C8.pe_c c__law_draw hr (by first | decide | omega) rfl (pa_cons (pv 0) pa_nil)) pe_int) pe_int (nomark _))))) (pss_cons (ps_asg (pe_lc (own := [("_law_k", 3)]) (g := gName 3) (tt := tYes) rfl sc__law_memory_anew.nd (pi_range1 rfl T.n_range (pa_cons pe_int pa_nil)) (blkOk_by (by first | decide +kernel | kernel_rfl)) (fun _ _ _ _ _ => pg_name (i := 3) sc__law_memory_anew.nd rfl (by first | exact Or.inl rfl | exact Or.inr rfl)) (fun _ _ _ _ _ => pts_nil) (fun _ _ _ _ _ => (pe_op op_mod (pe_op op_mul (C8.pe_c c__law_draw hr (by first | decide | omega) rfl (pa_cons (pv 0) pa_nil)) (C8.pe_c c__law_draw hr (by first | decide | omega) rfl (pa_cons (pv 0) pa_nil))) (pe_ix (ix_seqK (K := K) rfl) (pv 2) pe_int (fun _ _ => rfl))))) (pg_sub (pv 2) pe_int set_list))
      (pss_one (ps_ret (C8.pe_c c__law_equal hr (by first | decide | omega) rfl (pa_cons (C8.pe_mt m_do hr (by first | decide | omega) (pv 1) (pa_cons (pe_op op_addSt pe_str (C8.pe_c c__law_written hr (by first | decide | omega) rfl (pa_cons (pe_ix ix_seq (pv 2) pe_int (fun _ _ => rfl)) pa_nil))) pa_nil)) (pa_cons pe_str pa_nil)))))) pss_nil)
      (pss_one (ps_ret pe_bl))), ?_⟩
    obtain ⟨D, dk, st, m, xs, s0, rfl, hLS, m2, m9, hxs, q⟩ := h
    have hsz : sizeLine = 2 ^ 24 := rfl
    obtain ⟨wA, hstA, lwA⟩ := hLS.st_
    replace hstA : H st = some (.lst [.int m, wA]) := hstA
    cases xs with
    | none =>
      have e : wA = .non := lwA
      subst e
      walk_at "rd"
      obtain ⟨HA, eHA⟩ : ∃ HA, HA = H := ⟨H, rfl⟩
      have kA : K3 D dk st H HA := by rw [eHA]; exact K3.refl
      rw [← eHA] at hLS ⊢
      clear hstA lwA
      obtain ⟨drA, sd, sl, ⟨cA, ⟨dx, hdkA⟩, lmA⟩, wA, hstA, lwA⟩ := id hLS
      replace hstA : HA st = some (.lst [.int m, wA]) := hstA
      walk_at "rd"
      refine n_lcR (by decide) fun Dq H0 nDq s0 hDq => ⟨fun i H' => ∃ ys : List Int, Ds D HA H' ∧ H' Dq = some (.lst (ys.map V.int)) ∧ ys.length = i ∧ ∀ x ∈ ys, 0 ≤ x ∧ x < m, ⟨[], Ds.of drA s0, hDq, rfl, by simp⟩, fun i H' hi h => ?_, fun H' h => ?_⟩
      · obtain ⟨ys, dsi, hq, hyl, hyb⟩ := h
        have hi3 : i < 3 := hi
        have nqd : Dq ≠ D.d := drA.ne nDq
        walk_at "rd"
        refine ⟨D, rfl, dsi.dr, fun v1 H4 a1 b1 s4 => ?_⟩
        walk_at "rd"
        refine ⟨D, rfl, s4.dr, fun v2 H5 a2 b2 s5 => ?_⟩
        replace s5 := s4.trans s5
        have hst5 := (dsi.trans s5).kp _ _ sd hstA
        walk_at "rd"
        refine n_acc (s5.kp _ _ nqd hq) (by rw [List.length_map]; omega) fun H6 k6 h6 => ⟨ys ++ [v1 * v2 % m], Ds.kpn drA nDq (dsi.trans s5) k6, by rw [h6, List.map_append]; rfl, by rw [List.length_append, hyl]; rfl, fun x hx => ?_⟩
        rcases List.mem_append.mp hx with q | q
        · exact hyb x q
        · rw [List.mem_singleton.mp q]
          exact md_bd _ m2
      · obtain ⟨ys, dsi, hq, hyl, hyb⟩ := h
        replace hyl : ys.length = 3 := hyl
        have hM : Mem m 3 ys := ⟨by omega, hyb⟩
        have lb := mem_lb hM m9 (by decide)
        have hw := writ_len (Int.le_refl _) lb.1
        have nqd : Dq ≠ D.d := drA.ne nDq
        have nqs : Dq ≠ st := (ne_of_none hstA nDq).symm
        have hst2 := dsi.kp _ _ sd hstA
        have dkd := hLS.dkd
        have skd := hLS.std
        have hdk2 := dsi.kp _ _ dkd hdkA
        walk_at "rd"
        refine n_setL hst2 (by decide) (by show (1 : Int) < ((2 : Nat) : Int); decide) fun H3 k3 h3 => ?_
        replace h3 : H3 st = some (.lst [.int m, .ref Dq]) := h3
        have hdk3 := k3 _ _ skd.symm hdk2
        have hq3 := k3 _ _ nqs hq
        have dr3 := dsi.dr.kps sd sl k3
        walk_at "rd"
        refine ⟨Dq, ys, rfl, hq3, lb, fun H4 s4 => ?_⟩
        refine n_addS (z := [109, 101, 109, 111, 114, 121, 32]) (by show 7 + _ ≤ _; omega) ?_
        walk_at "rd"
        refine .inr (.inl ⟨dk, m, ys, _, _, rfl, ⟨dx, s4 _ _ hdk3⟩, m2, m9, hM, fun l H5 nl k5 d5 h5 => ?_⟩)
        walk_at "rd"
        refine ⟨.s "ok", _, _, rfl, rfl, rfl, by decide, by decide, ?_⟩
        have hdk4 := s4 _ _ hdk3
        have hst4 := s4 _ _ h3
        have hq4 := s4 _ _ hq3
        have nld : l ≠ D.d := (dr3.same s4).ne nl
        have nls : l ≠ st := (ne_of_none hst4 nl).symm
        exact q H5 ys ⟨(dr3.same s4).kpi hdk4 k5, sd, sl, ⟨.ref l, d5, l, rfl, h5, nld, nls⟩, .ref Dq, k5 _ _ skd hst4, Dq, rfl, k5 _ _ (ne_of hq4 hdk4 (by intro z; cases z)) hq4, nqd, nqs⟩ hM (((kA.trans (K3.ds dsi)).trans (K3.ofs k3)).trans ((K3.same s4).trans (K3.ofd k5)))
    | some ms =>
      obtain ⟨a, rfl, ha, nad, nas⟩ := id lwA
      walk_at "rd"
      refine ⟨D, rfl, hLS.dr, fun v0 HA a0 b0 sA => ?_⟩
      have kA : K3 D dk st H HA := K3.ds sA
      have hLS0 := hLS.ds sA
      walk_at "rd"
      refine i_d2 (fun hc => ?_) (fun hc => ?_)
      · have hLS := hLS0
        clear hstA lwA
        obtain ⟨drA, sd, sl, ⟨cA, ⟨dx, hdkA⟩, lmA⟩, wA, hstA, lwA⟩ := id hLS
        replace hstA : HA st = some (.lst [.int m, wA]) := hstA
        walk_at "rd"
        refine n_lcR (by decide) fun Dq H0 nDq s0 hDq => ⟨fun i H' => ∃ ys : List Int, Ds D HA H' ∧ H' Dq = some (.lst (ys.map V.int)) ∧ ys.length = i ∧ ∀ x ∈ ys, 0 ≤ x ∧ x < m, ⟨[], Ds.of drA s0, hDq, rfl, by simp⟩, fun i H' hi h => ?_, fun H' h => ?_⟩
        · obtain ⟨ys, dsi, hq, hyl, hyb⟩ := h
          have hi3 : i < 3 := hi
          have nqd : Dq ≠ D.d := drA.ne nDq
          walk_at "rd"
          refine ⟨D, rfl, dsi.dr, fun v1 H4 a1 b1 s4 => ?_⟩
          walk_at "rd"
          refine ⟨D, rfl, s4.dr, fun v2 H5 a2 b2 s5 => ?_⟩
          replace s5 := s4.trans s5
          have hst5 := (dsi.trans s5).kp _ _ sd hstA
          walk_at "rd"
          refine n_acc (s5.kp _ _ nqd hq) (by rw [List.length_map]; omega) fun H6 k6 h6 => ⟨ys ++ [v1 * v2 % m], Ds.kpn drA nDq (dsi.trans s5) k6, by rw [h6, List.map_append]; rfl, by rw [List.length_append, hyl]; rfl, fun x hx => ?_⟩
          rcases List.mem_append.mp hx with q | q
          · exact hyb x q
          · rw [List.mem_singleton.mp q]
            exact md_bd _ m2
        · obtain ⟨ys, dsi, hq, hyl, hyb⟩ := h
          replace hyl : ys.length = 3 := hyl
          have hM : Mem m 3 ys := ⟨by omega, hyb⟩
          have lb := mem_lb hM m9 (by decide)
          have hw := writ_len (Int.le_refl _) lb.1
          have nqd : Dq ≠ D.d := drA.ne nDq
          have nqs : Dq ≠ st := (ne_of_none hstA nDq).symm
          have hst2 := dsi.kp _ _ sd hstA
          have dkd := hLS.dkd
          have skd := hLS.std
          have hdk2 := dsi.kp _ _ dkd hdkA
          walk_at "rd"
          refine n_setL hst2 (by decide) (by show (1 : Int) < ((2 : Nat) : Int); decide) fun H3 k3 h3 => ?_
          replace h3 : H3 st = some (.lst [.int m, .ref Dq]) := h3
          have hdk3 := k3 _ _ skd.symm hdk2
          have hq3 := k3 _ _ nqs hq
          have dr3 := dsi.dr.kps sd sl k3
          walk_at "rd"
          refine ⟨Dq, ys, rfl, hq3, lb, fun H4 s4 => ?_⟩
          refine n_addS (z := [109, 101, 109, 111, 114, 121, 32]) (by show 7 + _ ≤ _; omega) ?_
          walk_at "rd"
          refine .inr (.inl ⟨dk, m, ys, _, _, rfl, ⟨dx, s4 _ _ hdk3⟩, m2, m9, hM, fun l H5 nl k5 d5 h5 => ?_⟩)
          walk_at "rd"
          refine ⟨.s "ok", _, _, rfl, rfl, rfl, by decide, by decide, ?_⟩
          have hdk4 := s4 _ _ hdk3
          have hst4 := s4 _ _ h3
          have hq4 := s4 _ _ hq3
          have nld : l ≠ D.d := (dr3.same s4).ne nl
          have nls : l ≠ st := (ne_of_none hst4 nl).symm
          exact q H5 ys ⟨(dr3.same s4).kpi hdk4 k5, sd, sl, ⟨.ref l, d5, l, rfl, h5, nld, nls⟩, .ref Dq, k5 _ _ skd hst4, Dq, rfl, k5 _ _ (ne_of hq4 hdk4 (by intro z; cases z)) hq4, nqd, nqs⟩ hM (((kA.trans (K3.ds dsi)).trans (K3.ofs k3)).trans ((K3.same s4).trans (K3.ofd k5)))
      · walk_at "rd"
        exact q HA ms hLS0 (hxs ms rfl) kA
end
end Bf
namespace Bf
open PySem L2 SX TL
abbrev s__law_stops : Stmt := topS 84
theorem bi__law_stops : ∀ (kV doc pm : Value) (an : Option Addr) (cdv ct : Value) (us : List Value), us.length = 5 → bindArgs (PySem.W.fnOf "_law_stops" "_law_stops" (defArgs s__law_stops) (defBody s__law_stops) (defScope s__law_stops) .none kV doc pm an cdv ct) ⟨us, []⟩ = pure ((["_law_draws", "_law_desk", "_law_source_here", "_law_state", "_law_given"] : List Str).zip us) := fun _ _ _ _ _ _ us hl => match us, hl with | [_, _, _, _, _], _ => rfl
theorem sc__law_stops : FnScope ["_law_draws", "_law_desk", "_law_source_here", "_law_state", "_law_given", "_law_modulus_here", "_law_memory", "_law_price_here", "_law_worth", "_law_program", "_law_stop", "_law_middle", "_law_due"] ["_law_draws", "_law_desk", "_law_source_here", "_law_state", "_law_given"] (defScope s__law_stops) := C8.fnScope_by (by decide +kernel)
def spStops (C : Addr) : Sp := fun vs H Q _ => ∃ (D : DD) (dk st g : Addr) (m : Int) (mem given : List Int) (src : List Nd) (e : Ex) (s v : V), vs = [.ref D.d, .ref dk, v, .ref st, .ref g] ∧ LS C D dk st H (some m) (some mem) s ∧ Rp H (srcD src) v ∧ Rp H (srcD src) s ∧ SrcP src e ∧ 2 ≤ m ∧ m ≤ 1000000000 ∧ Mem m 3 mem ∧ H g = some (.lst (given.map V.int)) ∧ g ≠ D.d ∧ g ≠ st ∧ Mem m (needN src) given ∧
  ∀ H', LS C D dk st H' (some m) (some mem) s → K3 D dk st H H' → Q (.bl true) H'
theorem src_flat (src : List Nd) : (srcD src).flat = true := flats_map Nd.flat src
theorem stop_line {a b : List Nat} : [115, 116, 111, 112, 32] ++ a ++ [32] ++ b = joinL [32] [cStop, a, b] := by simp [joinL, cStop]
section
variable {P : Program} {w : World} {K : PySem.W.Frag} {mg : Str → Option Value} {base : Heap} {C CP : Addr}
theorem cal__law_stops (T : Gs mg) (c__law_draw : C8.Cal P w K mg base 2 "_law_draw" spDraw []) (c__law_price : C8.Cal P w K mg base 1 "_law_price" spPrice []) (c__law_meaning : C8.Cal P w K mg base 1 "_law_meaning" spMean []) (c_compile_source : C8.Cal P w K mg base 9 "compile_source" (spComp CP) []) (c__law_written : C8.Cal P w K mg base 1 "_law_written" spWritten [])
    (c__law_equal : C8.Cal P w K mg base 10 "_law_equal" (spEq 4) []) (m_do : C8.Met P w K mg base 13 C "do" (spDo C) []) (m_part : C8.Met P w K mg base 9 CP "part" (spPart CP) []) (m_run : C8.Met P w K mg base 5 CP "run" (spRun CP) []) (F : DefAt K mg "_law_stops" s__law_stops) : C8.Cal P w K mg base 14 "_law_stops" (spStops C) [] := by
  refine cal_of F sc__law_stops bi__law_stops (fun vs H Q E h => ?_) (fun f cdv A outer s H vs Q E hr h => ?_)
  · obtain ⟨D, dk, st, g, m, mem, given, src, e, s, v, rfl, _⟩ := h
    rfl
  · refine ⟨_, (pss_cons (ps_set (i := 5) sc__law_stops.nd rfl (by first | exact Or.inl rfl | exact Or.inr rfl) (pe_ix ix_seq (pv 3) pe_int (fun _ _ => rfl)))
      (pss_cons (ps_set (i := 6) sc__law_stops.nd rfl (by first | exact Or.inl rfl | exact Or.inr rfl) (pe_ix ix_seq (pv 3) pe_int (fun _ _ => rfl)))
      (pss_cons (ps_set (i := 7) sc__law_stops.nd rfl (by first | exact Or.inl rfl | exact Or.inr rfl) (C8.pe_c c__law_price hr (by first | decide | omega) rfl (pa_cons (pv 2) pa_nil)))
      (pss_cons (ps_set (i := 8) sc__law_stops.nd rfl (by first | exact Or.inl rfl | exact Or.inr rfl) (C8.pe_c c__law_meaning hr (by first | decide | omega) rfl (pa_cons (pv 2) (pa_cons (pv 5) (pa_cons (pv 4) pa_nil)))))
      (pss_cons (ps_set (i := 9) sc__law_stops.nd rfl (by first | exact Or.inl rfl | exact Or.inr rfl) (C8.pe_c c_compile_source hr (by first | decide | omega) rfl (pa_cons (pv 2) (pa_cons (pv 5) pa_nil))))
      (pss_cons (ps_for PassesOwn.never rfl (pi_list (pe_lst (pa_cons pe_int (pa_cons (pv 7) (pa_cons (pe_op op_mod (C8.pe_c c__law_draw hr (by first | decide | omega) rfl (pa_cons (pv 0) pa_nil)) (pe_op op_add (pv 7) pe_int)) pa_nil))))) (pg_name (i := 10) sc__law_stops.nd rfl (by first | exact Or.inl rfl | exact Or.inr rfl)) (pss_cons (ps_set (i := 11) sc__law_stops.nd rfl (by first | exact Or.inl rfl | exact Or.inr rfl) (C8.pe_mt m_run hr (by first | decide | omega) (C8.pe_mt m_part hr (by first | decide | omega) (pv 9) (pa_cons (pv 10) pa_nil)) (pa_cons (pe_callTy b_list (by rfl) T.n_list (by decide +kernel) (pa_cons (pv 6) pa_nil)) (pa_cons (pe_callTy b_list (by rfl) T.n_list (by decide +kernel) (pa_cons (pv 4) pa_nil)) pa_nil))))
      (pss_cons (ps_set (i := 12) sc__law_stops.nd rfl (by first | exact Or.inl rfl | exact Or.inr rfl) (pe_op op_addSt (pe_op op_addSt (C8.pe_c c__law_written hr (by first | decide | omega) rfl (pa_cons (pv 11) pa_nil)) pe_str) (C8.pe_c c__law_written hr (by first | decide | omega) rfl (pa_cons (pv 6) pa_nil))))
      (pss_cons (ps_if (pt_not (pt_val (C8.pe_c c__law_equal hr (by first | decide | omega) rfl (pa_cons (C8.pe_mt m_do hr (by first | decide | omega) (pv 1) (pa_cons (pe_op op_addSt (pe_op op_addSt (pe_op op_addSt pe_str (pe_callTy b_strI (by rfl) T.n_str (by decide +kernel) (pa_cons (pv 10) pa_nil))) pe_str) (C8.pe_c c__law_written hr (by first | decide | omega) rfl (pa_cons (pv 4) pa_nil))) pa_nil)) (pa_cons (pv 12) pa_nil))))) (pss_one (ps_ret pe_bl)) pss_nil)
      (pss_cons (ps_if (PW.pt (pw_and (pt_cmpR op_eq (pv 10) pe_int (nomark _)) (pw_and1 (pt_not (pt_val (C8.pe_c c__law_equal hr (by first | decide | omega) rfl (pa_cons (pv 11) (pa_cons (pv 6) pa_nil)))))))) (pss_one (ps_ret pe_bl)) pss_nil)
      (pss_one (ps_if (PW.pt (pw_and (pt_cmpR op_eq (pv 10) (pv 7) (nomark _)) (pw_and1 (pt_not (pt_val (C8.pe_c c__law_equal hr (by first | decide | omega) rfl (pa_cons (pv 11) (pa_cons (pe_lst (pa_cons (pe_op op_mod (pe_op op_add (pe_ix ix_seq (pv 6) pe_int (fun _ _ => rfl)) (pv 8)) (pv 5)) (pa_cons (pe_ix ix_seq (pv 6) pe_int (fun _ _ => rfl)) (pa_cons (pe_ix ix_seq (pv 6) pe_int (fun _ _ => rfl)) pa_nil)))) pa_nil)))))))) (pss_one (ps_ret pe_bl)) pss_nil)))))))
      (pss_one (ps_ret pe_bl)))))))), ?_⟩
    obtain ⟨D, dk, st, g, m, mem, given, src, e, s0, v, rfl, hLS, hv, hs, sp, m2, m9, hM, hg, ngd, ngs, hG, q⟩ := h
    have hsz : sizeLine = 2 ^ 24 := rfl
    have nb := need_bd sp.ok
    have hle := sp.le
    have lb := mem_lb hM m9 (by decide)
    have hw := writ_len (Int.le_refl _) lb.1
    have hml := hM.1
    have lbg := given_lb hG nb.2
    have hwg := writ_len m9 lbg.1
    have lbg9 : Lb 1000000000 given := ⟨fun x hx => ⟨(lbg.1 x hx).1, by have := (lbg.1 x hx).2; omega⟩, lbg.2⟩
    have hgl := hG.1
    have hlt : litThen.length = 6 := rfl
    have hvb := val_bd m2 hG (fun k i h => needs_in (m := 0) h) sp.un
    obtain ⟨wA, hstA, a, ewA, ha, nad, nas⟩ := hLS.st_
    subst ewA
    replace hstA : H st = some (.lst [.int m, .ref a]) := hstA
    walk_at "rd"
    refine ⟨src, e, v, rfl, hv, sp, fun H1 s1 => ?_⟩
    walk_at "rd"
    refine ⟨src, e, v, m, g, given, rfl, hv.same s1, sp, m2, m9, s1 _ _ hg, hG, fun H2 s2 => ?_⟩
    replace s2 := s1.trans s2
    walk_at "rd"
    refine ⟨src, e, v, m, rfl, hv.same s2, sp.ok, sp.l1, sp.l2, sp.un, sp.le, m2, m9, fun y H3 s3 pr vp => ?_⟩
    replace s3 := s2.trans s3
    have hLS3 := hLS.same s3
    walk_at "rd"
    refine ⟨D, rfl, hLS3.dr, fun v4 H4 a4 b4 s4 => ?_⟩
    have p4 := mod_bd v4 (b := (e.cost : Int) + 1) (by omega)
    have hLS4 := hLS3.ds s4
    have pr4 := hLS3.prg (by simp) pr (K3.ds s4)
    walk_at "rd"
    refine n_lst (Nat.le_of_ble_eq_true rfl) fun rl HR nl sR hrl => ?_
    have hLSR := hLS4.same sR
    have prR := pr4.same sR
    have kR : K3 D dk st H HR := (K3.same s3).trans ((K3.ds s4).trans (K3.same sR))
    obtain ⟨nld, nls⟩ := hLS4.new nl
    have haR := hLS.lst ha nad nas kR
    have hgR := hLS.lst hg ngd ngs kR
    have hsR := hs.tk (hLS.tk kR) (src_flat src)
    refine n_forL (xs := [.int 0, .int e.cost, .int (v4 % ((e.cost : Int) + 1))]) (fun i σ H' => ∃ u10 u11 u12 : Option V, σ = [some (.ref D.d), some (.ref dk), some v, some (.ref st), some (.ref g), some (.int m), some (.ref a), some (.int e.cost), some (.int (e.val m given)), some (.ref y), u10, u11, u12] ∧ LS C D dk st H' (some m) (some mem) s0 ∧ K3 D dk st HR H' ∧ Prg CP H' y m 3 (needN src) (stp m e 0 1 none 1)) hrl
      ⟨_, _, _, rfl, hLSR, K3.refl, prR⟩ (fun i σ H' _ h => by
        obtain ⟨_, _, _, _, _, kk, _⟩ := h
        exact SqL.of (hLSR.lst hrl nld nls kk)) ?_ ?_
    · rintro i x σ H5 hx ⟨u10, u11, u12, rfl, hLS5, kR5, pr5⟩
      obtain ⟨n, rfl, hn⟩ : ∃ n : Nat, x = .int n ∧ n ≤ e.cost := by
        rcases i with _ | _ | _ | i
        · exact ⟨0, by simpa using hx.symm, Nat.zero_le _⟩
        · exact ⟨e.cost, by simpa using hx.symm, Nat.le_refl _⟩
        · refine ⟨(v4 % ((e.cost : Int) + 1)).toNat, ?_, by omega⟩
          have hx' : V.int (v4 % ((e.cost : Int) + 1)) = x := by simpa using hx
          rw [← hx']
          congr 1
          omega
        · simp at hx
      have ha5 := hLSR.lst haR nad nas kR5
      have hg5 := hLSR.lst hgR ngd ngs kR5
      have hs5 := hsR.tk (hLSR.tk kR5) (src_flat src)
      have hk : (0 : Int) ≤ (n : Int) ∧ (n : Int) ≤ (stp m e 0 1 none 1).length := ⟨by omega, by rw [stp_len]; omega⟩
      walk_at "rd"
      refine n_part pr5 vp (by with_unfolding_all rfl) hk fun z H6 s6 prz => ?_
      rw [Int.toNat_natCast] at prz
      have vpt := vp.take n
      walk_at "rd"
      refine n_methP prz (fun _ => by with_unfolding_all rfl) ?_
      walk_at "rd"
      refine n_listL (s6 _ _ ha5) fun l1 H7 nl1 t7 hl1 => ?_
      have s7 := s6.trans t7
      walk_at "rd"
      refine n_listL (s7 _ _ hg5) fun l2 H8 nl2 t8 hl2 => ?_
      have s8 := s7.trans t8
      refine ⟨z, l1, l2, m, 3, _, _, mem, given, rfl, (prz.same t7).same t8, vpt, t8 _ _ hl1, hl2, hM, hG, fun qm H9 nqm t9 hqm => ?_⟩
      have s9 := s8.trans t9
      have hMm := runs_mem m2 hM vpt.ok (given := given)
      have lbm := mem_lb hMm m9 (by decide)
      have hwm := writ_len (Int.le_refl _) lbm.1
      have hmml := hMm.1
      walk_at "rd"
      refine ⟨qm, _, rfl, hqm, lbm, fun H91 s91 => ?_⟩
      walk_at "rd"
      refine n_addS (w := litThen) (by omega) ?_
      walk_at "rd"
      refine ⟨a, mem, rfl, s91 _ _ (s9 _ _ ha5), lb, fun H92 s92 => ?_⟩
      refine n_addS (by rw [List.length_append]; omega) ?_
      have s592 := s9.trans (s91.trans s92)
      obtain ⟨c, ⟨dx, hx5⟩, l, ec, hl5, nlcd, nlcs⟩ := hLS5.dk_
      subst ec
      replace hx5 : H5 dk = some (.ins C dx [("modulus", .int m), ("content", .ref l), ("source", s0)]) := hx5
      have hx92 := s592 _ _ hx5
      have hnn := num9 (n := n) (by omega)
      walk_at "rd"
      refine n_str (n := n) (by omega) ?_
      refine n_addS (z := [115, 116, 111, 112, 32]) (by show 5 + _ ≤ _; omega) ?_
      walk_at "rd"
      refine n_addS (w := [32]) (by rw [List.length_append]; show 5 + _ + 1 ≤ _; omega) ?_
      walk_at "rd"
      refine ⟨g, given, rfl, s592 _ _ hg5, lbg9, fun H93 s93 => ?_⟩
      refine n_addS (by rw [List.length_append, List.length_append]; show 5 + _ + 1 + _ ≤ _; omega) ?_
      have s59 : Same H5 H93 := s592.trans s93
      have hx9 := s93 _ _ hx92
      rw [stop_line]
      walk_at "rd"
      refine .inr (.inr (.inr (.inr (.inr ⟨dk, l, src, e, m, n, s0, mem, given, rfl, ⟨dx, hx9⟩, hs5.same s59, sp, m2, m9, s59 _ _ hl5, hM, hG, hn, fun q2 H10 nq2 k10 d10 hq2 => ?_⟩))))
      have hLS93 := hLS5.same s59
      obtain ⟨n2d, n2s⟩ := hLS93.new nq2
      have hLS10 := hLS93.desk k10 d10 ⟨q2, rfl, hq2, n2d, n2s⟩
      have kR10 : K3 D dk st HR H10 := kR5.trans ((K3.same s59).trans (K3.ofd k10))
      have pr10 := hLS5.prg (by simp) pr5 ((K3.same s59).trans (K3.ofd k10))
      have hqm93 := (s91.trans (s92.trans s93)) _ _ hqm
      have hqm10 := k10 _ _ (ne_of hqm93 hx9 (by intro z; cases z)) hqm93
      walk_at "rd"
      refine ⟨.s _, _, _, rfl, rfl, rfl, Nat.zero_le _, Nat.zero_le _, ?_⟩
      clear hx5 hx92
      by_cases hn0 : (n : Int) = 0
      · have e0 : n = 0 := by omega
        subst e0
        have ha10' := k10 _ _ (ne_of (s59 _ _ ha5) hx9 (by intro z; cases z)) (s59 _ _ ha5)
        walk_at "rd"
        refine n_eqI (xs := mem) hqm10 ha10' (by omega) ?_
        walk_at "rd"
        obtain ⟨n, en⟩ : ∃ n : Nat, n = 0 := ⟨0, rfl⟩
        rw [← en] at hqm10 hn0 ⊢
        have ha10 := k10 _ _ (ne_of (s59 _ _ ha5) hx9 (by intro z; cases z)) (s59 _ _ ha5)
        by_cases hnc : (n : Int) = (e.cost : Int)
        · have hl0 := hM.1
          walk_at "rd"
          refine r_ixL ha10 (gt_V (i := 0) (by decide) (by omega)) ?_
          walk_at "rd"
          refine r_ixL ha10 (gt_V (i := 1) (by decide) (by omega)) ?_
          walk_at "rd"
          refine r_ixL ha10 (gt_V (i := 2) (by decide) (by omega)) ?_
          walk_at "rd"
          refine n_lst (Nat.le_of_ble_eq_true rfl) fun rz H11 nz s11 hz => ?_
          walk_at "rd"
          have etk : (stp m e 0 1 none 1).take n = stp m e 0 1 none 1 := by rw [show n = (stp m e 0 1 none 1).length by rw [stp_len]; omega, List.take_length]
          rw [etk, run_end m2 hM e] at hqm10
          refine n_eqI (xs := [(gt mem 0 + e.val m given) % m, gt mem 1, gt mem 2]) (s11 _ _ hqm10) hz (Nat.le_of_ble_eq_true rfl) ?_
          walk_at "rd"
          exact ⟨_, _, _, rfl, hLS10.same s11, kR10.trans (K3.same s11), pr10.same s11⟩
        · walk_at "rd"
          exact ⟨_, _, _, rfl, hLS10, kR10, pr10⟩
      · walk_at "rd"
        have ha10 := k10 _ _ (ne_of (s59 _ _ ha5) hx9 (by intro z; cases z)) (s59 _ _ ha5)
        by_cases hnc : (n : Int) = (e.cost : Int)
        · have hl0 := hM.1
          walk_at "rd"
          refine r_ixL ha10 (gt_V (i := 0) (by decide) (by omega)) ?_
          walk_at "rd"
          refine r_ixL ha10 (gt_V (i := 1) (by decide) (by omega)) ?_
          walk_at "rd"
          refine r_ixL ha10 (gt_V (i := 2) (by decide) (by omega)) ?_
          walk_at "rd"
          refine n_lst (Nat.le_of_ble_eq_true rfl) fun rz H11 nz s11 hz => ?_
          walk_at "rd"
          have etk : (stp m e 0 1 none 1).take n = stp m e 0 1 none 1 := by rw [show n = (stp m e 0 1 none 1).length by rw [stp_len]; omega, List.take_length]
          rw [etk, run_end m2 hM e] at hqm10
          refine n_eqI (xs := [(gt mem 0 + e.val m given) % m, gt mem 1, gt mem 2]) (s11 _ _ hqm10) hz (Nat.le_of_ble_eq_true rfl) ?_
          walk_at "rd"
          exact ⟨_, _, _, rfl, hLS10.same s11, kR10.trans (K3.same s11), pr10.same s11⟩
        · walk_at "rd"
          exact ⟨_, _, _, rfl, hLS10, kR10, pr10⟩
    · rintro σ H5 ⟨u10, u11, u12, rfl, hLS5, kR5, pr5⟩
      walk_at "rd"
      exact q H5 hLS5 (kR.trans kR5)
end
end Bf
namespace Bf
open PySem L2 SX TL
abbrev s_law : Stmt := topS 87
theorem bi_law : ∀ (kV doc pm : Value) (an : Option Addr) (cdv ct : Value) (us : List Value), us.length = 1 → bindArgs (PySem.W.fnOf "law" "law" (defArgs s_law) (defBody s_law) (defScope s_law) .none kV doc pm an cdv ct) ⟨us, []⟩ = pure ((["_law_script"] : List Str).zip us) := fun _ _ _ _ _ _ us hl => match us, hl with | [_], _ => rfl
theorem sc_law : FnScope ["_law_script", "_law_draws", "_law_desk", "_law_state", "_law_turn", "_law_source_here", "_law_again", "_law_given", "_law_k", "_law_worth", "_law_due"] ["_law_script"] (defScope s_law) := C8.fnScope_by (by decide +kernel)
def spLaw (K : PySem.W.Frag) : Sp := fun vs H Q _ => ∃ (xs : List Int) (p : Addr), vs = [.ref p] ∧ SqL K H p (xs.map V.int) ∧ xs.length ≤ 100 ∧ ∀ H', Q (.bl true) H'
section
variable {P : Program} {w : World} {K : PySem.W.Frag} {mg : Str → Option Value} {base : Heap} {C CP : Addr}
theorem ok_law {f : Addr} {fd : FuncData} (T : Gs mg) (c__law_numbers : C8.Cal P w K mg base 2 "_law_numbers" (spNumbers K) []) (c__law_draw : C8.Cal P w K mg base 2 "_law_draw" spDraw []) (c_Desk : C8.Mak P w K mg base 1 "Desk" C (spDInit C) []) (c__law_modulus : C8.Cal P w K mg base 3 "_law_modulus" spModulus [])
    (c__law_equal : C8.Cal P w K mg base 10 "_law_equal" (spEq 4) []) (m_do : C8.Met P w K mg base 13 C "do" (spDo C) []) (c__law_memory_anew : C8.Cal P w K mg base 14 "_law_memory_anew" (spAnew C) []) (c__law_any_source : C8.Cal P w K mg base 5 "_law_any_source" spAny []) (c__law_text : C8.Cal P w K mg base 1 "_law_text" spLText []) (c__law_price : C8.Cal P w K mg base 1 "_law_price" spPrice [])
    (c__law_needs : C8.Cal P w K mg base 1 "_law_needs" spLNeeds []) (c__law_meaning : C8.Cal P w K mg base 1 "_law_meaning" spMean []) (c__law_written : C8.Cal P w K mg base 1 "_law_written" spWritten []) (c__law_stops : C8.Cal P w K mg base 14 "_law_stops" (spStops C) [])
    (F : FunD K "law" "law" (defArgs s_law) (defBody s_law) (defScope s_law) [] [] f fd) : FnOk P w K mg base CX0 15 f fd ["_law_script"] (spLaw K) := by
  refine fn_of F sc_law (fun vs H Q E h => ?_) (fun cdv A outer s H vs Q E hr h => ?_)
  · obtain ⟨xs, p, rfl, _⟩ := h
    rfl
  · refine ⟨_, (pss_cons (ps_set (i := 1) sc_law.nd rfl (by first | exact Or.inl rfl | exact Or.inr rfl) (pe_lst (pa_cons (C8.pe_c c__law_numbers hr (by first | decide | omega) rfl (pa_cons (pv 0) pa_nil)) (pa_cons pe_int pa_nil))))
      (pss_cons (ps_set (i := 2) sc_law.nd rfl (by first | exact Or.inl rfl | exact Or.inr rfl) (Bf.pe_mk0 c_Desk hr (by first | decide | omega) rfl))
      (pss_cons (ps_set (i := 3) sc_law.nd rfl (by first | exact Or.inl rfl | exact Or.inr rfl) (pe_lst (pa_cons pe_non (pa_cons pe_non pa_nil))))
      (pss_cons (ps_for PassesOwn.never rfl (pi_range1 rfl T.n_range (pa_cons (pe_op op_add pe_int (pe_op op_mod (C8.pe_c c__law_draw hr (by first | decide | omega) rfl (pa_cons (pv 1) pa_nil)) pe_int)) pa_nil)) (pg_name (i := 4) sc_law.nd rfl (by first | exact Or.inl rfl | exact Or.inr rfl)) (C8.pss_cut (ps_if (PW.pt (pw_or (pt_cmpR op_isNn (pe_ix ix_seq (pv 3) pe_int (fun _ _ => rfl)) pe_non (nomark _)) (pw_or1 (pt_cmpR op_eq (pe_op op_mod (C8.pe_c c__law_draw hr (by first | decide | omega) rfl (pa_cons (pv 1) pa_nil)) pe_int) pe_int (nomark _))))) (pss_cons (ps_asg (C8.pe_c c__law_modulus hr (by first | decide | omega) rfl (pa_cons (pv 1) pa_nil)) (pg_sub (pv 3) pe_int set_list))
      (pss_cons (ps_asg pe_non (pg_sub (pv 3) pe_int set_list))
      (pss_one (ps_if (pt_not (pt_val (C8.pe_c c__law_equal hr (by first | decide | omega) rfl (pa_cons (C8.pe_mt m_do hr (by first | decide | omega) (pv 2) (pa_cons (pe_op op_addSt pe_str (pe_callTy b_strI (by rfl) T.n_str (by decide +kernel) (pa_cons (pe_ix ix_seq (pv 3) pe_int (fun _ _ => rfl)) pa_nil))) pa_nil)) (pa_cons pe_str pa_nil))))) (pss_one (ps_ret pe_bl)) pss_nil)))) pss_nil)
      (C8.pss_cut (ps_if (PW.pt (pw_and (pt_cmpR op_eq (pe_op op_mod (C8.pe_c c__law_draw hr (by first | decide | omega) rfl (pa_cons (pv 1) pa_nil)) pe_int) pe_int (nomark _)) (pw_and1 (pt_not (pt_val (C8.pe_c c__law_memory_anew hr (by first | decide | omega) rfl (pa_cons (pv 1) (pa_cons (pv 2) (pa_cons (pv 3) pa_nil))))))))) (pss_one (ps_ret pe_bl)) pss_nil)
      (pss_cons (ps_set (i := 5) sc_law.nd rfl (by first | exact Or.inl rfl | exact Or.inr rfl) (C8.pe_c c__law_any_source hr (by first | decide | omega) rfl (pa_cons (pv 1) pa_nil)))
      (pss_cons (ps_if (pt_not (pt_val (C8.pe_c c__law_equal hr (by first | decide | omega) rfl (pa_cons (C8.pe_mt m_do hr (by first | decide | omega) (pv 2) (pa_cons (pe_op op_addSt pe_str (C8.pe_c c__law_text hr (by first | decide | omega) rfl (pa_cons (pv 5) pa_nil))) pa_nil)) (pa_cons pe_str pa_nil))))) (pss_one (ps_ret pe_bl)) pss_nil)
      (pss_cons (ps_if (pt_not (pt_val (C8.pe_c c__law_equal hr (by first | decide | omega) rfl (pa_cons (C8.pe_mt m_do hr (by first | decide | omega) (pv 2) (pa_cons pe_str pa_nil)) (pa_cons (pe_callTy b_strI (by rfl) T.n_str (by decide +kernel) (pa_cons (C8.pe_c c__law_price hr (by first | decide | omega) rfl (pa_cons (pv 5) pa_nil)) pa_nil)) pa_nil))))) (pss_one (ps_ret pe_bl)) pss_nil)
      (pss_one (ps_for PassesOwn.never rfl (pi_range1 rfl T.n_range (pa_cons pe_int pa_nil)) (pg_name (i := 6) sc_law.nd rfl (by first | exact Or.inl rfl | exact Or.inr rfl)) (pss_cons (ps_if (pt_not (pt_val (C8.pe_c c__law_memory_anew hr (by first | decide | omega) rfl (pa_cons (pv 1) (pa_cons (pv 2) (pa_cons (pv 3) pa_nil)))))) (pss_one (ps_ret pe_bl)) pss_nil)
      (pss_cons (ps_setLc (i := 7) (own := [("_law_k", 8)]) (g := gName 8) (tt := tYes) rfl sc_law.nd rfl rfl (sw_true rfl rfl rfl (by decide +kernel)) (pi_range1 rfl T.n_range (pa_cons (C8.pe_c c__law_needs hr (by first | decide | omega) rfl (pa_cons (pv 5) pa_nil)) pa_nil)) (blkOk_by (by first | decide +kernel | kernel_rfl)) (fun _ _ _ _ _ => pg_name (i := 8) sc_law.nd rfl (by first | exact Or.inl rfl | exact Or.inr rfl)) (fun _ _ _ _ _ => pts_nil) (fun _ _ _ _ _ => (pe_op op_mod (pe_op op_mul (C8.pe_c c__law_draw hr (by first | decide | omega) rfl (pa_cons (pv 1) pa_nil)) (C8.pe_c c__law_draw hr (by first | decide | omega) rfl (pa_cons (pv 1) pa_nil))) (pe_ix (ix_seqK (K := K) rfl) (pv 3) pe_int (fun _ _ => rfl)))))
      (pss_cons (ps_set (i := 9) sc_law.nd rfl (by first | exact Or.inl rfl | exact Or.inr rfl) (C8.pe_c c__law_meaning hr (by first | decide | omega) rfl (pa_cons (pv 5) (pa_cons (pe_ix ix_seq (pv 3) pe_int (fun _ _ => rfl)) (pa_cons (pv 7) pa_nil)))))
      (pss_cons (ps_set (i := 10) sc_law.nd rfl (by first | exact Or.inl rfl | exact Or.inr rfl) (pe_op op_addSt (pe_op op_addSt (pe_callTy b_strI (by rfl) T.n_str (by decide +kernel) (pa_cons (pv 9) pa_nil)) pe_str) (C8.pe_c c__law_written hr (by first | decide | omega) rfl (pa_cons (pe_ix ix_seq (pv 3) pe_int (fun _ _ => rfl)) pa_nil))))
      (pss_cons (ps_if (pt_not (pt_val (C8.pe_c c__law_equal hr (by first | decide | omega) rfl (pa_cons (C8.pe_mt m_do hr (by first | decide | omega) (pv 2) (pa_cons (pe_op op_addSt pe_str (C8.pe_c c__law_written hr (by first | decide | omega) rfl (pa_cons (pv 7) pa_nil))) pa_nil)) (pa_cons (pv 10) pa_nil))))) (pss_one (ps_ret pe_bl)) pss_nil)
      (pss_one (ps_if (pt_not (pt_val (C8.pe_c c__law_stops hr (by first | decide | omega) rfl (pa_cons (pv 1) (pa_cons (pv 2) (pa_cons (pv 5) (pa_cons (pv 3) (pa_cons (pv 7) pa_nil)))))))) (pss_one (ps_ret pe_bl)) pss_nil)))))))))))))))
      (pss_one (ps_ret pe_bl)))))), ?_⟩
    obtain ⟨xs0, p, rfl, hp, hlen, k⟩ := h
    have hsz : sizeLine = 2 ^ 24 := rfl
    walk_at "rd"
    refine ⟨xs0, p, rfl, hp, hlen, fun l ns H1 nl s1 hl hns => ?_⟩
    walk_at "rd"
    refine n_lst (Nat.le_of_ble_eq_true rfl) fun d H2 nd s2 hd => ?_
    have dr : Drw ⟨d, l, ns⟩ H2 := ⟨⟨0, hd, by decide⟩, s2 _ _ hl, hns⟩
    generalize hDD : (⟨d, l, ns⟩ : DD) = D at dr
    have hDd : d = D.d := by rw [← hDD]
    subst hDd
    walk_at "rd"
    refine n_make fun dk dx0 H3 ndk s3 hdk => ?_
    refine ⟨dk, dx0, rfl, hdk, fun H4 k4 d4 => ⟨rfl, ?_⟩⟩
    have dr4 := (dr.same s3).kpi hdk k4
    walk_at "rd"
    refine n_lst (Nat.le_of_ble_eq_true rfl) fun st H5 nst s5 hst => ?_
    have hLS0 : LS C D dk st H5 none none .non := ⟨dr4.same s5, dr4.ne nst, dr4.nel nst, ⟨.non, d4.same s5, rfl⟩, .non, hst, rfl⟩
    walk_at "rd"
    refine ⟨D, rfl, hLS0.dr, fun v0 H6 a0 b0 s6 => ?_⟩
    have p0 := mod_bd v0 (b := 3) (by decide)
    have hLS6 := hLS0.ds s6
    clear hst hLS0
    walk_at "rd"
    refine n_forR (fun i σ H' => ∃ (u4 u5 u6 u7 u8 u9 u10 : Option V) (mo : Option Int) (xs : Option (List Int)) (s : V), σ = [some (.ref p), some (.ref D.d), some (.ref dk), some (.ref st), u4, u5, u6, u7, u8, u9, u10] ∧ LS C D dk st H' mo xs s ∧ ∀ m, mo = some m → 2 ≤ m ∧ m ≤ 1000000000 ∧ ∀ l, xs = some l → Mem m 3 l) (by omega)
      ⟨_, _, _, _, _, _, _, none, none, .non, rfl, hLS6, fun m h => by cases h⟩ ?_ ?_
    · rintro i σ HA hi ⟨u4, u5, u6, u7, u8, u9, u10, mo, xs, s, rfl, hLS, hmo⟩
      walk_at "rd"
      refine ⟨fun σ' H' => ∃ (m : Int) (xs : Option (List Int)) (s : V), σ' = [some (.ref p), some (.ref D.d), some (.ref dk), some (.ref st), some (.int i), u5, u6, u7, u8, u9, u10] ∧ LS C D dk st H' (some m) xs s ∧ 2 ≤ m ∧ m ≤ 1000000000 ∧ ∀ l, xs = some l → Mem m 3 l, ?_, ?_⟩
      · obtain ⟨w0, hst0, lw0⟩ := hLS.st_
        cases mo with
        | none =>
          replace hst0 : HA st = some (.lst [.non, w0]) := hst0
          walk_at "rd"
          clear hst0
          obtain ⟨drA, sd, sl, ⟨cA, ⟨dx, hxA⟩, lcA⟩, wA, hstA, lwA⟩ := id hLS
          walk_at "rd"
          refine ⟨D, rfl, drA, fun m H4 m2 m9 s4 => ?_⟩
          have skd := hLS.std
          have hst4 := s4.kp _ _ sd hstA
          have hx4 := s4.kp _ _ hLS.dkd hxA
          have dr4 := s4.dr
          clear hstA hxA
          walk_at "rd"
          refine n_setL hst4 (by decide) (by show (0 : Int) < ((2 : Nat) : Int); decide) fun H5 k5 h5 => ?_
          replace h5 : H5 st = some (.lst [.int m, wA]) := h5
          have hx5 := k5 _ _ skd.symm hx4
          clear hst4 hx4
          walk_at "rd"
          refine n_setL h5 (by decide) (by show (1 : Int) < ((2 : Nat) : Int); decide) fun H6 k6 h6 => ?_
          replace h6 : H6 st = some (.lst [.int m, .non]) := h6
          have hx6 := k6 _ _ skd.symm hx5
          have dr6 := (dr4.kps sd sl k5).kps sd sl k6
          have hml := numL_len (n := m.toNat) (k := 10) (by decide) (by omega)
          clear h5 hx5
          walk_at "rd"
          refine n_strZ (by omega) (by omega) ?_
          refine n_addS (z := [109, 111, 100, 117, 108, 117, 115, 32]) (by show 8 + _ ≤ _; omega) ?_
          walk_at "rd"
          refine .inl ⟨dk, m.toNat, _, _, _, rfl, by omega, by omega, ⟨dx, hx6⟩, fun H7 k7 d7 => ?_⟩
          rw [Int.toNat_of_nonneg (by omega)] at d7
          walk_at "rd"
          refine ⟨.s "ok", _, _, rfl, rfl, rfl, by decide, by decide, ?_⟩
          walk_at "rd"
          exact ⟨m, none, .non, rfl, ⟨dr6.kpi hx6 k7, sd, sl, ⟨.non, d7, rfl⟩, .non, k7 _ _ skd h6, rfl⟩, m2, m9, fun l h => by cases h⟩
        | some m0 =>
          obtain ⟨m02, m09, hx0⟩ := hmo m0 rfl
          replace hst0 : HA st = some (.lst [.int m0, w0]) := hst0
          walk_at "rd"
          refine ⟨D, rfl, hLS.dr, fun v1 HB a1 b1 s1' => ?_⟩
          have hLSB := hLS.ds s1'
          clear hst0
          walk_at "rd"
          refine i_d2 (fun hc => ?_) (fun hc => ?_)
          · have hLS := hLSB
            obtain ⟨drA, sd, sl, ⟨cA, ⟨dx, hxA⟩, lcA⟩, wA, hstA, lwA⟩ := id hLS
            walk_at "rd"
            refine ⟨D, rfl, drA, fun m H4 m2 m9 s4 => ?_⟩
            have skd := hLS.std
            have hst4 := s4.kp _ _ sd hstA
            have hx4 := s4.kp _ _ hLS.dkd hxA
            have dr4 := s4.dr
            clear hstA hxA
            walk_at "rd"
            refine n_setL hst4 (by decide) (by show (0 : Int) < ((2 : Nat) : Int); decide) fun H5 k5 h5 => ?_
            replace h5 : H5 st = some (.lst [.int m, wA]) := h5
            have hx5 := k5 _ _ skd.symm hx4
            clear hst4 hx4
            walk_at "rd"
            refine n_setL h5 (by decide) (by show (1 : Int) < ((2 : Nat) : Int); decide) fun H6 k6 h6 => ?_
            replace h6 : H6 st = some (.lst [.int m, .non]) := h6
            have hx6 := k6 _ _ skd.symm hx5
            have dr6 := (dr4.kps sd sl k5).kps sd sl k6
            have hml := numL_len (n := m.toNat) (k := 10) (by decide) (by omega)
            clear h5 hx5
            walk_at "rd"
            refine n_strZ (by omega) (by omega) ?_
            refine n_addS (z := [109, 111, 100, 117, 108, 117, 115, 32]) (by show 8 + _ ≤ _; omega) ?_
            walk_at "rd"
            refine .inl ⟨dk, m.toNat, _, _, _, rfl, by omega, by omega, ⟨dx, hx6⟩, fun H7 k7 d7 => ?_⟩
            rw [Int.toNat_of_nonneg (by omega)] at d7
            walk_at "rd"
            refine ⟨.s "ok", _, _, rfl, rfl, rfl, by decide, by decide, ?_⟩
            walk_at "rd"
            exact ⟨m, none, .non, rfl, ⟨dr6.kpi hx6 k7, sd, sl, ⟨.non, d7, rfl⟩, .non, k7 _ _ skd h6, rfl⟩, m2, m9, fun l h => by cases h⟩
          · walk_at "rd"
            exact ⟨m0, xs, s, rfl, hLSB, m02, m09, hx0⟩
      · clear hLS hmo
        rintro σ' HB ⟨m, xs, s, rfl, hLS, m2, m9, hxs⟩
        refine ⟨fun σ' H' => ∃ (xs : Option (List Int)) (s : V), σ' = [some (.ref p), some (.ref D.d), some (.ref dk), some (.ref st), some (.int i), u5, u6, u7, u8, u9, u10] ∧ LS C D dk st H' (some m) xs s ∧ ∀ l, xs = some l → Mem m 3 l, ?_, ?_⟩
        · walk_at "rd"
          refine ⟨D, rfl, hLS.dr, fun v1 HC a1 b1 s1' => ?_⟩
          have hLSC := hLS.ds s1'
          walk_at "rd"
          refine i_d2 (fun hc => ?_) (fun hc => ?_)
          · walk_at "rd"
            refine ⟨D, dk, st, m, xs, s, rfl, hLSC, m2, m9, hxs, fun HD ys hLSD hMD kD => ?_⟩
            walk_at "rd"
            exact ⟨some ys, s, rfl, hLSD, fun l h => by cases h; exact hMD⟩
          · walk_at "rd"
            exact ⟨xs, s, rfl, hLSC, hxs⟩
        · clear hLS hxs
          rintro σ' HC ⟨xs, s, rfl, hLS, hxs⟩
          walk_at "rd"
          refine ⟨D, rfl, hLS.dr, fun v src e HD sp hv sD => ?_⟩
          have hLSD := hLS.ds sD
          have nb := need_bd sp.ok
          have hle := sp.le
          have hsl := srcL_len sp.ok sp.l2
          obtain ⟨c, ⟨dx, hxD⟩, lcD⟩ := hLSD.dk_
          replace hxD : HD dk = some (.ins C dx [("modulus", .int m), ("content", c), ("source", s)]) := hxD
          walk_at "rd"
          refine ⟨src, e, v, rfl, hv, sp, fun HE sE => ?_⟩
          refine n_addS (z := [115, 111, 117, 114, 99, 101, 32]) (by show 7 + _ ≤ _; omega) ?_
          walk_at "rd"
          have hxE := sE _ _ hxD
          clear hxD
          refine .inr (.inr (.inl ⟨dk, src, e, m, c, s, rfl, sp, ⟨dx, hxE⟩, fun v2 HF kF dF hv2 => ?_⟩))
          have hLSF := (hLSD.same sE).desk kF dF ((lcD.same sE).kpi hxE kF)
          have hvF := (hv.same sE).tk ((hLSD.same sE).tk (K3.ofd kF)) (src_flat src)
          walk_at "rd"
          refine ⟨.s "ok", _, _, rfl, rfl, rfl, by decide, by decide, ?_⟩
          obtain ⟨dxF, hxF⟩ := dF
          walk_at "rd"
          refine .inr (.inr (.inr (.inl ⟨dk, src, e, m, c, v2, rfl, ⟨dxF, hxF⟩, hv2, sp, m2, m9, fun HG sG => ?_⟩)))
          walk_at "rd"
          refine ⟨src, e, v, rfl, hvF.same sG, sp, fun HH sH => ?_⟩
          walk_at "rd"
          refine n_str (by omega) ?_
          walk_at "rd"
          refine ⟨.s _, _, _, rfl, rfl, rfl, Nat.zero_le _, Nat.zero_le _, ?_⟩
          have sGH := sG.trans sH
          have hLSH := hLSF.same sGH
          have hvH := hvF.same sGH
          have hv2H := hv2.same sGH
          clear hxF hxE
          walk_at "rd"
          refine n_forR (fun j σ H' => ∃ (u6 u7 u8 u9 u10 : Option V) (xs : Option (List Int)), σ = [some (.ref p), some (.ref D.d), some (.ref dk), some (.ref st), some (.int i), some v, u6, u7, u8, u9, u10] ∧ LS C D dk st H' (some m) xs v2 ∧ (∀ l, xs = some l → Mem m 3 l) ∧ Rp H' (srcD src) v ∧ Rp H' (srcD src) v2) (by decide)
            ⟨_, _, _, _, _, xs, rfl, hLSH, hxs, hvH, hv2H⟩ ?_ ?_
          · clear hLSH hLSF hLSD hLS hxs
            rintro j σ I1 hj ⟨u6, u7, u8, u9, u10, xs, rfl, hLS, hxs, hv1, hv21⟩
            walk_at "rd"
            refine ⟨D, dk, st, m, xs, v2, rfl, hLS, m2, m9, hxs, fun I2 ys hLS2 hM kk2 => ?_⟩
            have tk2 := hLS.tk kk2
            have hvv := hv1.tk tk2 (src_flat src)
            have hvw := hv21.tk tk2 (src_flat src)
            clear hLS
            have lb := mem_lb hM m9 (by decide)
            have hw := writ_len (Int.le_refl _) lb.1
            have hml := hM.1
            walk_at "rd"
            refine ⟨src, e, v, rfl, hvv, sp, fun I3 s3' => ?_⟩
            have hLS3 := hLS2.same s3'
            obtain ⟨w3, hst3, a3, ew3, ha3, na3, nas3⟩ := hLS3.st_
            subst ew3
            replace hst3 : I3 st = some (.lst [.int m, .ref a3]) := hst3
            refine n_lcR (by omega) fun Dq H0 nDq s0 hDq => ⟨fun i H' => ∃ ys : List Int, Ds D I3 H' ∧ H' Dq = some (.lst (ys.map V.int)) ∧ ys.length = i ∧ ∀ x ∈ ys, 0 ≤ x ∧ x < m, ⟨[], Ds.of hLS3.dr s0, hDq, rfl, by simp⟩, fun i H' hi h => ?_, fun I4 h => ?_⟩
            · obtain ⟨ys, dsi, hq, hyl, hyb⟩ := h
              have nqd : Dq ≠ D.d := hLS3.dr.ne nDq
              have hi60 : i < 60 := by omega
              walk_at "rd"
              refine ⟨D, rfl, dsi.dr, fun v1 H4 a1 b1 s4 => ?_⟩
              walk_at "rd"
              refine ⟨D, rfl, s4.dr, fun v2 H5 a2 b2 s5 => ?_⟩
              replace s5 := s4.trans s5
              have hst5 := (dsi.trans s5).kp _ _ hLS3.sd hst3
              walk_at "rd"
              refine n_acc (s5.kp _ _ nqd hq) (by rw [List.length_map]; omega) fun H6 k6 h6 => ⟨ys ++ [v1 * v2 % m], Ds.kpn hLS3.dr nDq (dsi.trans s5) k6, by rw [h6, List.map_append]; rfl, by rw [List.length_append, hyl]; rfl, fun x hx => ?_⟩
              rcases List.mem_append.mp hx with q | q
              · exact hyb x q
              · rw [List.mem_singleton.mp q]
                exact md_bd _ m2
            · obtain ⟨given, dsi, hq, hyl, hyb⟩ := h
              have hG : Mem m (needN src) given := ⟨by omega, hyb⟩
              obtain ⟨ngd, ngs⟩ := hLS3.new nDq
              have hLS4 := hLS3.ds dsi
              have k34 : K3 D dk st I3 I4 := K3.ds dsi
              have tk4 := hLS3.tk k34
              have hvv4 := (hvv.same s3').tk tk4 (src_flat src)
              have hvw4 := (hvw.same s3').tk tk4 (src_flat src)
              have hst4 := dsi.kp _ _ hLS3.sd hst3
              have ha4 := hLS3.lst ha3 na3 nas3 k34
              clear hst3 ha3
              have hvb := val_bd m2 hG (fun k i h => needs_in (m := 0) h) sp.un
              have hv9 := num9 (n := (e.val m given).toNat) (by omega)
              have hgl := hG.1
              have lbg := given_lb hG nb.2
              have hwg := writ_len m9 lbg.1
              have lbg9 : Lb 1000000000 given := ⟨fun x hx => ⟨(lbg.1 x hx).1, by have := (lbg.1 x hx).2; omega⟩, lbg.2⟩
              walk_at "rd"
              refine ⟨src, e, v, m, Dq, given, rfl, hvv4, sp, m2, m9, hq, hG, fun I5 s5 => ?_⟩
              have hst5 := s5 _ _ hst4
              clear hst4
              walk_at "rd"
              refine n_strZ hvb.1 (by omega) ?_
              walk_at "rd"
              refine n_addS (w := litMem) (by show _ + 8 ≤ _; omega) ?_
              walk_at "rd"
              refine ⟨a3, ys, rfl, s5 _ _ ha4, lb, fun I6 s6' => ?_⟩
              refine n_addS (by rw [List.length_append]; show _ + 8 + _ ≤ _; omega) ?_
              have s46 := s5.trans s6'
              have hLS6 := hLS4.same s46
              obtain ⟨c6, ⟨dx6, hx6⟩, lc6⟩ := hLS6.dk_
              obtain ⟨l6, rfl, hl6, nl6d, nl6s⟩ := lc6
              replace hx6 : I6 dk = some (.ins C dx6 [("modulus", .int m), ("content", .ref l6), ("source", v2)]) := hx6
              walk_at "rd"
              refine ⟨Dq, given, rfl, s46 _ _ hq, lbg9, fun I7 s7 => ?_⟩
              refine n_addS (z := [114, 117, 110, 32]) (by show 4 + _ ≤ _; omega) ?_
              have hx7 := s7 _ _ hx6
              clear hx6
              have s47 := s46.trans s7
              have hLS7 := hLS6.same s7
              walk_at "rd"
              refine .inr (.inr (.inr (.inr (.inl ⟨dk, l6, src, e, m, v2, ys, given, rfl, ⟨dx6, hx7⟩, hvw4.same s47, sp, m2, m9, s7 _ _ hl6, hM, hG, fun q8 I8 nq8 k8 d8 hq8 => ?_⟩))))
              obtain ⟨nq8d, nq8s⟩ := hLS7.new nq8
              have hLS8 := hLS7.desk k8 d8 ⟨q8, rfl, hq8, nq8d, nq8s⟩
              have k48 : K3 D dk st I4 I8 := (K3.same s47).trans (K3.ofd k8)
              have tk8 := hLS4.tk k48
              have hvv8 := hvv4.tk tk8 (src_flat src)
              have hvw8 := hvw4.tk tk8 (src_flat src)
              have hq48 := hLS4.lst hq ngd ngs k48
              walk_at "rd"
              refine ⟨.s _, _, _, rfl, rfl, rfl, Nat.zero_le _, Nat.zero_le _, ?_⟩
              walk_at "rd"
              refine ⟨D, dk, st, Dq, m, ys, given, src, e, v2, v, rfl, hLS8, hvv8, hvw8, sp, m2, m9, hM, hq48, ngd, ngs, hG, fun I9 hLS9 k9 => ?_⟩
              have tk9 := hLS8.tk k9
              walk_at "rd"
              exact ⟨_, _, _, _, _, some ys, rfl, hLS9, fun l h => by cases h; exact hM, hvv8.tk tk9 (src_flat src), hvw8.tk tk9 (src_flat src)⟩
          · rintro σ I1 ⟨u6, u7, u8, u9, u10, xs, rfl, hLS, hxs, hv1, hv21⟩
            walk_at "rd"
            exact ⟨_, _, _, _, _, _, _, some m, xs, v2, rfl, hLS, fun z h => by cases h; exact ⟨m2, m9, hxs⟩⟩
    · rintro σ HA ⟨u4, u5, u6, u7, u8, u9, u10, mo, xs, s, rfl, hLS, hmo⟩
      walk_at "rd"
      exact k _
end
end Bf
end
/-! a hook of tables and one more fact over the written part -/
namespace Bf
open PySem L2
/-- what the module's names reach in n steps, layer behind layer (an address may stand twice) -/
def lay (g : Addr → Option Obj) : Nat → List Addr → List Addr
  | 0, as => as
  | n + 1, as => as ++ lay g n (as.flatMap fun a => match g a with
    | some o => He.refsD o
    | none => [])
def fragY (g : Addr → Option Obj) (n : Nat) : PySem.W.Frag := He.frG g (lay g n [mainGlobals])
def obsY (fa : List He.Fa) (fn : List He.DefD) (ts : List He.Tab) (ex : PySem.W.Frag → Bool) (K : PySem.W.Frag) : He.AlT × Bool := (He.obsT fa fn ts K, ex K)
def hookY (n : Nat) (fa : List He.Fa) (fn : List He.DefD) (ts : List He.Tab) (ex : PySem.W.Frag → Bool) : PySem.W.Hook where
  α := He.AlT × Bool
  obs := fun s => obsY fa fn ts ex (fragY s.heap.get? n)
  val := fun w => (He.valT fn ts w, true)
  says := fun w h => ∃ K : PySem.W.Frag, K.In h ∧ He.SaysT fa fn ts w K ∧ ex K = true
  of := fun _ _ e => ⟨_, He.frG_in, congrArg (fun z : He.AlT × Bool => z.1) e, congrArg (fun z : He.AlT × Bool => z.2) e⟩
  keeps := fun _ _ _ ⟨K, hK, c⟩ k => ⟨K, PySem.W.Frag.In.keeps hK k, c⟩
end Bf
namespace Bf
open PySem L2
def ts : List He.Tab := [(fun K => He.ga K "LENGTHS", ["const", "input", "sum", "product", "scaled", "choose"])]
def tab : List (Str × He.Dv) := [("const", .int 2), ("input", .int 2), ("sum", .int 3), ("product", .int 3), ("scaled", .int 3), ("choose", .int 4)]
def ex (K : PySem.W.Frag) : Bool := He.valsB K (He.ga K "LENGTHS") tab
theorem len_of {K : PySem.W.Frag} {w : World} (h1 : ∃ es n, KDict K w (He.ga K "LENGTHS") es n) (h2 : ex K = true) : LenD K w (He.ga K "LENGTHS") := by
  refine ⟨h1, fun z k h => ?_⟩
  have one : ∀ {z : Str} {k : Int}, (z, He.Dv.int k) ∈ tab → ∃ t, PySem.W.nsIn K (He.ga K "LENGTHS") z = some (some (.int k t)) := fun {z k} hm => by
    obtain ⟨u, e1, t, e2⟩ := He.valsB_ok h2 hm
    subst e2
    exact ⟨t, e1⟩
  simp only [List.mem_cons, List.not_mem_nil, or_false, Prod.mk.injEq] at h
  rcases h with ⟨e1, e2⟩ | ⟨e1, e2⟩ | ⟨e1, e2⟩ | ⟨e1, e2⟩ | ⟨e1, e2⟩ | ⟨e1, e2⟩ <;> subst e1 e2 <;> exact one (by simp [tab])
abbrev s_points_of : Stmt := topS 17
abbrev s_check_program : Stmt := topS 18
abbrev s_check_size : Stmt := topS 19
abbrev s_column_of : Stmt := topS 20
abbrev s_added : Stmt := topS 21
abbrev s_ends : Stmt := topS 22
abbrev s_spoilt : Stmt := topS 23
abbrev s_leaky : Stmt := topS 24
abbrev s_judge : Stmt := topS 25
abbrev s_Program___add__ : Stmt := inClass (topS 42) 2
def d0 : He.DefD := ⟨("is_integer", none), "is_integer", "is_integer", defArgs s_is_integer, defBody s_is_integer, defScope s_is_integer, [], []⟩
def d1 : He.DefD := ⟨("is_number", none), "is_number", "is_number", defArgs s_is_number, defBody s_is_number, defScope s_is_number, [], []⟩
def d2 : He.DefD := ⟨("is_prime", none), "is_prime", "is_prime", defArgs s_is_prime, defBody s_is_prime, defScope s_is_prime, [], []⟩
def d3 : He.DefD := ⟨("inverse_of", none), "inverse_of", "inverse_of", defArgs s_inverse_of, defBody s_inverse_of, defScope s_inverse_of, [], []⟩
def d4 : He.DefD := ⟨("weights", none), "weights", "weights", defArgs s_weights, defBody s_weights, defScope s_weights, [], []⟩
def d5 : He.DefD := ⟨("interpolate", none), "interpolate", "interpolate", defArgs s_interpolate, defBody s_interpolate, defScope s_interpolate, [], []⟩
def d6 : He.DefD := ⟨("points_of", none), "points_of", "points_of", defArgs s_points_of, defBody s_points_of, defScope s_points_of, [], []⟩
def d7 : He.DefD := ⟨("check_program", none), "check_program", "check_program", defArgs s_check_program, defBody s_check_program, defScope s_check_program, [], []⟩
def d8 : He.DefD := ⟨("check_size", none), "check_size", "check_size", defArgs s_check_size, defBody s_check_size, defScope s_check_size, [], []⟩
def d9 : He.DefD := ⟨("column_of", none), "column_of", "column_of", defArgs s_column_of, defBody s_column_of, defScope s_column_of, [], []⟩
def d10 : He.DefD := ⟨("added", none), "added", "added", defArgs s_added, defBody s_added, defScope s_added, [], []⟩
def d11 : He.DefD := ⟨("ends", none), "ends", "ends", defArgs s_ends, defBody s_ends, defScope s_ends, [], []⟩
def d12 : He.DefD := ⟨("spoilt", none), "spoilt", "spoilt", defArgs s_spoilt, defBody s_spoilt, defScope s_spoilt, [], []⟩
def d13 : He.DefD := ⟨("leaky", none), "leaky", "leaky", defArgs s_leaky, defBody s_leaky, defScope s_leaky, [], []⟩
def d14 : He.DefD := ⟨("judge", none), "judge", "judge", defArgs s_judge, defBody s_judge, defScope s_judge, [], []⟩
def d15 : He.DefD := ⟨("is_factor", none), "is_factor", "is_factor", defArgs s_is_factor, defBody s_is_factor, defScope s_is_factor, [], []⟩
def d16 : He.DefD := ⟨("is_table", none), "is_table", "is_table", defArgs s_is_table, defBody s_is_table, defScope s_is_table, [], []⟩
def d17 : He.DefD := ⟨("is_add", none), "is_add", "is_add", defArgs s_is_add, defBody s_is_add, defScope s_is_add, [], []⟩
def d18 : He.DefD := ⟨("is_look", none), "is_look", "is_look", defArgs s_is_look, defBody s_is_look, defScope s_is_look, [], []⟩
def d19 : He.DefD := ⟨("is_step", none), "is_step", "is_step", defArgs s_is_step, defBody s_is_step, defScope s_is_step, [], []⟩
def d20 : He.DefD := ⟨("inverse_step", none), "inverse_step", "inverse_step", defArgs s_inverse_step, defBody s_inverse_step, defScope s_inverse_step, [], []⟩
def d21 : He.DefD := ⟨("perform", none), "perform", "perform", defArgs s_perform, defBody s_perform, defScope s_perform, [], []⟩
def d22 : He.DefD := ⟨("check_steps", none), "check_steps", "check_steps", defArgs s_check_steps, defBody s_check_steps, defScope s_check_steps, [], []⟩
def d23 : He.DefD := ⟨("check_numbers", none), "check_numbers", "check_numbers", defArgs s_check_numbers, defBody s_check_numbers, defScope s_check_numbers, [], []⟩
def d24 : He.DefD := ⟨("Program", some "__init__"), "__init__", "Program.__init__", defArgs s_Program___init__, defBody s_Program___init__, defScope s_Program___init__, [], []⟩
def d25 : He.DefD := ⟨("Program", some "__len__"), "__len__", "Program.__len__", defArgs s_Program___len__, defBody s_Program___len__, defScope s_Program___len__, [], []⟩
def d26 : He.DefD := ⟨("Program", some "__add__"), "__add__", "Program.__add__", defArgs s_Program___add__, defBody s_Program___add__, defScope s_Program___add__, [], []⟩
def d27 : He.DefD := ⟨("Program", some "__neg__"), "__neg__", "Program.__neg__", defArgs s_Program___neg__, defBody s_Program___neg__, defScope s_Program___neg__, [], []⟩
def d28 : He.DefD := ⟨("Program", some "run"), "run", "Program.run", defArgs s_Program_run, defBody s_Program_run, defScope s_Program_run, [], []⟩
def d29 : He.DefD := ⟨("Program", some "part"), "part", "Program.part", defArgs s_Program_part, defBody s_Program_part, defScope s_Program_part, [], []⟩
def d30 : He.DefD := ⟨("Program", some "called_back"), "called_back", "Program.called_back", defArgs s_Program_called_back, defBody s_Program_called_back, defScope s_Program_called_back, [], []⟩
def d31 : He.DefD := ⟨("is_node", none), "is_node", "is_node", defArgs s_is_node, defBody s_is_node, defScope s_is_node, [], []⟩
def d32 : He.DefD := ⟨("check_source", none), "check_source", "check_source", defArgs s_check_source, defBody s_check_source, defScope s_check_source, [], []⟩
def d33 : He.DefD := ⟨("needs", none), "needs", "needs", defArgs s_needs, defBody s_needs, defScope s_needs, [], []⟩
def d34 : He.DefD := ⟨("cost", none), "cost", "cost", defArgs s_cost, defBody s_cost, defScope s_cost, [], []⟩
def d35 : He.DefD := ⟨("parse_number", none), "parse_number", "parse_number", defArgs s_parse_number, defBody s_parse_number, defScope s_parse_number, [], []⟩
def d36 : He.DefD := ⟨("parse_index", none), "parse_index", "parse_index", defArgs s_parse_index, defBody s_parse_index, defScope s_parse_index, [], []⟩
def d37 : He.DefD := ⟨("parse_node", none), "parse_node", "parse_node", defArgs s_parse_node, defBody s_parse_node, defScope s_parse_node, [], []⟩
def d38 : He.DefD := ⟨("parse_source", none), "parse_source", "parse_source", defArgs s_parse_source, defBody s_parse_source, defScope s_parse_source, [], []⟩
def d39 : He.DefD := ⟨("leaf_step", none), "leaf_step", "leaf_step", defArgs s_leaf_step, defBody s_leaf_step, defScope s_leaf_step, [], []⟩
def d40 : He.DefD := ⟨("product_tasks", none), "product_tasks", "product_tasks", defArgs s_product_tasks, defBody s_product_tasks, defScope s_product_tasks, [], []⟩
def d41 : He.DefD := ⟨("inner_tasks", none), "inner_tasks", "inner_tasks", defArgs s_inner_tasks, defBody s_inner_tasks, defScope s_inner_tasks, [], []⟩
def d42 : He.DefD := ⟨("compile_source", none), "compile_source", "compile_source", defArgs s_compile_source, defBody s_compile_source, defScope s_compile_source, [], []⟩
def d43 : He.DefD := ⟨("answer", none), "answer", "answer", defArgs s_answer, defBody s_answer, defScope s_answer, [], []⟩
def d44 : He.DefD := ⟨("number_of", none), "number_of", "number_of", defArgs s_number_of, defBody s_number_of, defScope s_number_of, [], []⟩
def d45 : He.DefD := ⟨("list_of", none), "list_of", "list_of", defArgs s_list_of, defBody s_list_of, defScope s_list_of, [], []⟩
def d46 : He.DefD := ⟨("written", none), "written", "written", defArgs s_written, defBody s_written, defScope s_written, [], []⟩
def d47 : He.DefD := ⟨("Desk", some "__init__"), "__init__", "Desk.__init__", defArgs s_Desk___init__, defBody s_Desk___init__, defScope s_Desk___init__, [], []⟩
def d48 : He.DefD := ⟨("Desk", some "do"), "do", "Desk.do", defArgs s_Desk_do, defBody s_Desk_do, defScope s_Desk_do, [], []⟩
def d49 : He.DefD := ⟨("Desk", some "take_modulus"), "take_modulus", "Desk.take_modulus", defArgs s_Desk_take_modulus, defBody s_Desk_take_modulus, defScope s_Desk_take_modulus, [], []⟩
def d50 : He.DefD := ⟨("Desk", some "take_memory"), "take_memory", "Desk.take_memory", defArgs s_Desk_take_memory, defBody s_Desk_take_memory, defScope s_Desk_take_memory, [], []⟩
def d51 : He.DefD := ⟨("Desk", some "take_source"), "take_source", "Desk.take_source", defArgs s_Desk_take_source, defBody s_Desk_take_source, defScope s_Desk_take_source, [], []⟩
def d52 : He.DefD := ⟨("Desk", some "program"), "program", "Desk.program", defArgs s_Desk_program, defBody s_Desk_program, defScope s_Desk_program, [], []⟩
def d53 : He.DefD := ⟨("Desk", some "check"), "check", "Desk.check", defArgs s_Desk_check, defBody s_Desk_check, defScope s_Desk_check, [], []⟩
def d54 : He.DefD := ⟨("Desk", some "run"), "run", "Desk.run", defArgs s_Desk_run, defBody s_Desk_run, defScope s_Desk_run, [], []⟩
def d55 : He.DefD := ⟨("Desk", some "stop"), "stop", "Desk.stop", defArgs s_Desk_stop, defBody s_Desk_stop, defScope s_Desk_stop, [], []⟩
def d56 : He.DefD := ⟨("Desk", some "judged"), "judged", "Desk.judged", defArgs s_Desk_judged, defBody s_Desk_judged, defScope s_Desk_judged, [], []⟩
def d57 : He.DefD := ⟨("_law_mixed", none), "_law_mixed", "_law_mixed", defArgs s__law_mixed, defBody s__law_mixed, defScope s__law_mixed, [], []⟩
def d58 : He.DefD := ⟨("_law_numbers", none), "_law_numbers", "_law_numbers", defArgs s__law_numbers, defBody s__law_numbers, defScope s__law_numbers, [], []⟩
def d59 : He.DefD := ⟨("_law_draw", none), "_law_draw", "_law_draw", defArgs s__law_draw, defBody s__law_draw, defScope s__law_draw, [], []⟩
def d60 : He.DefD := ⟨("_law_equal", none), "_law_equal", "_law_equal", defArgs s__law_equal, defBody s__law_equal, defScope s__law_equal, [], []⟩
def d61 : He.DefD := ⟨("_law_all_equal", none), "_law_all_equal", "_law_all_equal", defArgs s__law_all_equal, defBody s__law_all_equal, defScope s__law_all_equal, [], []⟩
def d62 : He.DefD := ⟨("_law_source", none), "_law_source", "_law_source", defArgs s__law_source, defBody s__law_source, defScope s__law_source, [], []⟩
def d63 : He.DefD := ⟨("_law_meaning", none), "_law_meaning", "_law_meaning", defArgs s__law_meaning, defBody s__law_meaning, defScope s__law_meaning, [], []⟩
def d64 : He.DefD := ⟨("_law_needs", none), "_law_needs", "_law_needs", defArgs s__law_needs, defBody s__law_needs, defScope s__law_needs, [], []⟩
def d65 : He.DefD := ⟨("_law_text", none), "_law_text", "_law_text", defArgs s__law_text, defBody s__law_text, defScope s__law_text, [], []⟩
def d66 : He.DefD := ⟨("_law_written", none), "_law_written", "_law_written", defArgs s__law_written, defBody s__law_written, defScope s__law_written, [], []⟩
def d67 : He.DefD := ⟨("_law_price", none), "_law_price", "_law_price", defArgs s__law_price, defBody s__law_price, defScope s__law_price, [], []⟩
def d68 : He.DefD := ⟨("_law_modulus", none), "_law_modulus", "_law_modulus", defArgs s__law_modulus, defBody s__law_modulus, defScope s__law_modulus, [], []⟩
def d69 : He.DefD := ⟨("_law_long_source", none), "_law_long_source", "_law_long_source", defArgs s__law_long_source, defBody s__law_long_source, defScope s__law_long_source, [], []⟩
def d70 : He.DefD := ⟨("_law_stops", none), "_law_stops", "_law_stops", defArgs s__law_stops, defBody s__law_stops, defScope s__law_stops, [], []⟩
def d71 : He.DefD := ⟨("_law_memory_anew", none), "_law_memory_anew", "_law_memory_anew", defArgs s__law_memory_anew, defBody s__law_memory_anew, defScope s__law_memory_anew, [], []⟩
def d72 : He.DefD := ⟨("_law_any_source", none), "_law_any_source", "_law_any_source", defArgs s__law_any_source, defBody s__law_any_source, defScope s__law_any_source, [], []⟩
def d73 : He.DefD := ⟨("law", none), "law", "law", defArgs s_law, defBody s_law, defScope s_law, [], []⟩
def fn0 : List He.DefD := [d0, d1, d2, d3, d4, d5, d6, d7, d8, d9, d10, d11, d12, d13, d14, d15, d16, d17, d18, d19, d20, d21, d22, d23, d24, d25, d26, d27, d28, d29, d30, d31, d32, d33, d34, d35, d36, d37, d38, d39, d40, d41, d42, d43, d44, d45, d46, d47, d48, d49, d50, d51, d52, d53, d54, d55, d56, d57, d58, d59, d60, d61, d62, d63, d64, d65, d66, d67, d68, d69, d70, d71, d72, d73]
def fn : List He.DefD := fn0
def fa0 : List He.Fa := [.glo "BrimfulError", .glo "BadStep", .glo "BadMemory", .glo "BadSource", .glo "BadText", .glo "TooLong", .glo "BadLine", .glo "is_integer", .glo "is_number", .glo "is_prime", .glo "inverse_of", .glo "weights", .glo "interpolate", .int "MOST_judge" 400000, .glo "points_of", .glo "check_program", .glo "check_size", .glo "column_of", .glo "added", .glo "ends", .glo "spoilt", .glo "leaky", .glo "judge", .int "FACTORS" 3, .glo "is_factor", .glo "is_table", .glo "is_add", .glo "is_look", .glo "is_step", .glo "inverse_step"]
def fa1 : List He.Fa := [.glo "perform", .glo "check_steps", .int "MODULUS" 1000000000, .int "CELLS_programs" 60, .int "INPUTS_programs" 60, .int "STEPS" 20000, .glo "check_numbers", .glo "Program", .cls "Program", .mkr "Program", .meth "Program" "__init__", .meth "Program" "__len__", .meth "Program" "__add__", .meth "Program" "__neg__", .meth "Program" "run", .meth "Program" "part", .meth "Program" "called_back", .noat "Program" "modulus", .noat "Program" "cells", .noat "Program" "inputs", .noat "Program" "steps", .int "NODES" 200, .int "CONSTANT" 1000000000, .int "INPUTS_sources" 60, .glo "LENGTHS", .glo "is_node", .glo "check_source", .glo "needs", .glo "cost", .glo "parse_number"]
def fa2 : List He.Fa := [.glo "parse_index", .glo "parse_node", .glo "parse_source", .int "MOST_three" 20000, .glo "leaf_step", .glo "product_tasks", .glo "inner_tasks", .glo "compile_source", .glo "answer", .int "CELLS_desk" 3, .int "FIGURES" 40, .glo "number_of", .glo "list_of", .glo "written", .glo "Desk", .cls "Desk", .mkr "Desk", .meth "Desk" "__init__", .meth "Desk" "do", .meth "Desk" "take_modulus", .meth "Desk" "take_memory", .meth "Desk" "take_source", .meth "Desk" "program", .meth "Desk" "check", .meth "Desk" "run", .meth "Desk" "stop", .meth "Desk" "judged", .noat "Desk" "modulus", .noat "Desk" "content", .noat "Desk" "source"]
def fa3 : List He.Fa := [.glo "_law_mixed", .glo "_law_numbers", .glo "_law_draw", .glo "_law_equal", .glo "_law_all_equal", .glo "_law_source", .glo "_law_meaning", .glo "_law_needs", .glo "_law_text", .glo "_law_written", .glo "_law_price", .glo "_law_modulus", .glo "_law_long_source", .glo "_law_stops", .glo "_law_memory_anew", .glo "_law_any_source", .glo "law", .free "bool", .free "enumerate", .free "int", .free "isinstance", .free "len", .free "list", .free "max", .free "range", .free "str", .free "tuple", .free "zip"]
def fa : List He.Fa := fa0 ++ fa1 ++ fa2 ++ fa3
def loose0 : List PySem.Str := ["BrimfulError", "BadStep", "BadMemory", "BadSource", "BadText", "TooLong", "BadLine", "is_integer", "is_number", "is_prime", "inverse_of", "weights", "interpolate", "MOST_judge", "points_of", "check_program", "check_size", "column_of", "added", "ends", "spoilt", "leaky", "judge", "FACTORS", "is_factor", "is_table", "is_add", "is_look", "is_step", "inverse_step"]
def loose1 : List PySem.Str := ["perform", "check_steps", "MODULUS", "CELLS_programs", "INPUTS_programs", "STEPS", "check_numbers", "Program", "NODES", "CONSTANT", "INPUTS_sources", "LENGTHS", "is_node", "check_source", "needs", "cost", "parse_number", "parse_index", "parse_node", "parse_source", "MOST_three", "leaf_step", "product_tasks", "inner_tasks", "compile_source", "answer", "CELLS_desk", "FIGURES", "number_of", "list_of"]
def loose2 : List PySem.Str := ["written", "Desk", "_law_mixed", "_law_numbers", "_law_draw", "_law_equal", "_law_all_equal", "_law_source", "_law_meaning", "_law_needs", "_law_text", "_law_written", "_law_price", "_law_modulus", "_law_long_source", "_law_stops", "_law_memory_anew", "_law_any_source"]
def loose : List PySem.Str := loose0 ++ loose1 ++ loose2
abbrev R : PySem.W.OpenRow := PySem.W.OpenLaw.row PySem.Challenge.rw_brimful_k58_whole_desk
abbrev hk : PySem.W.Hook := hookY 5 fa fn ts ex
theorem facts {P : Program} {w : World} {K : PySem.W.Frag} {h : Heap} {mg : Str → Option Value} {f : Addr} (X : K.In h) (G : h.Ns mainGlobals mg) (hfa : mg ("law" : Str) = some (.ref f)) (cT : He.SaysT fa fn ts w K) (cx : ex K = true) :
    ∃ fd : FuncData, (∀ (s : Shared) (v : Value), BindsTo s fd ⟨[v], []⟩ [("_law_script", v)]) ∧ ∀ base : Heap, K.In base → base.Ns mainGlobals mg → FnOk P w K mg base CX0 15 f fd ["_law_script"] (spLaw K) := by
  have c := cT.d
  have T : Gs mg := {
      c_MOST_judge := by obtain ⟨t, e⟩ := He.int_ok X G (c.fact 13 (f := .int "MOST_judge" 400000) rfl); exact ⟨_, e, ⟨t, rfl⟩⟩
      c_FACTORS := by obtain ⟨t, e⟩ := He.int_ok X G (c.fact 23 (f := .int "FACTORS" 3) rfl); exact ⟨_, e, ⟨t, rfl⟩⟩
      c_MODULUS := by obtain ⟨t, e⟩ := He.int_ok X G (c.fact 32 (f := .int "MODULUS" 1000000000) rfl); exact ⟨_, e, ⟨t, rfl⟩⟩
      c_CELLS_programs := by obtain ⟨t, e⟩ := He.int_ok X G (c.fact 33 (f := .int "CELLS_programs" 60) rfl); exact ⟨_, e, ⟨t, rfl⟩⟩
      c_INPUTS_programs := by obtain ⟨t, e⟩ := He.int_ok X G (c.fact 34 (f := .int "INPUTS_programs" 60) rfl); exact ⟨_, e, ⟨t, rfl⟩⟩
      c_STEPS := by obtain ⟨t, e⟩ := He.int_ok X G (c.fact 35 (f := .int "STEPS" 20000) rfl); exact ⟨_, e, ⟨t, rfl⟩⟩
      c_NODES := by obtain ⟨t, e⟩ := He.int_ok X G (c.fact 51 (f := .int "NODES" 200) rfl); exact ⟨_, e, ⟨t, rfl⟩⟩
      c_CONSTANT := by obtain ⟨t, e⟩ := He.int_ok X G (c.fact 52 (f := .int "CONSTANT" 1000000000) rfl); exact ⟨_, e, ⟨t, rfl⟩⟩
      c_INPUTS_sources := by obtain ⟨t, e⟩ := He.int_ok X G (c.fact 53 (f := .int "INPUTS_sources" 60) rfl); exact ⟨_, e, ⟨t, rfl⟩⟩
      c_MOST_three := by obtain ⟨t, e⟩ := He.int_ok X G (c.fact 63 (f := .int "MOST_three" 20000) rfl); exact ⟨_, e, ⟨t, rfl⟩⟩
      c_CELLS_desk := by obtain ⟨t, e⟩ := He.int_ok X G (c.fact 69 (f := .int "CELLS_desk" 3) rfl); exact ⟨_, e, ⟨t, rfl⟩⟩
      c_FIGURES := by obtain ⟨t, e⟩ := He.int_ok X G (c.fact 70 (f := .int "FIGURES" 40) rfl); exact ⟨_, e, ⟨t, rfl⟩⟩
      n_bool := He.free_ok X G (c.fact 107 (f := .free "bool") rfl)
      n_enumerate := He.free_ok X G (c.fact 108 (f := .free "enumerate") rfl)
      n_int := He.free_ok X G (c.fact 109 (f := .free "int") rfl)
      n_isinstance := He.free_ok X G (c.fact 110 (f := .free "isinstance") rfl)
      n_len := He.free_ok X G (c.fact 111 (f := .free "len") rfl)
      n_list := He.free_ok X G (c.fact 112 (f := .free "list") rfl)
      n_max := He.free_ok X G (c.fact 113 (f := .free "max") rfl)
      n_range := He.free_ok X G (c.fact 114 (f := .free "range") rfl)
      n_str := He.free_ok X G (c.fact 115 (f := .free "str") rfl)
      n_tuple := He.free_ok X G (c.fact 116 (f := .free "tuple") rfl)
      n_zip := He.free_ok X G (c.fact 117 (f := .free "zip") rfl) }
  have k_LENGTHS : ∃ u, mg "LENGTHS" = some u ∧ RelV (.ref (He.ga K "LENGTHS")) u := ⟨_, He.glo_ok X G (c.fact 54 (f := .glo "LENGTHS") rfl), rfl⟩
  have x_BrimfulError := He.glo_ok X G (c.fact 0 (f := .glo "BrimfulError") rfl)
  have x_BadStep := He.glo_ok X G (c.fact 1 (f := .glo "BadStep") rfl)
  have x_BadMemory := He.glo_ok X G (c.fact 2 (f := .glo "BadMemory") rfl)
  have x_BadSource := He.glo_ok X G (c.fact 3 (f := .glo "BadSource") rfl)
  have x_BadText := He.glo_ok X G (c.fact 4 (f := .glo "BadText") rfl)
  have x_TooLong := He.glo_ok X G (c.fact 5 (f := .glo "TooLong") rfl)
  have x_BadLine := He.glo_ok X G (c.fact 6 (f := .glo "BadLine") rfl)
  have F_is_integer : DefAt K mg "is_integer" s_is_integer := by
    obtain ⟨fd, F⟩ := c.def_ 0 (d := d0) rfl
    exact ⟨⟨_, fd, F, He.glo_ok X G (c.fact 7 (f := .glo "is_integer") rfl)⟩⟩
  have F_is_number : DefAt K mg "is_number" s_is_number := by
    obtain ⟨fd, F⟩ := c.def_ 1 (d := d1) rfl
    exact ⟨⟨_, fd, F, He.glo_ok X G (c.fact 8 (f := .glo "is_number") rfl)⟩⟩
  have F_is_prime : DefAt K mg "is_prime" s_is_prime := by
    obtain ⟨fd, F⟩ := c.def_ 2 (d := d2) rfl
    exact ⟨⟨_, fd, F, He.glo_ok X G (c.fact 9 (f := .glo "is_prime") rfl)⟩⟩
  have F_inverse_of : DefAt K mg "inverse_of" s_inverse_of := by
    obtain ⟨fd, F⟩ := c.def_ 3 (d := d3) rfl
    exact ⟨⟨_, fd, F, He.glo_ok X G (c.fact 10 (f := .glo "inverse_of") rfl)⟩⟩
  have F_weights : DefAt K mg "weights" s_weights := by
    obtain ⟨fd, F⟩ := c.def_ 4 (d := d4) rfl
    exact ⟨⟨_, fd, F, He.glo_ok X G (c.fact 11 (f := .glo "weights") rfl)⟩⟩
  have F_interpolate : DefAt K mg "interpolate" s_interpolate := by
    obtain ⟨fd, F⟩ := c.def_ 5 (d := d5) rfl
    exact ⟨⟨_, fd, F, He.glo_ok X G (c.fact 12 (f := .glo "interpolate") rfl)⟩⟩
  have F_points_of : DefAt K mg "points_of" s_points_of := by
    obtain ⟨fd, F⟩ := c.def_ 6 (d := d6) rfl
    exact ⟨⟨_, fd, F, He.glo_ok X G (c.fact 14 (f := .glo "points_of") rfl)⟩⟩
  have F_check_program : DefAt K mg "check_program" s_check_program := by
    obtain ⟨fd, F⟩ := c.def_ 7 (d := d7) rfl
    exact ⟨⟨_, fd, F, He.glo_ok X G (c.fact 15 (f := .glo "check_program") rfl)⟩⟩
  have F_check_size : DefAt K mg "check_size" s_check_size := by
    obtain ⟨fd, F⟩ := c.def_ 8 (d := d8) rfl
    exact ⟨⟨_, fd, F, He.glo_ok X G (c.fact 16 (f := .glo "check_size") rfl)⟩⟩
  have F_column_of : DefAt K mg "column_of" s_column_of := by
    obtain ⟨fd, F⟩ := c.def_ 9 (d := d9) rfl
    exact ⟨⟨_, fd, F, He.glo_ok X G (c.fact 17 (f := .glo "column_of") rfl)⟩⟩
  have F_added : DefAt K mg "added" s_added := by
    obtain ⟨fd, F⟩ := c.def_ 10 (d := d10) rfl
    exact ⟨⟨_, fd, F, He.glo_ok X G (c.fact 18 (f := .glo "added") rfl)⟩⟩
  have F_ends : DefAt K mg "ends" s_ends := by
    obtain ⟨fd, F⟩ := c.def_ 11 (d := d11) rfl
    exact ⟨⟨_, fd, F, He.glo_ok X G (c.fact 19 (f := .glo "ends") rfl)⟩⟩
  have F_spoilt : DefAt K mg "spoilt" s_spoilt := by
    obtain ⟨fd, F⟩ := c.def_ 12 (d := d12) rfl
    exact ⟨⟨_, fd, F, He.glo_ok X G (c.fact 20 (f := .glo "spoilt") rfl)⟩⟩
  have F_leaky : DefAt K mg "leaky" s_leaky := by
    obtain ⟨fd, F⟩ := c.def_ 13 (d := d13) rfl
    exact ⟨⟨_, fd, F, He.glo_ok X G (c.fact 21 (f := .glo "leaky") rfl)⟩⟩
  have F_judge : DefAt K mg "judge" s_judge := by
    obtain ⟨fd, F⟩ := c.def_ 14 (d := d14) rfl
    exact ⟨⟨_, fd, F, He.glo_ok X G (c.fact 22 (f := .glo "judge") rfl)⟩⟩
  have F_is_factor : DefAt K mg "is_factor" s_is_factor := by
    obtain ⟨fd, F⟩ := c.def_ 15 (d := d15) rfl
    exact ⟨⟨_, fd, F, He.glo_ok X G (c.fact 24 (f := .glo "is_factor") rfl)⟩⟩
  have F_is_table : DefAt K mg "is_table" s_is_table := by
    obtain ⟨fd, F⟩ := c.def_ 16 (d := d16) rfl
    exact ⟨⟨_, fd, F, He.glo_ok X G (c.fact 25 (f := .glo "is_table") rfl)⟩⟩
  have F_is_add : DefAt K mg "is_add" s_is_add := by
    obtain ⟨fd, F⟩ := c.def_ 17 (d := d17) rfl
    exact ⟨⟨_, fd, F, He.glo_ok X G (c.fact 26 (f := .glo "is_add") rfl)⟩⟩
  have F_is_look : DefAt K mg "is_look" s_is_look := by
    obtain ⟨fd, F⟩ := c.def_ 18 (d := d18) rfl
    exact ⟨⟨_, fd, F, He.glo_ok X G (c.fact 27 (f := .glo "is_look") rfl)⟩⟩
  have F_is_step : DefAt K mg "is_step" s_is_step := by
    obtain ⟨fd, F⟩ := c.def_ 19 (d := d19) rfl
    exact ⟨⟨_, fd, F, He.glo_ok X G (c.fact 28 (f := .glo "is_step") rfl)⟩⟩
  have F_inverse_step : DefAt K mg "inverse_step" s_inverse_step := by
    obtain ⟨fd, F⟩ := c.def_ 20 (d := d20) rfl
    exact ⟨⟨_, fd, F, He.glo_ok X G (c.fact 29 (f := .glo "inverse_step") rfl)⟩⟩
  have F_perform : DefAt K mg "perform" s_perform := by
    obtain ⟨fd, F⟩ := c.def_ 21 (d := d21) rfl
    exact ⟨⟨_, fd, F, He.glo_ok X G (c.fact 30 (f := .glo "perform") rfl)⟩⟩
  have F_check_steps : DefAt K mg "check_steps" s_check_steps := by
    obtain ⟨fd, F⟩ := c.def_ 22 (d := d22) rfl
    exact ⟨⟨_, fd, F, He.glo_ok X G (c.fact 31 (f := .glo "check_steps") rfl)⟩⟩
  have F_check_numbers : DefAt K mg "check_numbers" s_check_numbers := by
    obtain ⟨fd, F⟩ := c.def_ 23 (d := d23) rfl
    exact ⟨⟨_, fd, F, He.glo_ok X G (c.fact 36 (f := .glo "check_numbers") rfl)⟩⟩
  have M_Program : MakAt K mg "Program" (He.ga K "Program") "Program.__init__" s_Program___init__ := by
    obtain ⟨fd, F⟩ := c.def_ 24 (d := d24) rfl
    exact ⟨⟨_, fd, F, He.mkr_ok (c.fact 39 (f := .mkr "Program") rfl), He.glo_ok X G (c.fact 37 (f := .glo "Program") rfl)⟩⟩
  have F_Program___len__ : MetAt K (He.ga K "Program") "__len__" "Program.__len__" s_Program___len__ := by
    obtain ⟨fd, F⟩ := c.def_ 25 (d := d25) rfl
    exact ⟨⟨_, fd, F, He.meth_ok (c.fact 41 (f := .meth "Program" "__len__") rfl)⟩⟩
  have F_Program___add__ : MetAt K (He.ga K "Program") "__add__" "Program.__add__" s_Program___add__ := by
    obtain ⟨fd, F⟩ := c.def_ 26 (d := d26) rfl
    exact ⟨⟨_, fd, F, He.meth_ok (c.fact 42 (f := .meth "Program" "__add__") rfl)⟩⟩
  have F_Program___neg__ : MetAt K (He.ga K "Program") "__neg__" "Program.__neg__" s_Program___neg__ := by
    obtain ⟨fd, F⟩ := c.def_ 27 (d := d27) rfl
    exact ⟨⟨_, fd, F, He.meth_ok (c.fact 43 (f := .meth "Program" "__neg__") rfl)⟩⟩
  have F_Program_run : MetAt K (He.ga K "Program") "run" "Program.run" s_Program_run := by
    obtain ⟨fd, F⟩ := c.def_ 28 (d := d28) rfl
    exact ⟨⟨_, fd, F, He.meth_ok (c.fact 44 (f := .meth "Program" "run") rfl)⟩⟩
  have F_Program_part : MetAt K (He.ga K "Program") "part" "Program.part" s_Program_part := by
    obtain ⟨fd, F⟩ := c.def_ 29 (d := d29) rfl
    exact ⟨⟨_, fd, F, He.meth_ok (c.fact 45 (f := .meth "Program" "part") rfl)⟩⟩
  have F_Program_called_back : MetAt K (He.ga K "Program") "called_back" "Program.called_back" s_Program_called_back := by
    obtain ⟨fd, F⟩ := c.def_ 30 (d := d30) rfl
    exact ⟨⟨_, fd, F, He.meth_ok (c.fact 46 (f := .meth "Program" "called_back") rfl)⟩⟩
  have F_is_node : DefAt K mg "is_node" s_is_node := by
    obtain ⟨fd, F⟩ := c.def_ 31 (d := d31) rfl
    exact ⟨⟨_, fd, F, He.glo_ok X G (c.fact 55 (f := .glo "is_node") rfl)⟩⟩
  have F_check_source : DefAt K mg "check_source" s_check_source := by
    obtain ⟨fd, F⟩ := c.def_ 32 (d := d32) rfl
    exact ⟨⟨_, fd, F, He.glo_ok X G (c.fact 56 (f := .glo "check_source") rfl)⟩⟩
  have F_needs : DefAt K mg "needs" s_needs := by
    obtain ⟨fd, F⟩ := c.def_ 33 (d := d33) rfl
    exact ⟨⟨_, fd, F, He.glo_ok X G (c.fact 57 (f := .glo "needs") rfl)⟩⟩
  have F_cost : DefAt K mg "cost" s_cost := by
    obtain ⟨fd, F⟩ := c.def_ 34 (d := d34) rfl
    exact ⟨⟨_, fd, F, He.glo_ok X G (c.fact 58 (f := .glo "cost") rfl)⟩⟩
  have F_parse_number : DefAt K mg "parse_number" s_parse_number := by
    obtain ⟨fd, F⟩ := c.def_ 35 (d := d35) rfl
    exact ⟨⟨_, fd, F, He.glo_ok X G (c.fact 59 (f := .glo "parse_number") rfl)⟩⟩
  have F_parse_index : DefAt K mg "parse_index" s_parse_index := by
    obtain ⟨fd, F⟩ := c.def_ 36 (d := d36) rfl
    exact ⟨⟨_, fd, F, He.glo_ok X G (c.fact 60 (f := .glo "parse_index") rfl)⟩⟩
  have F_parse_node : DefAt K mg "parse_node" s_parse_node := by
    obtain ⟨fd, F⟩ := c.def_ 37 (d := d37) rfl
    exact ⟨⟨_, fd, F, He.glo_ok X G (c.fact 61 (f := .glo "parse_node") rfl)⟩⟩
  have F_parse_source : DefAt K mg "parse_source" s_parse_source := by
    obtain ⟨fd, F⟩ := c.def_ 38 (d := d38) rfl
    exact ⟨⟨_, fd, F, He.glo_ok X G (c.fact 62 (f := .glo "parse_source") rfl)⟩⟩
  have F_leaf_step : DefAt K mg "leaf_step" s_leaf_step := by
    obtain ⟨fd, F⟩ := c.def_ 39 (d := d39) rfl
    exact ⟨⟨_, fd, F, He.glo_ok X G (c.fact 64 (f := .glo "leaf_step") rfl)⟩⟩
  have F_product_tasks : DefAt K mg "product_tasks" s_product_tasks := by
    obtain ⟨fd, F⟩ := c.def_ 40 (d := d40) rfl
    exact ⟨⟨_, fd, F, He.glo_ok X G (c.fact 65 (f := .glo "product_tasks") rfl)⟩⟩
  have F_inner_tasks : DefAt K mg "inner_tasks" s_inner_tasks := by
    obtain ⟨fd, F⟩ := c.def_ 41 (d := d41) rfl
    exact ⟨⟨_, fd, F, He.glo_ok X G (c.fact 66 (f := .glo "inner_tasks") rfl)⟩⟩
  have F_compile_source : DefAt K mg "compile_source" s_compile_source := by
    obtain ⟨fd, F⟩ := c.def_ 42 (d := d42) rfl
    exact ⟨⟨_, fd, F, He.glo_ok X G (c.fact 67 (f := .glo "compile_source") rfl)⟩⟩
  have F_answer : DefAt K mg "answer" s_answer := by
    obtain ⟨fd, F⟩ := c.def_ 43 (d := d43) rfl
    exact ⟨⟨_, fd, F, He.glo_ok X G (c.fact 68 (f := .glo "answer") rfl)⟩⟩
  have F_number_of : DefAt K mg "number_of" s_number_of := by
    obtain ⟨fd, F⟩ := c.def_ 44 (d := d44) rfl
    exact ⟨⟨_, fd, F, He.glo_ok X G (c.fact 71 (f := .glo "number_of") rfl)⟩⟩
  have F_list_of : DefAt K mg "list_of" s_list_of := by
    obtain ⟨fd, F⟩ := c.def_ 45 (d := d45) rfl
    exact ⟨⟨_, fd, F, He.glo_ok X G (c.fact 72 (f := .glo "list_of") rfl)⟩⟩
  have F_written : DefAt K mg "written" s_written := by
    obtain ⟨fd, F⟩ := c.def_ 46 (d := d46) rfl
    exact ⟨⟨_, fd, F, He.glo_ok X G (c.fact 73 (f := .glo "written") rfl)⟩⟩
  have M_Desk : MakAt K mg "Desk" (He.ga K "Desk") "Desk.__init__" s_Desk___init__ := by
    obtain ⟨fd, F⟩ := c.def_ 47 (d := d47) rfl
    exact ⟨⟨_, fd, F, He.mkr_ok (c.fact 76 (f := .mkr "Desk") rfl), He.glo_ok X G (c.fact 74 (f := .glo "Desk") rfl)⟩⟩
  have F_Desk_do : MetAt K (He.ga K "Desk") "do" "Desk.do" s_Desk_do := by
    obtain ⟨fd, F⟩ := c.def_ 48 (d := d48) rfl
    exact ⟨⟨_, fd, F, He.meth_ok (c.fact 78 (f := .meth "Desk" "do") rfl)⟩⟩
  have F_Desk_take_modulus : MetAt K (He.ga K "Desk") "take_modulus" "Desk.take_modulus" s_Desk_take_modulus := by
    obtain ⟨fd, F⟩ := c.def_ 49 (d := d49) rfl
    exact ⟨⟨_, fd, F, He.meth_ok (c.fact 79 (f := .meth "Desk" "take_modulus") rfl)⟩⟩
  have F_Desk_take_memory : MetAt K (He.ga K "Desk") "take_memory" "Desk.take_memory" s_Desk_take_memory := by
    obtain ⟨fd, F⟩ := c.def_ 50 (d := d50) rfl
    exact ⟨⟨_, fd, F, He.meth_ok (c.fact 80 (f := .meth "Desk" "take_memory") rfl)⟩⟩
  have F_Desk_take_source : MetAt K (He.ga K "Desk") "take_source" "Desk.take_source" s_Desk_take_source := by
    obtain ⟨fd, F⟩ := c.def_ 51 (d := d51) rfl
    exact ⟨⟨_, fd, F, He.meth_ok (c.fact 81 (f := .meth "Desk" "take_source") rfl)⟩⟩
  have F_Desk_program : MetAt K (He.ga K "Desk") "program" "Desk.program" s_Desk_program := by
    obtain ⟨fd, F⟩ := c.def_ 52 (d := d52) rfl
    exact ⟨⟨_, fd, F, He.meth_ok (c.fact 82 (f := .meth "Desk" "program") rfl)⟩⟩
  have F_Desk_check : MetAt K (He.ga K "Desk") "check" "Desk.check" s_Desk_check := by
    obtain ⟨fd, F⟩ := c.def_ 53 (d := d53) rfl
    exact ⟨⟨_, fd, F, He.meth_ok (c.fact 83 (f := .meth "Desk" "check") rfl)⟩⟩
  have F_Desk_run : MetAt K (He.ga K "Desk") "run" "Desk.run" s_Desk_run := by
    obtain ⟨fd, F⟩ := c.def_ 54 (d := d54) rfl
    exact ⟨⟨_, fd, F, He.meth_ok (c.fact 84 (f := .meth "Desk" "run") rfl)⟩⟩
  have F_Desk_stop : MetAt K (He.ga K "Desk") "stop" "Desk.stop" s_Desk_stop := by
    obtain ⟨fd, F⟩ := c.def_ 55 (d := d55) rfl
    exact ⟨⟨_, fd, F, He.meth_ok (c.fact 85 (f := .meth "Desk" "stop") rfl)⟩⟩
  have F_Desk_judged : MetAt K (He.ga K "Desk") "judged" "Desk.judged" s_Desk_judged := by
    obtain ⟨fd, F⟩ := c.def_ 56 (d := d56) rfl
    exact ⟨⟨_, fd, F, He.meth_ok (c.fact 86 (f := .meth "Desk" "judged") rfl)⟩⟩
  have F__law_mixed : DefAt K mg "_law_mixed" s__law_mixed := by
    obtain ⟨fd, F⟩ := c.def_ 57 (d := d57) rfl
    exact ⟨⟨_, fd, F, He.glo_ok X G (c.fact 90 (f := .glo "_law_mixed") rfl)⟩⟩
  have F__law_numbers : DefAt K mg "_law_numbers" s__law_numbers := by
    obtain ⟨fd, F⟩ := c.def_ 58 (d := d58) rfl
    exact ⟨⟨_, fd, F, He.glo_ok X G (c.fact 91 (f := .glo "_law_numbers") rfl)⟩⟩
  have F__law_draw : DefAt K mg "_law_draw" s__law_draw := by
    obtain ⟨fd, F⟩ := c.def_ 59 (d := d59) rfl
    exact ⟨⟨_, fd, F, He.glo_ok X G (c.fact 92 (f := .glo "_law_draw") rfl)⟩⟩
  have F__law_equal : DefAt K mg "_law_equal" s__law_equal := by
    obtain ⟨fd, F⟩ := c.def_ 60 (d := d60) rfl
    exact ⟨⟨_, fd, F, He.glo_ok X G (c.fact 93 (f := .glo "_law_equal") rfl)⟩⟩
  have F__law_all_equal : DefAt K mg "_law_all_equal" s__law_all_equal := by
    obtain ⟨fd, F⟩ := c.def_ 61 (d := d61) rfl
    exact ⟨⟨_, fd, F, He.glo_ok X G (c.fact 94 (f := .glo "_law_all_equal") rfl)⟩⟩
  have F__law_source : DefAt K mg "_law_source" s__law_source := by
    obtain ⟨fd, F⟩ := c.def_ 62 (d := d62) rfl
    exact ⟨⟨_, fd, F, He.glo_ok X G (c.fact 95 (f := .glo "_law_source") rfl)⟩⟩
  have F__law_meaning : DefAt K mg "_law_meaning" s__law_meaning := by
    obtain ⟨fd, F⟩ := c.def_ 63 (d := d63) rfl
    exact ⟨⟨_, fd, F, He.glo_ok X G (c.fact 96 (f := .glo "_law_meaning") rfl)⟩⟩
  have F__law_needs : DefAt K mg "_law_needs" s__law_needs := by
    obtain ⟨fd, F⟩ := c.def_ 64 (d := d64) rfl
    exact ⟨⟨_, fd, F, He.glo_ok X G (c.fact 97 (f := .glo "_law_needs") rfl)⟩⟩
  have F__law_text : DefAt K mg "_law_text" s__law_text := by
    obtain ⟨fd, F⟩ := c.def_ 65 (d := d65) rfl
    exact ⟨⟨_, fd, F, He.glo_ok X G (c.fact 98 (f := .glo "_law_text") rfl)⟩⟩
  have F__law_written : DefAt K mg "_law_written" s__law_written := by
    obtain ⟨fd, F⟩ := c.def_ 66 (d := d66) rfl
    exact ⟨⟨_, fd, F, He.glo_ok X G (c.fact 99 (f := .glo "_law_written") rfl)⟩⟩
  have F__law_price : DefAt K mg "_law_price" s__law_price := by
    obtain ⟨fd, F⟩ := c.def_ 67 (d := d67) rfl
    exact ⟨⟨_, fd, F, He.glo_ok X G (c.fact 100 (f := .glo "_law_price") rfl)⟩⟩
  have F__law_modulus : DefAt K mg "_law_modulus" s__law_modulus := by
    obtain ⟨fd, F⟩ := c.def_ 68 (d := d68) rfl
    exact ⟨⟨_, fd, F, He.glo_ok X G (c.fact 101 (f := .glo "_law_modulus") rfl)⟩⟩
  have F__law_long_source : DefAt K mg "_law_long_source" s__law_long_source := by
    obtain ⟨fd, F⟩ := c.def_ 69 (d := d69) rfl
    exact ⟨⟨_, fd, F, He.glo_ok X G (c.fact 102 (f := .glo "_law_long_source") rfl)⟩⟩
  have F__law_stops : DefAt K mg "_law_stops" s__law_stops := by
    obtain ⟨fd, F⟩ := c.def_ 70 (d := d70) rfl
    exact ⟨⟨_, fd, F, He.glo_ok X G (c.fact 103 (f := .glo "_law_stops") rfl)⟩⟩
  have F__law_memory_anew : DefAt K mg "_law_memory_anew" s__law_memory_anew := by
    obtain ⟨fd, F⟩ := c.def_ 71 (d := d71) rfl
    exact ⟨⟨_, fd, F, He.glo_ok X G (c.fact 104 (f := .glo "_law_memory_anew") rfl)⟩⟩
  have F__law_any_source : DefAt K mg "_law_any_source" s__law_any_source := by
    obtain ⟨fd, F⟩ := c.def_ 72 (d := d72) rfl
    exact ⟨⟨_, fd, F, He.glo_ok X G (c.fact 105 (f := .glo "_law_any_source") rfl)⟩⟩
  have k_Program : ∃ u, mg "Program" = some u ∧ RelV (.ref (He.ga K "Program")) u := ⟨_, He.glo_ok X G (c.fact 37 (f := .glo "Program") rfl), rfl⟩
  have C_Program := He.cls_ok (c.fact 38 (f := .cls "Program") rfl)
  have A_Program_modulus := He.noat_ok (c.fact 47 (f := .noat "Program" "modulus") rfl)
  have A_Program_cells := He.noat_ok (c.fact 48 (f := .noat "Program" "cells") rfl)
  have A_Program_inputs := He.noat_ok (c.fact 49 (f := .noat "Program" "inputs") rfl)
  have A_Program_steps := He.noat_ok (c.fact 50 (f := .noat "Program" "steps") rfl)
  have k_Desk : ∃ u, mg "Desk" = some u ∧ RelV (.ref (He.ga K "Desk")) u := ⟨_, He.glo_ok X G (c.fact 74 (f := .glo "Desk") rfl), rfl⟩
  have C_Desk := He.cls_ok (c.fact 75 (f := .cls "Desk") rfl)
  have A_Desk_modulus := He.noat_ok (c.fact 87 (f := .noat "Desk" "modulus") rfl)
  have A_Desk_content := He.noat_ok (c.fact 88 (f := .noat "Desk" "content") rfl)
  have A_Desk_source := He.noat_ok (c.fact 89 (f := .noat "Desk" "source") rfl)
  obtain ⟨fdl, Fl⟩ := c.def_ 73 (d := d73) rfl
  have el := hfa.symm.trans (He.glo_ok X G (c.fact 106 (f := .glo "law") rfl))
  cases el
  have GP : PgC K (He.ga K "Program") := ⟨C_Program, A_Program_modulus, A_Program_cells, A_Program_inputs, A_Program_steps⟩
  have GD : DkC K (He.ga K "Desk") := ⟨C_Desk, A_Desk_modulus, A_Desk_content, A_Desk_source⟩
  have L : LenD K w (He.ga K "LENGTHS") := len_of (cT.tab 0) cx
  have b := FunD.bindsA (ps := ["_law_script"]) Fl fun _ _ _ _ _ _ us hl => match us, hl with | [_], _ => rfl
  refine ⟨fdl, fun s v => b s [v] rfl, fun base _ _ => ?_⟩
  have c_is_integer := cal_is_integer (P := P) (w := w) (base := base) T F_is_integer
  have c_is_number := cal_is_number (P := P) (w := w) (base := base) T c_is_integer F_is_number
  have c_is_prime := cal_is_prime (P := P) (w := w) (base := base) T F_is_prime
  have c_inverse_of := cal_inverse_of (P := P) (w := w) (base := base) T F_inverse_of
  have c_weights := cal_weights (P := P) (w := w) (base := base) T c_inverse_of F_weights
  have c_interpolate := cal_interpolate (P := P) (w := w) (base := base) T c_weights F_interpolate
  have c_is_factor := cal_is_factor (P := P) (w := w) (base := base) T c_is_number F_is_factor
  have c_is_table := cal_is_table (P := P) (w := w) (base := base) T c_is_number F_is_table
  have c_is_add := cal_is_add (P := P) (w := w) (base := base) T c_is_number c_is_factor F_is_add
  have c_is_look := cal_is_look (P := P) (w := w) (base := base) T c_is_number c_is_integer c_is_table F_is_look
  have c_is_step := cal_is_step (P := P) (w := w) (base := base) T c_is_number c_inverse_of c_is_add c_is_look F_is_step
  have c_inverse_step := cal_inverse_step (P := P) (w := w) (base := base) T c_inverse_of F_inverse_step
  have c_check_numbers := cal_check_numbers (P := P) (w := w) (base := base) T c_is_number F_check_numbers
  have c_check_steps := cal_check_steps (P := P) (w := w) (base := base) T c_is_prime c_is_step F_check_steps
  have c_perform := cal_perform (P := P) (w := w) (base := base) T c_interpolate F_perform
  have c_Program := mak_Program (P := P) (w := w) (base := base) T GP c_is_integer c_check_steps M_Program
  have m_len := met_len (P := P) (w := w) (mg := mg) (base := base) T GP F_Program___len__
  have m_part := met_part (P := P) (w := w) (base := base) T GP c_is_integer c_Program F_Program_part
  have m_neg := met_neg (P := P) (w := w) (base := base) T GP c_inverse_step c_Program F_Program___neg__
  have m_back := met_back (P := P) (w := w) (base := base) T GP m_part m_neg F_Program_called_back
  have m_run := met_run (P := P) (w := w) (base := base) T GP c_check_numbers c_perform F_Program_run
  have c_is_node := cal_is_node (P := P) (w := w) (base := base) T L k_LENGTHS c_is_number F_is_node
  have c_check_source := cal_check_source (P := P) (w := w) (base := base) T c_is_node F_check_source
  have c_needs := cal_needs (P := P) (w := w) (base := base) T c_check_source F_needs
  have c_cost := cal_cost (P := P) (w := w) (base := base) T c_check_source F_cost
  have c_leaf := cal_leaf_step (P := P) (w := w) (base := base) T F_leaf_step
  have c_prodt := cal_product_tasks (P := P) (w := w) (base := base) T F_product_tasks
  have c_inner := cal_inner_tasks (P := P) (w := w) (base := base) T c_prodt F_inner_tasks
  have c_comp := cal_compile_source (P := P) (w := w) (base := base) T GP c_cost c_needs c_leaf c_inner c_Program F_compile_source
  have c_answer := cal_answer (P := P) (w := w) (base := base) T GP m_neg m_run F_answer
  have c_pnum := cal_parse_number (P := P) (w := w) (base := base) T F_parse_number
  have c_num := cal_number_of (P := P) (w := w) (base := base) T F_number_of
  have c_pidx := cal_parse_index (P := P) (w := w) (base := base) T c_pnum F_parse_index
  have c_pnode := cal_parse_node (P := P) (w := w) (base := base) T c_pnum c_pidx F_parse_node
  have c_psrc := cal_parse_source (P := P) (w := w) (base := base) T x_BadSource c_pnode c_check_source F_parse_source
  have c_list := cal_list_of (P := P) (w := w) (base := base) T c_num F_list_of
  have c_writ := cal_written (P := P) (w := w) (base := base) T F_written
  have c_Desk := mak_Desk (P := P) (w := w) (base := base) T GD M_Desk
  have m_tmod := met_take_modulus (P := P) (w := w) (base := base) T GD F_Desk_take_modulus
  have m_tmem := met_take_memory (P := P) (w := w) (base := base) T GD F_Desk_take_memory
  have m_tsrc := met_take_source (P := P) (w := w) (base := base) T GD x_BadText c_psrc c_cost F_Desk_take_source
  have m_prog := met_program (P := P) (w := w) (base := base) T GD c_comp F_Desk_program
  have m_check := met_check (P := P) (w := w) (base := base) T GD GP m_prog F_Desk_check
  have m_drun := met_drun (P := P) (w := w) (base := base) T GD m_check c_answer c_writ F_Desk_run
  have m_dstop := met_dstop (P := P) (w := w) (base := base) T GD GP m_check m_part m_back m_run c_writ F_Desk_stop
  have m_judged := met_judged (P := P) (w := w) (mg := mg) (base := base) GD F_Desk_judged
  have m_do := met_do (P := P) (w := w) (base := base) T GD c_num c_list m_tmod m_tmem m_tsrc m_prog m_drun m_dstop m_judged m_len F_Desk_do
  have c_mixed := cal__law_mixed (P := P) (w := w) (base := base) T F__law_mixed
  have c_numbers := cal__law_numbers (P := P) (w := w) (base := base) T c_mixed F__law_numbers
  have c_draw := cal__law_draw (P := P) (w := w) (base := base) T c_mixed F__law_draw
  have c_equal := cal__law_equal (P := P) (w := w) (base := base) T F__law_equal F__law_all_equal 4
  have c_price := cal__law_price (P := P) (w := w) (base := base) T F__law_price
  have c_mean := cal__law_meaning (P := P) (w := w) (base := base) T F__law_meaning
  have c_lneeds := cal__law_needs (P := P) (w := w) (base := base) T F__law_needs
  have c_text := cal__law_text (P := P) (w := w) (base := base) T F__law_text
  have c_lwrit := cal__law_written (P := P) (w := w) (base := base) T F__law_written
  have c_lmod := cal__law_modulus (P := P) (w := w) (base := base) T c_draw F__law_modulus
  have c_src := cal__law_source (P := P) (w := w) (base := base) T c_draw F__law_source
  have c_long := cal__law_long_source (P := P) (w := w) (base := base) T c_draw c_src F__law_long_source
  have c_any := cal__law_any_source (P := P) (w := w) (base := base) T c_draw c_src c_long F__law_any_source
  have c_anew := cal__law_memory_anew (P := P) (w := w) (base := base) T c_draw c_lwrit c_equal m_do F__law_memory_anew
  have c_stops := cal__law_stops (P := P) (w := w) (base := base) T c_draw c_price c_mean c_comp c_lwrit c_equal m_do m_part m_run F__law_stops
  exact ok_law T c_numbers c_draw c_Desk c_lmod c_equal m_do c_anew c_any c_text c_price c_lneeds c_mean c_lwrit c_stops Fl
end Bf
open PySem PySem.W PySem.Calls PyProof.Rows
theorem PySem.Challenge.cw_brimful_k58_whole_desk_holds : PySem.Challenge.rw_brimful_k58_whole_desk.Holds := by
  w_on; o_law
  o_head Bf.hk
  case hw => w_witness2
  case hc =>
    refine L2.walk_ofE (l := PySem.Challenge.rw_brimful_k58_whole_desk) (n := 63) (k := 15) (x := "_law_script") (CX := L2.CX0) rfl (by decide) (by kernel_rfl) ⟨rfl, by decide, by decide⟩ ?F (fun _ _ _ _ z => z)
    intro w mg fa h Y G hmg0
    obtain ⟨K, KX, c, cx⟩ := Y
    have hmg : mg ("law" : PySem.Str) = some (.ref fa) := hmg0
    obtain ⟨fd, hb, hF⟩ := Bf.facts (P := (PySem.Challenge.rw_brimful_k58_whole_desk).prog) (w := w) KX G hmg c cx
    exact ⟨K, fd, Bf.spLaw K, KX, hb, fun H a ns hl _ hS => ⟨ns, a, rfl, hS, by omega, fun _ => rfl⟩, hF⟩
