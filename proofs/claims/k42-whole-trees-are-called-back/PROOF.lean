import PyProof.Rows.All
import Wide.All
import OpenK.AllK
import Wide.FinOn
import KE.KStateDown
import HandS.ForMost
import HandS.Codes
import HandS.Defaults
import HandS.IsInst
import HandS.Style
import HandS.TupAny
import HandS.More
import HandS.NoneIn
import HandS.Zip
import KE.GoesEnum
import KE.KOpsOwn
import HandS.Head0
import HandS.Head1
import HandS.Head2
import HandS.HeadEnd
import HandS.HeadHook1
import HandS.HeadHook2
import HandS.TryOnly
import PySem.Challenge.RW_brimful_k42_whole_trees_are_called_back
set_option Elab.async false
set_option linter.all false
set_option maxRecDepth 100000
set_option maxHeartbeats 4000000
/-! reading lemmas: one for each word of a derivation -/
namespace Bf
open PySem L2
/-! ### heaps -/
theorem same_new {H : Hp} {p : Addr} {o : HO} (n : H p = none) : Same H (upd H p o) := fun b u e => by
  rw [upd_ne (ne_of_none e n)]
  exact e
/-- all but the object at d is kept -/
def Kp (d : Addr) (H H' : Hp) : Prop := ∀ b o, b ≠ d → H b = some o → H' b = some o
theorem Kp.refl (d : Addr) (H : Hp) : Kp d H H := fun _ _ _ h => h
theorem Kp.trans {d : Addr} {H H1 H2 : Hp} (a : Kp d H H1) (b : Kp d H1 H2) : Kp d H H2 := fun x o n h => b x o n (a x o n h)
theorem Kp.of {d : Addr} {H H' : Hp} (s : Same H H') : Kp d H H' := fun b o _ h => s b o h
theorem Kp.upd (d : Addr) (H : Hp) (o : HO) : Kp d H (L2.upd H d o) := fun b u n h => by rw [upd_ne n]; exact h
/-- a tuple is kept -/
def TK (H H' : Hp) : Prop := ∀ b xs, H b = some (.tup xs) → H' b = some (.tup xs)
theorem TK.refl (H : Hp) : TK H H := fun _ _ h => h
theorem TK.trans {H H1 H2 : Hp} (a : TK H H1) (b : TK H1 H2) : TK H H2 := fun x o h => b x o (a x o h)
theorem TK.of {H H' : Hp} (s : Same H H') : TK H H' := fun b xs h => s b _ h
theorem TK.kp {d : Addr} {H H' : Hp} {xs : List V} (h : H d = some (.lst xs)) (k : Kp d H H') : TK H H' := fun b ys e => k b _ (ne_of e h (by intro z; cases z)) e
/-! ### data: what a value is, by the heap -/
inductive Dt where
  | i (n : Int) | s (x : Str) | b (k : Bool) | non | t (l : List Dt) | l (l : List Dt)
mutual
def Rp (H : Hp) : Dt → V → Prop
  | .i n, v => v = .int n
  | .s x, v => v = .str x
  | .b k, v => v = .bl k
  | .non, v => v = .non
  | .t l, v => ∃ a vs, v = .ref a ∧ H a = some (.tup vs) ∧ RpL H l vs
  | .l l, v => ∃ a vs, v = .ref a ∧ H a = some (.lst vs) ∧ RpL H l vs
def RpL (H : Hp) : List Dt → List V → Prop
  | [], vs => vs = []
  | d :: r, vs => ∃ v ws, vs = v :: ws ∧ Rp H d v ∧ RpL H r ws
end
mutual
def Dt.flat : Dt → Bool
  | .t ls => Dt.flats ls
  | .l _ => false
  | _ => true
def Dt.flats : List Dt → Bool
  | [] => true
  | d :: r => d.flat && Dt.flats r
end
mutual
def Dt.dep : Dt → Nat
  | .t ls => Dt.deps ls + 1
  | .l ls => Dt.deps ls + 1
  | _ => 0
def Dt.deps : List Dt → Nat
  | [] => 0
  | d :: r => max d.dep (Dt.deps r)
end
mutual
theorem Rp.same {H H' : Hp} (s : Same H H') : ∀ {d : Dt} {v : V}, Rp H d v → Rp H' d v
  | .i _, _, h => h
  | .s _, _, h => h
  | .b _, _, h => h
  | .non, _, h => h
  | .t l, _, h => by
    obtain ⟨a, vs, e, ha, hl⟩ := h
    exact ⟨a, vs, e, s _ _ ha, RpL.same s hl⟩
  | .l l, _, h => by
    obtain ⟨a, vs, e, ha, hl⟩ := h
    exact ⟨a, vs, e, s _ _ ha, RpL.same s hl⟩
theorem RpL.same {H H' : Hp} (s : Same H H') : ∀ {l : List Dt} {vs : List V}, RpL H l vs → RpL H' l vs
  | [], _, h => h
  | _ :: _, _, h => by
    obtain ⟨v, ws, e, hv, hw⟩ := h
    exact ⟨v, ws, e, Rp.same s hv, RpL.same s hw⟩
end
mutual
theorem Rp.tk {H H' : Hp} (s : TK H H') : ∀ {d : Dt} {v : V}, d.flat = true → Rp H d v → Rp H' d v
  | .i _, _, _, h => h
  | .s _, _, _, h => h
  | .b _, _, _, h => h
  | .non, _, _, h => h
  | .t l, _, f, h => by
    obtain ⟨a, vs, e, ha, hl⟩ := h
    exact ⟨a, vs, e, s _ _ ha, RpL.tk s f hl⟩
  | .l ls, _, f, _ => by simp [Dt.flat] at f
theorem RpL.tk {H H' : Hp} (s : TK H H') : ∀ {l : List Dt} {vs : List V}, Dt.flats l = true → RpL H l vs → RpL H' l vs
  | [], _, _, h => h
  | _ :: _, _, f, h => by
    obtain ⟨v, ws, e, hv, hw⟩ := h
    simp only [Dt.flats, Bool.and_eq_true] at f
    exact ⟨v, ws, e, Rp.tk s f.1 hv, RpL.tk s f.2 hw⟩
end
theorem RpL.len {H : Hp} : ∀ {l : List Dt} {vs : List V}, RpL H l vs → vs.length = l.length
  | [], _, h => by rw [show _ = _ from h]; rfl
  | _ :: _, _, h => by
    obtain ⟨v, ws, e, _, hw⟩ := h
    rw [e, List.length_cons, List.length_cons, RpL.len hw]
theorem RpL.at {H : Hp} : ∀ {l : List Dt} {vs : List V} {i : Nat} {v : V}, RpL H l vs → vs[i]? = some v → ∃ d, l[i]? = some d ∧ Rp H d v
  | [], _, _, _, h, e => by rw [show _ = _ from h] at e; simp at e
  | d :: _, _, 0, _, h, e => by
    obtain ⟨w, ws, e1, hv, hw⟩ := h
    subst e1
    simp at e
    subst e
    exact ⟨d, rfl, hv⟩
  | _ :: _, _, i + 1, _, h, e => by
    obtain ⟨w, ws, e1, hv, hw⟩ := h
    subst e1
    obtain ⟨d, h1, h2⟩ := RpL.at (i := i) hw (by simpa using e)
    exact ⟨d, by simpa using h1, h2⟩
theorem RpL.get {H : Hp} : ∀ {l : List Dt} {vs : List V} {i : Nat} {d : Dt}, RpL H l vs → l[i]? = some d → ∃ v, vs[i]? = some v ∧ Rp H d v
  | [], _, _, _, _, e => by simp at e
  | d :: _, _, 0, _, h, e => by
    obtain ⟨w, ws, e1, hv, hw⟩ := h
    subst e1
    simp at e
    subst e
    exact ⟨w, rfl, hv⟩
  | _ :: _, _, i + 1, _, h, e => by
    obtain ⟨w, ws, e1, hv, hw⟩ := h
    subst e1
    obtain ⟨v, h1, h2⟩ := RpL.get (i := i) hw (by simpa using e)
    exact ⟨v, by simpa using h1, h2⟩
theorem RpL.snoc {H : Hp} {d : Dt} {v : V} (hv : Rp H d v) : ∀ {l : List Dt} {vs : List V}, RpL H l vs → RpL H (l ++ [d]) (vs ++ [v])
  | [], _, h => by
    rw [show _ = _ from h]
    exact ⟨v, [], rfl, hv, rfl⟩
  | _ :: _, _, h => by
    obtain ⟨w, ws, e, h1, h2⟩ := h
    subst e
    exact ⟨w, ws ++ [v], rfl, h1, RpL.snoc hv h2⟩
theorem RpL.app {H : Hp} {m : List Dt} {us : List V} (hm : RpL H m us) : ∀ {l : List Dt} {vs : List V}, RpL H l vs → RpL H (l ++ m) (vs ++ us)
  | [], _, h => by
    rw [show _ = _ from h]
    exact hm
  | _ :: _, _, h => by
    obtain ⟨w, ws, e, h1, h2⟩ := h
    subst e
    exact ⟨w, ws ++ us, rfl, h1, RpL.app hm h2⟩
theorem RpL.take {H : Hp} : ∀ {l : List Dt} {vs : List V} (n : Nat), RpL H l vs → RpL H (l.take n) (vs.take n)
  | _, _, 0, _ => by simp [RpL]
  | [], _, n + 1, h => by rw [show _ = _ from h]; rfl
  | _ :: _, _, n + 1, h => by
    obtain ⟨w, ws, e, h1, h2⟩ := h
    subst e
    exact ⟨w, ws.take n, rfl, h1, RpL.take n h2⟩
theorem RpL.drop {H : Hp} : ∀ {l : List Dt} {vs : List V} (n : Nat), RpL H l vs → RpL H (l.drop n) (vs.drop n)
  | _, _, 0, h => h
  | [], _, n + 1, h => by rw [show _ = _ from h]; rfl
  | _ :: _, _, n + 1, h => by
    obtain ⟨w, ws, e, h1, h2⟩ := h
    subst e
    exact RpL.drop n h2
theorem RpL.rev {H : Hp} : ∀ {l : List Dt} {vs : List V}, RpL H l vs → RpL H l.reverse vs.reverse
  | [], _, h => by rw [show _ = _ from h]; rfl
  | _ :: _, _, h => by
    obtain ⟨w, ws, e, h1, h2⟩ := h
    subst e
    rw [List.reverse_cons, List.reverse_cons]
    exact (RpL.rev h2).snoc h1
theorem RpL.ints {H : Hp} : ∀ (ns : List Int), RpL H (ns.map Dt.i) (ns.map V.int)
  | [] => rfl
  | n :: r => ⟨.int n, r.map V.int, rfl, rfl, RpL.ints r⟩
theorem RpL.eq_ints {H : Hp} : ∀ {ns : List Int} {vs : List V}, RpL H (ns.map Dt.i) vs → vs = ns.map V.int
  | [], _, h => h
  | n :: r, _, h => by
    obtain ⟨w, ws, e, h1, h2⟩ := h
    subst e
    rw [List.map_cons, RpL.eq_ints h2, show w = V.int n from h1]
/-! ### statements -/
section
variable {K : PySem.W.Frag} {σ : St} {H H1 : Hp} {D : Ends} {t u : TS} {te ta tb tc : TE} {tt tu : TT} {g : TG} {gs : TGs} {v x y : V} {Q : VK} {R : Bool → Hp → Prop} {S : St → Hp → Prop} {i j : Nat} {a c d : St → Hp → Prop} {b : VK}
theorem r_seq (h : t ⟨u ⟨a, b, c, d⟩, b, c, d⟩ σ H) : tSeq t u ⟨a, b, c, d⟩ σ H := h
theorem r_next (h : a σ H) : tNext ⟨a, b, c, d⟩ σ H := h
theorem r_cont (h : d σ H) : tCont ⟨a, b, c, d⟩ σ H := h
theorem r_break (h : c σ H) : tBreak ⟨a, b, c, d⟩ σ H := h
theorem r_asg (h : te σ H fun x H1 => g x σ H1 a) : tAsg te g ⟨a, b, c, d⟩ σ H := h
theorem r_ret (h : te σ H b) : tRet te ⟨a, b, c, d⟩ σ H := h
theorem r_retN (h : b .non H) : tRetN ⟨a, b, c, d⟩ σ H := h
theorem r_drop (h : te σ H fun _ H1 => a σ H1) : tDrop te ⟨a, b, c, d⟩ σ H := h
theorem r_ifS (h : tt σ H fun k H1 => if k = true then t ⟨a, b, c, d⟩ σ H1 else u ⟨a, b, c, d⟩ σ H1) : tIfS tt t u ⟨a, b, c, d⟩ σ H := h
theorem r_par {ta : TA} (h : ta σ H fun vs H1 => ∃ v w, vs = [v, w] ∧ a ((σ.set i (some v)).set j (some w)) H1) : tPar i j ta ⟨a, b, c, d⟩ σ H := h
theorem r_two {P : V → V → Prop} (h : P x y) : ∃ v w, [x, y] = [v, w] ∧ P v w := ⟨x, y, rfl, h⟩
theorem r_aug {ti : TIp} (h : σ[i]? = some (some x)) (k : te σ H fun y H1 => ti x y H1 fun z H2 => a (σ.set i (some z)) H2) : tAug i te ti ⟨a, b, c, d⟩ σ H := ⟨x, h, k⟩
/-! ### targets -/
theorem r_name (h : S (σ.set i (some v)) H) : gName i v σ H S := h
theorem r_gtup {a : Addr} {xs : List V} {n : Nat} (h : H a = some (.tup xs)) (l : xs.length = n) (k : gs xs σ H S) : gTup K n gs (.ref a) σ H S := ⟨a, xs, rfl, SqT.of h, l, k⟩
theorem r_gcons {r : List V} (k : g v σ H fun σ' H' => gs r σ' H' S) : gCons g gs (v :: r) σ H S := ⟨v, r, rfl, k⟩
theorem r_gnil (k : S σ H) : gNil [] σ H S := ⟨rfl, k⟩
theorem r_gsub {t : TSet} (k : ta σ H fun o H1 => tb σ H1 fun i H2 => t o i v H2 fun H3 => S σ H3) : gSub ta tb t v σ H S := k
/-! ### expressions -/
theorem r_var (h : σ[i]? = some (some v)) (k : Q v H) : tVar i σ H Q := ⟨v, h, k⟩
theorem r_c (k : Q v H) : tC v σ H Q := k
theorem r_op {r : R2} (k : ta σ H fun x H1 => tb σ H1 fun y H2 => r x y H2 Q) : tOp r ta tb σ H Q := k
theorem r_un {r : V → Hp → VK → Prop} (k : ta σ H fun x H1 => r x H1 Q) : tUn r ta σ H Q := k
theorem r_I0 {f : Int → Int → V} {a b : Int} (k : Q (f a b) H) : rI0 f (.int a) (.int b) H Q := ⟨a, b, rfl, rfl, k⟩
theorem r_I {C : Int → Int → Prop} {f : Int → Int → V} {a b : Int} (c : C a b) (k : Q (f a b) H) : rI C f (.int a) (.int b) H Q := ⟨a, b, rfl, rfl, c, k⟩
theorem r_U {f : Int → V} {a : Int} (k : Q (f a) H) : rU f (.int a) H Q := ⟨a, rfl, k⟩
theorem r_ip {f : Int → Int → Int} {a b : Int} (k : Q (.int (f a b)) H) : ipI f (.int a) (.int b) H Q := ⟨a, b, rfl, rfl, k⟩
theorem r_eq (s : scal x y = true) (k : Q (.bl (decide (x = y))) H) : rEq x y H Q := ⟨s, k⟩
theorem r_ne (s : scal x y = true) (k : Q (.bl (!decide (x = y))) H) : rNe x y H Q := ⟨s, k⟩
theorem r_eqI {a b : Int} (k : Q (.bl (decide (a = b))) H) : rEq (.int a) (.int b) H Q := ⟨rfl, by
  rw [show decide (V.int a = V.int b) = decide (a = b) by simp]
  exact k⟩
theorem r_neI {a b : Int} (k : Q (.bl (!decide (a = b))) H) : rNe (.int a) (.int b) H Q := ⟨rfl, by
  rw [show decide (V.int a = V.int b) = decide (a = b) by simp]
  exact k⟩
theorem r_eqS {a b : Str} (k : Q (.bl (decide (a = b))) H) : rEq (.str a) (.str b) H Q := ⟨rfl, by
  rw [show decide (V.str a = V.str b) = decide (a = b) by simp]
  exact k⟩
theorem r_neS {a b : Str} (k : Q (.bl (!decide (a = b))) H) : rNe (.str a) (.str b) H Q := ⟨rfl, by
  rw [show decide (V.str a = V.str b) = decide (a = b) by simp]
  exact k⟩
theorem r_chain {r r' : R2} (k : ta σ H fun x H1 => tb σ H1 fun y H2 => r x y H2 fun z H3 => ∃ k, z = .bl k ∧ (if k = true then tc σ H3 fun w H4 => r' y w H4 Q else Q (.bl false) H3)) : tChain r r' ta tb tc σ H Q := k
theorem r_isbl {P : Bool → Prop} {c : Bool} (k : P c) : ∃ b, V.bl c = .bl b ∧ P b := ⟨c, rfl, k⟩
theorem r_test (k : te σ H fun x H' => ∃ b, x = .bl b ∧ R b H') : tTest te σ H R := k
theorem r_B (k : te σ H fun x H' => ∃ b, x = .bl b ∧ R b H') : tB te σ H R := k
theorem r_and (k : tt σ H fun c H1 => if c = true then tu σ H1 R else R false H1) : tAnd tt tu σ H R := k
theorem r_or (k : tt σ H fun c H1 => if c = true then R true H1 else tu σ H1 R) : tOr tt tu σ H R := k
theorem r_not (k : tt σ H fun c H1 => R (!c) H1) : tNot tt σ H R := k
theorem r_andV (k : ta σ H fun x H1 => ∃ c, x = .bl c ∧ if c = true then tb σ H1 Q else Q (.bl false) H1) : tAndV ta tb σ H Q := k
theorem r_orV (k : ta σ H fun x H1 => ∃ c, x = .bl c ∧ if c = true then Q (.bl true) H1 else tb σ H1 Q) : tOrV ta tb σ H Q := k
theorem r_notV (k : ta σ H fun x H1 => ∃ c, x = .bl c ∧ Q (.bl (!c)) H1) : tNotV ta σ H Q := k
theorem r_ifE (k : tt σ H fun c H1 => if c = true then ta σ H1 Q else tb σ H1 Q) : tIf tt ta tb σ H Q := k
theorem r_cons {tr : TA} {P : List V → Hp → Prop} (k : ta σ H fun x H1 => tr σ H1 fun xs H2 => P (x :: xs) H2) : tCons ta tr σ H P := k
theorem r_nil {P : List V → Hp → Prop} (k : P [] H) : tNil σ H P := k
theorem r_CB {r : List V → Hp → VK → Prop} {ta : TA} (k : ta σ H fun vs H1 => r vs H1 Q) : tCB r ta σ H Q := k
theorem r_call {sp : Sp} {dvs : List V} {E : XK} {ta : TA} (k : ta σ H fun vs H1 => sp (vs ++ dvs) H1 Q E) : tCall sp dvs E ta σ H Q := k
/-! ### tests whose answer is known -/
section
variable {A B : Prop} {c : Prop} [Decidable c]
theorem i_t (h : A) : if true = true then A else B := iteT h
theorem i_f (h : B) : if false = true then A else B := iteF h
theorem i_nt (h : B) : if (!true) = true then A else B := iteF h
theorem i_nf (h : A) : if (!false) = true then A else B := iteT h
theorem i_d1 (hc : c) (h : A) : if decide c = true then A else B := by rw [decide_eq_true hc]; exact iteT h
theorem i_d0 (hc : ¬ c) (h : B) : if decide c = true then A else B := by rw [decide_eq_false hc]; exact iteF h
theorem i_n1 (hc : c) (h : B) : if (!decide c) = true then A else B := by rw [decide_eq_true hc]; exact iteF h
theorem i_n0 (hc : ¬ c) (h : A) : if (!decide c) = true then A else B := by rw [decide_eq_false hc]; exact iteT h
theorem i_d2 (h1 : c → A) (h2 : ¬ c → B) : if decide c = true then A else B := by
  by_cases hc : c
  · exact i_d1 hc (h1 hc)
  · exact i_d0 hc (h2 hc)
theorem i_n2 (h1 : ¬ c → A) (h2 : c → B) : if (!decide c) = true then A else B := by
  by_cases hc : c
  · exact i_n1 hc (h2 hc)
  · exact i_n0 hc (h1 hc)
end
theorem q_t {c : Prop} [Decidable c] {P : Bool → Prop} (hc : c) (h : P true) : P (decide c) := by rw [decide_eq_true hc]; exact h
theorem q_d {c : Prop} [Decidable c] {P : Bool → Prop} (h1 : c → P true) (h2 : ¬ c → P false) : P (decide c) := by
  by_cases h : c
  · exact q_t h (h1 h)
  · exact (by rw [decide_eq_false h]; exact h2 h)
theorem q_f {c : Prop} [Decidable c] {P : Bool → Prop} (hc : ¬ c) (h : P false) : P (decide c) := by rw [decide_eq_false hc]; exact h
/-! ### new objects -/
def rTup (xs : List V) (H : Hp) (Q : VK) : Prop := xs.length ≤ sizeLine ∧ ∀ p, H p = none → Q (.ref p) (upd H p (.tup xs))
def rLst (xs : List V) (H : Hp) (Q : VK) : Prop := xs.length ≤ sizeLine ∧ ∀ p, H p = none → Q (.ref p) (upd H p (.lst xs))
theorem r_tup {ta : TA} (k : ta σ H fun xs H1 => rTup xs H1 Q) : tTup ta σ H Q := k
theorem r_lst {ta : TA} (k : ta σ H fun xs H1 => rLst xs H1 Q) : tLst ta σ H Q := k
theorem n_tup {xs : List V} (hl : xs.length ≤ sizeLine) (k : ∀ p H', H p = none → Same H H' → H' p = some (.tup xs) → Q (.ref p) H') : rTup xs H Q := ⟨hl, fun p n => k p _ n (same_new n) upd_same⟩
theorem n_lst {xs : List V} (hl : xs.length ≤ sizeLine) (k : ∀ p H', H p = none → Same H H' → H' p = some (.lst xs) → Q (.ref p) H') : rLst xs H Q := ⟨hl, fun p n => k p _ n (same_new n) upd_same⟩
theorem n_new {Q : VK} {o : HO} (k : ∀ p H', H p = none → Same H H' → H' p = some o → Q (.ref p) H') : ∀ p, H p = none → Q (.ref p) (upd H p o) := fun p n => k p _ n (same_new n) upd_same
/-! ### places -/
theorem r_ixL {p : Addr} {xs : List V} {n : Int} (h : H p = some (.lst xs)) (a : atI xs n = some v) (k : Q v H) : rIx K (.ref p) (.int n) H Q := .inl ⟨p, xs, n, v, rfl, rfl, SqL.of h, a, k⟩
theorem r_ixSL {p : Addr} {xs : List V} {n : Int} (h : SqL K H p xs) (a : atI xs n = some v) (k : Q v H) : rIx K (.ref p) (.int n) H Q := .inl ⟨p, xs, n, v, rfl, rfl, h, a, k⟩
theorem r_ixT {p : Addr} {xs : List V} {n : Int} (h : H p = some (.tup xs)) (a : atI xs n = some v) (k : Q v H) : rIx K (.ref p) (.int n) H Q := .inr (.inl ⟨p, xs, n, v, rfl, rfl, SqT.of h, a, k⟩)
theorem at_nat {α : Type} {xs : List α} {n : Int} {w : α} (h0 : 0 ≤ n) (h : xs[n.toNat]? = some w) : atI xs n = some w := by
  have e : n = ((n.toNat : Nat) : Int) := by omega
  rw [e]
  exact atI_nat h
theorem n_setL {p : Addr} {xs : List V} {n : Int} {P : Hp → Prop} (h : H p = some (.lst xs)) (h0 : 0 ≤ n) (h1 : n < xs.length) (k : ∀ H', Kp p H H' → H' p = some (.lst (xs.set n.toNat v)) → P H') : rSetL (.ref p) (.int n) v H P :=
  ⟨p, xs, n, n.toNat, rfl, rfl, h, by unfold ixN; rw [if_pos h0, if_pos h1], k _ (Kp.upd p H _) upd_same⟩
/-! ### kinds -/
theorem isi_ {a b : String} {r : Bool} {u : V} (ty : TyX K H u (.type a)) (e : kitB a b = some r) (k : Q (.bl r) H) : rIsi K [u, .ty b] H Q := ⟨u, .ty b, .type a, .type b, r, rfl, .ty b, ty, kit_ty e, k⟩
theorem ty_i {n : Int} : TyX K H (.int n) (.type "int") := .base (.int n)
theorem ty_s {z : Str} : TyX K H (.str z) (.type "str") := .base (.str z)
theorem ty_b {z : Bool} : TyX K H (.bl z) (.type "bool") := .base (.bl z)
theorem ty_n : TyX K H .non (.type "NoneType") := .base .non
theorem ty_t {a : Addr} {xs : List V} (h : H a = some (.tup xs)) : TyX K H (.ref a) (.type "tuple") := .base (.tup h)
theorem ty_l {a : Addr} {xs : List V} (h : H a = some (.lst xs)) : TyX K H (.ref a) (.type "list") := .base (.lst h)
theorem kb_ii : kitB "int" "int" = some true := by decide +kernel
theorem kb_ib : kitB "int" "bool" = some false := by decide +kernel
theorem kb_is : kitB "int" "str" = some false := by decide +kernel
theorem kb_it : kitB "int" "tuple" = some false := by decide +kernel
theorem kb_il : kitB "int" "list" = some false := by decide +kernel
theorem kb_si : kitB "str" "int" = some false := by decide +kernel
theorem kb_sb : kitB "str" "bool" = some false := by decide +kernel
theorem kb_ss : kitB "str" "str" = some true := by decide +kernel
theorem kb_st : kitB "str" "tuple" = some false := by decide +kernel
theorem kb_sl : kitB "str" "list" = some false := by decide +kernel
theorem kb_bi : kitB "bool" "int" = some true := by decide +kernel
theorem kb_bb : kitB "bool" "bool" = some true := by decide +kernel
theorem kb_bs : kitB "bool" "str" = some false := by decide +kernel
theorem kb_bt : kitB "bool" "tuple" = some false := by decide +kernel
theorem kb_bL : kitB "bool" "list" = some false := by decide +kernel
theorem kb_ni : kitB "NoneType" "int" = some false := by decide +kernel
theorem kb_nb : kitB "NoneType" "bool" = some false := by decide +kernel
theorem kb_ns : kitB "NoneType" "str" = some false := by decide +kernel
theorem kb_nt : kitB "NoneType" "tuple" = some false := by decide +kernel
theorem kb_nl : kitB "NoneType" "list" = some false := by decide +kernel
theorem kb_ti : kitB "tuple" "int" = some false := by decide +kernel
theorem kb_tb : kitB "tuple" "bool" = some false := by decide +kernel
theorem kb_ts : kitB "tuple" "str" = some false := by decide +kernel
theorem kb_tt : kitB "tuple" "tuple" = some true := by decide +kernel
theorem kb_tl : kitB "tuple" "list" = some false := by decide +kernel
theorem kb_li : kitB "list" "int" = some false := by decide +kernel
theorem kb_lb : kitB "list" "bool" = some false := by decide +kernel
theorem kb_ls : kitB "list" "str" = some false := by decide +kernel
theorem kb_lt : kitB "list" "tuple" = some false := by decide +kernel
theorem kb_ll : kitB "list" "list" = some true := by decide +kernel
/-! ### built-ins by name -/
theorem b_len {X : Cx} : CallR X (.builtin "len") (rLen X.K) := call_len
theorem r_lenL {p : Addr} {xs : List V} (h : H p = some (.lst xs)) (k : Q (.int xs.length) H) : rLen K [.ref p] H Q := ⟨.ref p, xs.length, rfl, .inl ⟨xs, SqL.of h, rfl⟩, k⟩
theorem r_lenSL {p : Addr} {xs : List V} (h : SqL K H p xs) (k : Q (.int xs.length) H) : rLen K [.ref p] H Q := ⟨.ref p, xs.length, rfl, .inl ⟨xs, h, rfl⟩, k⟩
theorem r_lenT {p : Addr} {xs : List V} (h : H p = some (.tup xs)) (k : Q (.int xs.length) H) : rLen K [.ref p] H Q := ⟨.ref p, xs.length, rfl, .inr ⟨xs, SqT.of h, rfl⟩, k⟩
theorem r_lenS {z : Str} (h : z.length ≤ sizeLine) (k : Q (.int z.length) H) : rLen K [.str z] H Q := ⟨.str z, z.length, rfl, ⟨h, rfl⟩, k⟩
def rIntT : List V → Hp → VK → Prop := fun xs H Q => (∃ i, xs = [.int i] ∧ Q (.int i) H) ∨ ∃ k, xs = [.bl k] ∧ Q (.int (if k then 1 else 0)) H
theorem b_int {X : Cx} : CallR X (.type "int") rIntT := call_int1
theorem r_int {n : Int} (k : Q (.int n) H) : rIntT [.int n] H Q := .inl ⟨n, rfl, k⟩
def rMax2 : List V → Hp → VK → Prop := fun xs H Q => ∃ i j, xs = [.int i, .int j] ∧ Q (.int (if j > i then j else i)) H
def rMin2 : List V → Hp → VK → Prop := fun xs H Q => ∃ i j, xs = [.int i, .int j] ∧ Q (.int (if j < i then j else i)) H
theorem b_max2 {X : Cx} (hc : X.calm = true) : CallR X (.builtin "max") rMax2 := call_max2 hc
theorem b_min2 {X : Cx} (hc : X.calm = true) : CallR X (.builtin "min") rMin2 := call_min2 hc
theorem r_max2 {a b : Int} (k : Q (.int (max a b)) H) : rMax2 [.int a, .int b] H Q := ⟨a, b, rfl, by
  rw [show (if b > a then b else a) = max a b by omega]
  exact k⟩
theorem r_min2 {a b : Int} (k : Q (.int (min a b)) H) : rMin2 [.int a, .int b] H Q := ⟨a, b, rfl, by
  rw [show (if b < a then b else a) = min a b by omega]
  exact k⟩
def rListOf (K : PySem.W.Frag) : List V → Hp → VK → Prop := fun xs H Q => ∃ p ys, xs = [.ref p] ∧ (SqL K H p ys ∨ SqT K H p ys) ∧ ∀ l, H l = none → Q (.ref l) (upd H l (.lst ys))
theorem b_list {X : Cx} : CallR X (.type "list") (rListOf X.K) := call_list_of
theorem n_listL {p : Addr} {xs : List V} (h : H p = some (.lst xs)) (k : ∀ q H', H q = none → Same H H' → H' q = some (.lst xs) → Q (.ref q) H') : rListOf K [.ref p] H Q := ⟨p, xs, rfl, .inl (SqL.of h), n_new k⟩
theorem n_listT {p : Addr} {xs : List V} (h : H p = some (.tup xs)) (k : ∀ q H', H q = none → Same H H' → H' q = some (.lst xs) → Q (.ref q) H') : rListOf K [.ref p] H Q := ⟨p, xs, rfl, .inr (SqT.of h), n_new k⟩
def rTupOf (K : PySem.W.Frag) : List V → Hp → VK → Prop := fun xs H Q => ∃ p ys, xs = [.ref p] ∧ ((SqL K H p ys ∧ ∀ l, H l = none → Q (.ref l) (upd H l (.tup ys))) ∨ (SqT K H p ys ∧ Q (.ref p) H))
theorem b_tuple {X : Cx} : CallR X (.type "tuple") (rTupOf X.K) := call_tuple_of
theorem n_tupL {p : Addr} {xs : List V} (h : H p = some (.lst xs)) (k : ∀ q H', H q = none → Same H H' → H' q = some (.tup xs) → Q (.ref q) H') : rTupOf K [.ref p] H Q := ⟨p, xs, rfl, .inl ⟨SqL.of h, n_new k⟩⟩
/-! ### methods of lists -/
def rApp (l : Addr) (y : V) (H : Hp) (Q : VK) : Prop := ∃ xs, H l = some (.lst xs) ∧ xs.length < sizeLine ∧ Q .non (upd H l (.lst (xs ++ [y])))
theorem r_app {l : Addr} {xs : List V} (hv : σ[i]? = some (some (.ref l))) (h : H l = some (.lst xs)) (k : te σ H fun y H1 => rApp l y H1 Q) : tBM K "list" rAppend (tVar i) (tCons te tNil) σ H Q := by
  refine ⟨_, hv, .inl ⟨rfl, _, SqL.of h⟩, ?_⟩
  have e : (fun y H1 => rApp l y H1 Q) = fun y H1 => tNil σ H1 fun xs H2 => rAppend (.ref l) (y :: xs) H2 Q := by
    funext y H1
    refine propext ⟨fun ⟨xs, h1, h2, h3⟩ => ⟨l, xs, y, rfl, rfl, h1, h2, h3⟩, fun ⟨l', xs, y', e1, e2, h1, h2, h3⟩ => ?_⟩
    cases e1
    cases e2
    exact ⟨xs, h1, h2, h3⟩
  rw [e] at k
  exact k
theorem n_app {l : Addr} {xs : List V} (h : H l = some (.lst xs)) (hl : xs.length < sizeLine) (k : ∀ H', Kp l H H' → H' l = some (.lst (xs ++ [y])) → Q .non H') : rApp l y H Q := ⟨xs, h, hl, k _ (Kp.upd l H _) upd_same⟩
/-! ### fields -/
theorem r_fld {f : Str} (k : ta σ H fun x H1 => ∃ a C dx fs v, x = .ref a ∧ H1 a = some (.ins C dx fs) ∧ Cls K C ∧ NoAttr K C f ∧ fs.lookup f = some v ∧ Q v H1) : tFld K ta f σ H Q := k
theorem r_fat {a C dx : Addr} {fs : List (Str × V)} {f : Str} {P : V → Prop} (h : H a = some (.ins C dx fs)) (c : Cls K C) (n : NoAttr K C f) (l : fs.lookup f = some v) (k : P v) :
    ∃ a' C dx fs w, V.ref a = .ref a' ∧ H a' = some (.ins C dx fs) ∧ Cls K C ∧ NoAttr K C f ∧ fs.lookup f = some w ∧ P w := ⟨a, C, dx, fs, v, rfl, h, c, n, l, k⟩
/-! ### loops -/
/-- for x in a list -/
def rForL (K : PySem.W.Frag) (g : TG) (tb : TS) (D : Ends) (σ : St) (x : V) (H : Hp) : Prop := ∃ a, x = .ref a ∧ (∃ xs, SqL K H a xs) ∧ ∃ W : Nat → Nat → St → Hp → Prop, (∃ m, W 0 m σ H) ∧ ∀ i m σ H, W i m σ H →
  ((Itl K a).stop i H ∧ D.nx σ H) ∨ ((Itl K a).go i H ∧ ∃ N : St → Hp → Prop, (∀ σ' H', N σ' H' → ∃ m', m' < m ∧ W (i + 1) m' σ' H') ∧ ∀ x H', (Itl K a).yld i H x H' → g x σ H' fun σ2 H2 => tb { D with nx := N, ct := N, bk := D.nx } σ2 H2)
theorem r_forL {tb : TS} (k : te σ H fun x H1 => rForL K g tb D σ x H1) : tFor (iList K te) g tb D σ H := k
theorem n_forL {p : Addr} {xs : List V} {tb : TS} (Pv : Nat → St → Hp → Prop) (hx : H p = some (.lst xs)) (h0 : Pv 0 σ H) (hl : ∀ i σ H, i ≤ xs.length → Pv i σ H → SqL K H p xs)
    (hs : ∀ i x σ H, xs[i]? = some x → Pv i σ H → g x σ H fun σ2 H2 => tb ⟨Pv (i + 1), b, a, Pv (i + 1)⟩ σ2 H2) (hd : ∀ σ H, Pv xs.length σ H → a σ H)  : rForL K g tb ⟨a, b, c, d⟩ σ (.ref p) H :=
  ⟨p, rfl, ⟨xs, SqL.of hx⟩, for_list (K := K) (a := p) (xs := xs) Pv h0 hl hs hd⟩
theorem n_forSL {p : Addr} {xs : List V} {tb : TS} (Pv : Nat → St → Hp → Prop) (hx : SqL K H p xs) (h0 : Pv 0 σ H) (hl : ∀ i σ H, i ≤ xs.length → Pv i σ H → SqL K H p xs)
    (hs : ∀ i x σ H, xs[i]? = some x → Pv i σ H → g x σ H fun σ2 H2 => tb ⟨Pv (i + 1), b, a, Pv (i + 1)⟩ σ2 H2) (hd : ∀ σ H, Pv xs.length σ H → a σ H)  : rForL K g tb ⟨a, b, c, d⟩ σ (.ref p) H :=
  ⟨p, rfl, ⟨xs, hx⟩, for_list (K := K) (a := p) (xs := xs) Pv h0 hl hs hd⟩
/-- for x in a tuple -/
def rForT (K : PySem.W.Frag) (g : TG) (tb : TS) (D : Ends) (σ : St) (x : V) (H : Hp) : Prop := ∃ a, x = .ref a ∧ (∃ xs, SqT K H a xs) ∧ ∃ W : Nat → Nat → St → Hp → Prop, (∃ m, W 0 m σ H) ∧ ∀ i m σ H, W i m σ H →
  ((Itt K a).stop i H ∧ D.nx σ H) ∨ ((Itt K a).go i H ∧ ∃ N : St → Hp → Prop, (∀ σ' H', N σ' H' → ∃ m', m' < m ∧ W (i + 1) m' σ' H') ∧ ∀ x H', (Itt K a).yld i H x H' → g x σ H' fun σ2 H2 => tb { D with nx := N, ct := N, bk := D.nx } σ2 H2)
theorem r_forT {tb : TS} (k : te σ H fun x H1 => rForT K g tb D σ x H1) : tFor (iTup K te) g tb D σ H := k
theorem n_forT {p : Addr} {xs : List V} {tb : TS} (Pv : Nat → St → Hp → Prop) (hx : H p = some (.tup xs)) (h0 : Pv 0 σ H) (hl : ∀ i σ H, i ≤ xs.length → Pv i σ H → H p = some (.tup xs))
    (hs : ∀ i x σ H, xs[i]? = some x → Pv i σ H → g x σ H fun σ2 H2 => tb ⟨Pv (i + 1), b, a, Pv (i + 1)⟩ σ2 H2) (hd : ∀ σ H, Pv xs.length σ H → a σ H)  : rForT K g tb ⟨a, b, c, d⟩ σ (.ref p) H :=
  ⟨p, rfl, ⟨xs, SqT.of hx⟩, for_tup (K := K) (a := p) (xs := xs) Pv h0 (fun i σ H hi p => SqT.of (hl i σ H hi p)) hs hd⟩
/-- for x in range(n), range(a, b) -/
def rForR (g : TG) (tb : TS) (D : Ends) (σ : St) (vs : List V) (H : Hp) : Prop := ∃ j : Int, vs = [.int j] ∧ -(2 ^ 62) ≤ j ∧ j < 2 ^ 62 ∧ ∃ W : Nat → Nat → St → Hp → Prop, (∃ m, W 0 m σ H) ∧ ∀ i m σ H, W i m σ H →
  ((Itr 0 j.toNat).stop i H ∧ D.nx σ H) ∨ ((Itr 0 j.toNat).go i H ∧ ∃ N : St → Hp → Prop, (∀ σ' H', N σ' H' → ∃ m', m' < m ∧ W (i + 1) m' σ' H') ∧ ∀ x H', (Itr 0 j.toNat).yld i H x H' → g x σ H' fun σ2 H2 => tb { D with nx := N, ct := N, bk := D.nx } σ2 H2)
theorem r_forR {tb : TS} {ta : TA} (k : ta σ H fun vs H1 => rForR g tb D σ vs H1) : tFor (iRng1 ta) g tb D σ H := k
theorem n_forR {n : Int} {tb : TS} (Pv : Nat → St → Hp → Prop) (hn : -(2 ^ 62) ≤ n ∧ n < 2 ^ 62) (h0 : Pv 0 σ H)
    (hs : ∀ i σ H, i < n.toNat → Pv i σ H → g (.int i) σ H fun σ2 H2 => tb ⟨Pv (i + 1), b, a, Pv (i + 1)⟩ σ2 H2) (hd : ∀ σ H, Pv n.toNat σ H → a σ H) : rForR g tb ⟨a, b, c, d⟩ σ [.int n] H :=
  ⟨n, rfl, hn.1, hn.2, for_range (lo := 0) (n := n.toNat) Pv h0 (fun i σ H hi p => by rw [Int.zero_add]; exact hs i σ H hi p) hd⟩
def rForR2 (g : TG) (tb : TS) (D : Ends) (σ : St) (vs : List V) (H : Hp) : Prop := ∃ i j : Int, vs = [.int i, .int j] ∧ (-(2 ^ 62) ≤ i ∧ i < 2 ^ 62 ∧ -(2 ^ 62) ≤ j ∧ j < 2 ^ 62) ∧ ∃ W : Nat → Nat → St → Hp → Prop, (∃ m, W 0 m σ H) ∧ ∀ k m σ H, W k m σ H →
  ((Itr i (j - i).toNat).stop k H ∧ D.nx σ H) ∨ ((Itr i (j - i).toNat).go k H ∧ ∃ N : St → Hp → Prop, (∀ σ' H', N σ' H' → ∃ m', m' < m ∧ W (k + 1) m' σ' H') ∧ ∀ x H', (Itr i (j - i).toNat).yld k H x H' → g x σ H' fun σ2 H2 => tb { D with nx := N, ct := N, bk := D.nx } σ2 H2)
theorem r_forR2 {tb : TS} {ta : TA} (k : ta σ H fun vs H1 => rForR2 g tb D σ vs H1) : tFor (iRng2 ta) g tb D σ H := k
theorem n_forR2 {lo n : Int} {tb : TS} (Pv : Nat → St → Hp → Prop) (hn : -(2 ^ 62) ≤ lo ∧ lo < 2 ^ 62 ∧ -(2 ^ 62) ≤ n ∧ n < 2 ^ 62) (h0 : Pv 0 σ H)
    (hs : ∀ i σ H, i < (n - lo).toNat → Pv i σ H → g (.int (lo + i)) σ H fun σ2 H2 => tb ⟨Pv (i + 1), b, a, Pv (i + 1)⟩ σ2 H2) (hd : ∀ σ H, Pv (n - lo).toNat σ H → a σ H) : rForR2 g tb ⟨a, b, c, d⟩ σ [.int lo, .int n] H :=
  ⟨lo, n, rfl, hn, for_range (lo := lo) (n := (n - lo).toNat) Pv h0 hs hd⟩
/-- while: what the test's answer asks; P: what must hold ahead of the next turn -/
def rWb (P : St → Hp → Prop) (tb : TS) (D : Ends) (σ : St) (b : Bool) (H : Hp) : Prop := if b = true then ∃ N : St → Hp → Prop, (∀ σ' H', N σ' H' → P σ' H') ∧ tb { D with nx := N, ct := N, bk := D.nx } σ H else D.nx σ H
theorem n_while {tb : TS} (Pv : Nat → St → Hp → Prop) (m0 : Nat) (h0 : Pv m0 σ H) (hs : ∀ m σ H, Pv m σ H → tt σ H (rWb (fun σ' H' => ∃ m', m' < m ∧ Pv m' σ' H') tb D σ)) : tWhile tt tb D σ H := ⟨Pv, ⟨m0, h0⟩, hs⟩
theorem w_t {P : St → Hp → Prop} {tb : TS} (k : tb ⟨P, b, a, P⟩ σ H) : rWb P tb ⟨a, b, c, d⟩ σ true H := iteT ⟨P, fun _ _ h => h, k⟩
theorem w_f {P : St → Hp → Prop} {tb : TS} (k : a σ H) : rWb P tb ⟨a, b, c, d⟩ σ false H := iteF k
theorem w_d {P : St → Hp → Prop} {tb : TS} {q : Prop} [Decidable q] (k1 : q → tb ⟨P, b, a, P⟩ σ H) (k0 : ¬ q → a σ H) : rWb P tb ⟨a, b, c, d⟩ σ (decide q) H := by
  by_cases h : q
  · rw [decide_eq_true h]
    exact w_t (k1 h)
  · rw [decide_eq_false h]
    exact w_f (k0 h)
end
end Bf
namespace Bf
open PySem L2
theorem same_kp {q : Addr} {H H1 H2 : Hp} (n : H q = none) (s : Same H H1) (k : Kp q H1 H2) : Same H H2 := fun b o e => k b o (ne_of_none e n) (s b o e)
theorem map_at {α : Type} {f : α → V} {l : List α} {i : Nat} {x : V} (h : (l.map f)[i]? = some x) : ∃ y, l[i]? = some y ∧ x = f y := by
  rw [List.getElem?_map] at h
  cases e : l[i]? with
  | none => rw [e] at h; cases h
  | some y => rw [e] at h; exact ⟨y, rfl, (Option.some.inj h).symm⟩
theorem take_snoc {α : Type} {l : List α} {i : Nat} {x : α} (h : l[i]? = some x) : l.take (i + 1) = l.take i ++ [x] := by
  rw [List.take_add_one, h]
  rfl
theorem foldl_take {α β : Type} (f : β → α → β) (b : β) {l : List α} {i : Nat} {x : α} (h : l[i]? = some x) : (l.take (i + 1)).foldl f b = f ((l.take i).foldl f b) x := by
  rw [take_snoc h, List.foldl_append]
  rfl
theorem range_at {n i : Nat} (h : i < n) : (List.range n)[i]? = some i := by simp [h]
theorem sql_same {K : PySem.W.Frag} {H H' : Hp} {a : Addr} {xs : List V} (h : SqL K H a xs) (s : Same H H') : SqL K H' a xs :=
  h.elim (fun h => .inl (h.elim (fun h => .inl (s _ _ h)) fun ⟨o, h⟩ => .inr ⟨o, s _ _ h⟩)) fun h => .inr h
end Bf
/-! rules of our own: zip of a tuple and a list; -o, len(o) of an own instance -/
namespace Bf
open PySem L2
/-- the tuple at a and the list at b, of one length, the items in new pairs -/
def ItzM (K : PySem.W.Frag) (a b : Addr) : It :=
  ⟨fun i H => ∃ (xs ys : List V) (x y : V), SqT K H a xs ∧ SqL K H b ys ∧ xs[i]? = some x ∧ ys[i]? = some y,
    fun i H v H' => ∃ T x y, v = .ref T ∧ H T = none ∧ H' = upd H T (.tup [x, y]) ∧ (∀ xs, SqT K H a xs → xs[i]? = some x) ∧ ∀ ys, SqL K H b ys → ys[i]? = some y,
    fun i H => ∃ xs ys : List V, SqT K H a xs ∧ SqL K H b ys ∧ i = xs.length ∧ i = ys.length⟩
theorem sep_of {z TI TO i1 i2 a b : Addr} (D : ZipApart z TI TO i1 i2 a b) : ZipSep2 z TI TO i1 i2 [i1, a] [i2, b] :=
  { TIz := D.TIz, TOz := D.TOz, TITO := D.TITO, TIi1 := D.TIi1, mem1 := by simp,
    zf1 := fun h => by
      rcases List.mem_cons.mp h with e | h
      · exact D.i1z e.symm
      · exact D.l1z (List.mem_singleton.mp h).symm,
    Tf1 := fun h => by
      rcases List.mem_cons.mp h with e | h
      · exact D.TOi1 e
      · exact D.l1TO (List.mem_singleton.mp h).symm,
    TIi2 := D.TIi2, mem2 := by simp,
    zf2 := fun h => by
      rcases List.mem_cons.mp h with e | h
      · exact D.i2z e.symm
      · exact D.l2z (List.mem_singleton.mp h).symm,
    Tf2 := fun h => by
      rcases List.mem_cons.mp h with e | h
      · exact D.TOi2 e
      · exact D.l2TO (List.mem_singleton.mp h).symm,
    sep1_2 := fun h => by
      rcases List.mem_cons.mp h with e | h
      · exact D.i12 e
      · exact D.l2i1 (List.mem_singleton.mp h).symm,
    sep2_1 := fun h => by
      rcases List.mem_cons.mp h with e | h
      · exact D.i12 e.symm
      · exact D.l1i2 (List.mem_singleton.mp h).symm }
theorem turn_zipM {P : Program} {w : World} {K : PySem.W.Frag} {elts : List Expr} {kk : Nat} {tpos : Pos} {a b z TI TO i1 i2 : Addr} (D : ZipApart z TI TO i1 i2 a b) :
    Turn P w K (.Tuple elts kk tpos) (ItzM K a b) [z, TI, TO, i1, i2] z (fun i h => IsZip h z TI TO .none ∧ IsPair h TI (.ref i1) (.ref i2) ∧ (∃ x y, IsPair h TO x y) ∧ h.IsTupleIter i1 a i ∧ h.IsListIter i2 b i) where
  mem := by simp
  obj := fun i h st c hc => by
    obtain ⟨hz, hTI, ⟨x, y, hTO⟩, ⟨o1, e1, _, d1⟩, ⟨o2, e2, _, d2⟩⟩ := st
    have e' : c = z ∨ c = TI ∨ c = TO ∨ c = i1 ∨ c = i2 := by simpa using hc
    rcases e' with q | q | q | q | q
    · rw [q]; exact ⟨_, hz, fun v q => nomatch q⟩
    · rw [q]; exact ⟨_, hTI, fun v q => nomatch q⟩
    · rw [q]; exact ⟨_, hTO, fun v q => nomatch q⟩
    · rw [q]; exact ⟨o1, e1, fun v q => by rw [d1] at q; cases q⟩
    · rw [q]; exact ⟨o2, e2, fun v q => by rw [d2] at q; cases q⟩
  keep := fun i h h' st k => by
    obtain ⟨hz, hTI, ⟨x, y, hTO⟩, h1, h2⟩ := st
    exact ⟨k z (by simp) _ hz, k TI (by simp) _ hTI, ⟨x, y, k TO (by simp) _ hTO⟩, h1.at fun o q => k i1 (by simp) o q, h2.at fun o q => k i2 (by simp) o q⟩
  item := by
    intro X hP hw hK hc i pins s σ H E I hf st hg
    subst hP hw hK
    obtain ⟨hz, hTI, ⟨x0, y0, hTO⟩, h1, h2⟩ := st
    obtain ⟨xs, ys, x, y, hqx, hqy, hx, hy⟩ := hg
    obtain ⟨its, rv, p, _⟩ := I.tuple hqx
    obtain ⟨its2, rv2, p2, _⟩ := I.list hqy
    obtain ⟨u, hu, ru⟩ := rv.get hx
    obtain ⟨u2, hu2, ru2⟩ := rv2.get hy
    have hzl : z < s.heap.objs.size := Heap.lt_size hz
    have hh : X.A.in1.handled = none := I.ok.hd hc
    have D1 := Draws.tuple (prog := X.prog) (w := X.w) hh i1 a D.l1i1 its.toArray
    have D2 := Draws.list (prog := X.prog) (w := X.w) hh i2 b D.l2i2 its2.toArray
    have lt1 : i < its.toArray.size := by simpa using (List.getElem?_eq_some_iff.mp hu).1
    have lt2 : i < its2.toArray.size := by simpa using (List.getElem?_eq_some_iff.mp hu2).1
    refine wpAny_pyNext_zipD2_item (sep_of D) D1 D2 hz hTI hTO ⟨h1, p⟩ ⟨h2, p2.isList⟩ lt1 lt2 fun w1 w2 h' tk e1 e2 z' TO' g1 g2 hT hsz hk => ?_
    obtain rfl : u = w1 := by
      have q : its.toArray[i]? = some u := by simpa using hu
      rw [q] at e1
      exact Option.some.inj e1
    obtain rfl : u2 = w2 := by
      have q : its2.toArray[i]? = some u2 := by simpa using hu2
      rw [q] at e2
      exact Option.some.inj e2
    have h1' := g1.1
    have h2' := g2.1
    refine ⟨_, rfl, wpAny_letOwnedTupleGo_zip (s := { s with heap := h', toks := tk }) z' fun h'' z'' sb => ?_⟩
    have hT2 : h''.get? s.heap.objs.size = some { cls := .type "tuple", data := .seq #[u, u2] } := (sb.2 _ (Nat.ne_of_gt hzl)).trans hT
    have new : ObjOk X.prog X.w (upd H s.heap.objs.size (.tup [x, y])) h'' s.heap.objs.size (.tup [x, y]) :=
      ⟨by show 2 ≤ sizeLine; decide, [u, u2], .cons ru (.cons ru2 .nil), ⟨_, hT2, rfl, _, rfl⟩⟩
    have I1 : Inv X pins σ (upd H s.heap.objs.size (.tup [x, y])) { s with heap := h'', toks := tk } :=
      I.turnedNew (t' := tk) (ch := [z, TI, TO, i1, i2]) (fun c o hb q => (sb.2 c (fun q' => hb (by simp [q']))).trans (hk c o (fun q' => hb (by simp [q'])) (fun q' => hb (by simp [q'])) (fun q' => hb (by simp [q'])) (fun q' => hb (by simp [q'])) q)) hf (Nat.le_refl _) new
    refine ⟨.ref s.heap.objs.size, _, I1, rfl, ⟨_, x, y, rfl, I.hok.fresh (Nat.le_refl _), rfl, fun l hl => by rw [I.tuple_inj hl hqx]; exact hx, fun l hl => by rw [I.list_inj hl hqy]; exact hy⟩, ⟨z'', ?_, ⟨u, u2, ?_⟩, ?_, ?_⟩, fun c hcm => ?_⟩
    · exact (sb.2 _ D.TIz).trans (hk _ _ D.TIz D.TITO D.TIi1 D.TIi2 hTI)
    · exact (sb.2 _ D.TOz).trans TO'
    · exact h1'.at fun o q => (sb.2 _ D.i1z).trans q
    · exact h2'.at fun o q => (sb.2 _ D.i2z).trans q
    · have hlt : c < s.heap.objs.size := by
        have e' : c = z ∨ c = TI ∨ c = TO ∨ c = i1 ∨ c = i2 := by simpa using hcm
        rcases e' with q | q | q | q | q
        · rw [q]; exact hzl
        · rw [q]; exact Heap.lt_size hTI
        · rw [q]; exact Heap.lt_size hTO
        · rw [q]; obtain ⟨_, e1, _⟩ := h1; exact Heap.lt_size e1
        · rw [q]; obtain ⟨_, e2, _⟩ := h2; exact Heap.lt_size e2
      rw [upd_ne (Nat.ne_of_lt hlt)]
      exact (hf c hcm).1
  done := by
    intro X hP hw hK hc i pins s σ H E I hf st hg
    subst hP hw hK
    obtain ⟨hz, hTI, ⟨x0, y0, hTO⟩, h1, h2⟩ := st
    obtain ⟨xs, ys, hqx, hqy, e1, e2⟩ := hg
    obtain ⟨its, rv, p, _⟩ := I.tuple hqx
    obtain ⟨its2, rv2, p2, _⟩ := I.list hqy
    have l1 := rv.length
    have l2 := rv2.length
    have hh : X.A.in1.handled = none := I.ok.hd hc
    have D1 := Draws.tuple (prog := X.prog) (w := X.w) hh i1 a D.l1i1 its.toArray
    have D2 := Draws.list (prog := X.prog) (w := X.w) hh i2 b D.l2i2 its2.toArray
    refine wpAny_pyNext_zipD2_end (sep_of D) D1 D2 hz hTI hTO ⟨h1, p⟩ ⟨h2, p2.isList⟩ (by simp; omega) (by simp; omega) (.inl (by simp; omega)) fun h' tk hk => ⟨rfl, I.turnedL (t' := tk) (ch := [z, TI, TO, i1, i2]) (fun c o hb q =>
      hk c o (fun q' => hb (by simp [q'])) (fun q' => hb (by simp [q'])) (fun q' => hb (by simp [q'])) (fun q' => hb (by simp [q'])) q) hf⟩
  self := fun A i s Q E st h => wpAny_pyIter_zip st.1 h
def iZipM (K : PySem.W.Frag) (ta : TA) : TI := fun σ H R => ta σ H fun vs H1 => ∃ a b xs ys, vs = [.ref a, .ref b] ∧ SqT K H1 a xs ∧ SqL K H1 b ys ∧ R (ItzM K a b) H1
theorem pi_zipTL {X : Cx} {e e2 : Expr} {ta : TA} {p pos tpos : Pos} {elts : List Expr} {kk : Nat} (hg : Gl X "zip") (hm : X.mg "zip" = none) (ha : PA X [e, e2] ta)
    (hs : starEach [e, e2] X.env = (false, eval e X.env) :: starEach [e2] X.env := by rfl) (hpl : (backTo pos (starEach [e2] X.env)).any (·.1) = false := by rfl) :
    PI X (.Tuple elts kk tpos) (.Call (.Name "zip" p) [e, e2] [] pos) (iZipM X.K ta) := by
  refine ⟨fun pins s σ H R I h => ?_⟩
  refine PyProof.Rows.Call_ (ld_blt I hg hm PyProof.Rows.boot_zip (PyProof.Rows.callWith_type1 (thn (ha.run pos pins s σ H _ I h) fun us s1 ⟨vs, H1, I1, r1, q1⟩ => ?_) hs hpl))
  obtain ⟨a, b, xs, ys, ex, hqx, hqy, q⟩ := q1
  subst ex
  cases r1 with
  | cons r rr =>
    cases rr with
    | cons r' rr =>
      cases rr
      cases r
      cases r'
      obtain ⟨its, rv, p1, _⟩ := I1.tuple hqx
      obtain ⟨its2, rv2, p2, _⟩ := I1.list hqy
      obtain ⟨o1, ho1, _⟩ := id p1
      have la : a < s1.heap.objs.size := Heap.lt_size ho1
      have lb : b < s1.heap.objs.size := p2.lt
      refine zip_begins2 (begins_tuple a its.toArray) (begins_list b its2.toArray) p1 p2.isList fun h' hz hTI hTO h1 h2 hsz hk => wpAny_pyIter_zip hz ?_
      have I2 : Inv X pins σ H1 { s1 with heap := h' } := I1.kept (t' := s1.toks) hk
      refine ⟨s1.heap.objs.size + 4, [s1.heap.objs.size + 4, s1.heap.objs.size + 2, s1.heap.objs.size + 3, s1.heap.objs.size, s1.heap.objs.size + 1], _, _, H1, rfl, I2, turn_zipM (PySem.W.ktu_apart s1.heap.objs.size a b la lb), ⟨hz, hTI, ⟨_, _, hTO⟩, ⟨_, h1, rfl, rfl⟩, ⟨_, h2, rfl, rfl⟩⟩, fun c hcm => ?_, q⟩
      have e' : c = s1.heap.objs.size + 4 ∨ c = s1.heap.objs.size + 2 ∨ c = s1.heap.objs.size + 3 ∨ c = s1.heap.objs.size ∨ c = s1.heap.objs.size + 1 := by simpa using hcm
      have hle : s1.heap.objs.size ≤ c := by
        rcases e' with z | z | z | z | z
        · rw [z]; exact Nat.le_add_right _ _
        · rw [z]; exact Nat.le_add_right _ _
        · rw [z]; exact Nat.le_add_right _ _
        · rw [z]; exact Nat.le_refl _
        · rw [z]; exact Nat.le_add_right _ _
      exact I1.fpOk hle (I1.hok.fresh hle)
/-- the loop's reading -/
def rForZ (K : PySem.W.Frag) (g : TG) (tb : TS) (D : Ends) (σ : St) (vs : List V) (H : Hp) : Prop := ∃ a b xs ys, vs = [.ref a, .ref b] ∧ SqT K H a xs ∧ SqL K H b ys ∧ ∃ W : Nat → Nat → St → Hp → Prop, (∃ m, W 0 m σ H) ∧ ∀ i m σ H, W i m σ H →
  ((ItzM K a b).stop i H ∧ D.nx σ H) ∨ ((ItzM K a b).go i H ∧ ∃ N : St → Hp → Prop, (∀ σ' H', N σ' H' → ∃ m', m' < m ∧ W (i + 1) m' σ' H') ∧ ∀ x H', (ItzM K a b).yld i H x H' → g x σ H' fun σ2 H2 => tb { D with nx := N, ct := N, bk := D.nx } σ2 H2)
section
variable {K : PySem.W.Frag} {σ : St} {H : Hp} {D : Ends} {tb : TS} {ta : TA} {g : TG} {a c d : St → Hp → Prop} {b : VK}
theorem r_forZ (k : ta σ H fun vs H1 => rForZ K g tb D σ vs H1) : tFor (iZipM K ta) g tb D σ H := k
theorem n_forZ {p q : Addr} {xs ys : List V} (Pv : Nat → St → Hp → Prop) (hp : H p = some (.tup xs)) (hq : H q = some (.lst ys)) (hl : xs.length = ys.length) (h0 : Pv 0 σ H) (hk : ∀ i σ H, Pv i σ H → H p = some (.tup xs) ∧ H q = some (.lst ys))
    (hs : ∀ (i : Nat) x y T σ H H', xs[i]? = some x → ys[i]? = some y → Pv i σ H → H T = none → Same H H' → H' T = some (.tup [x, y]) → g (.ref T) σ H' fun σ2 H2 => tb ⟨Pv (i + 1), b, a, Pv (i + 1)⟩ σ2 H2) (hd : ∀ σ H, Pv xs.length σ H → a σ H) : rForZ K g tb ⟨a, b, c, d⟩ σ [.ref p, .ref q] H := by
  refine ⟨p, q, xs, ys, rfl, SqT.of hp, SqL.of hq, fun i m σ H => m = xs.length - i ∧ i ≤ xs.length ∧ Pv i σ H, ⟨xs.length, rfl, Nat.zero_le _, h0⟩, ?_⟩
  rintro i m σ H ⟨rfl, hi, v⟩
  obtain ⟨k1, k2⟩ := hk i σ H v
  by_cases hlt : i < xs.length
  · have hx : xs[i]? = some xs[i] := List.getElem?_eq_getElem hlt
    have hlt2 : i < ys.length := by omega
    have hy : ys[i]? = some ys[i] := List.getElem?_eq_getElem hlt2
    refine .inr ⟨⟨xs, ys, xs[i], ys[i], SqT.of k1, SqL.of k2, hx, hy⟩, Pv (i + 1), fun σ' H' v' => ⟨xs.length - (i + 1), by omega, rfl, hlt, v'⟩, fun x H' y => ?_⟩
    obtain ⟨T, x', y', rfl, nT, rfl, e1, e2⟩ := y
    have f1 := e1 xs (SqT.of k1)
    have f2 := e2 ys (SqL.of k2)
    exact hs i x' y' T σ H _ f1 f2 v nT (same_new nT) upd_same
  · have e : i = xs.length := by omega
    subst e
    exact .inl ⟨⟨xs, ys, SqT.of k1, SqL.of k2, rfl, hl⟩, hd σ H v⟩
end
/-! ### -o and len(o) -/
section
variable {X : Cx} {k : Nat} {C : Addr} {sp : Sp}
def rNegO (C : Addr) (sp : Sp) : V → Hp → VK → Prop := fun x H Q => ∃ a dx fs, x = .ref a ∧ H a = some (.ins C dx fs) ∧ sp [.ref a] H Q E0
theorem un_own (c : C8.Met X.prog X.w X.K X.mg X.base k C "__neg__" sp []) {j : Nat} (hr : Room j X.A) (hk : k ≤ j) : UnR X (unaryOp .USub) (rNegO C sp) := by
  intro pins s σ H x v Q I rx h
  obtain ⟨a, dx, fs, rfl, ha, q⟩ := h
  obtain ⟨f, fd, ps, ds, hc, hm, F, b, d⟩ := c.ex
  cases (show v = Value.ref a from rx)
  obtain ⟨mA, O, _⟩ := ins_get I.hok ha
  obtain ⟨od, J, _⟩ := O.look
  obtain ⟨m, hF⟩ := I.fr
  refine PySem.W.ksp_neg hF I.ok.mod.kin J hm.at_ hm.fn ?_
  exact run_fn (us := [.ref a]) (vs := [.ref a]) F (hr.mono hk) b d pass0 I (.cons rfl .nil) q
def rLenO (C : Addr) (sp : Sp) : List V → Hp → VK → Prop := fun xs H Q => ∃ a dx fs, xs = [.ref a] ∧ H a = some (.ins C dx fs) ∧ sp [.ref a] H (fun v H' => ∃ n : Int, v = .int n ∧ (0 ≤ n ∧ n < 2 ^ 63) ∧ Q (.int n) H') E0
theorem call_lenO (c : C8.Met X.prog X.w X.K X.mg X.base k C "__len__" sp []) {j : Nat} (hr : Room j X.A) (hk : k + 1 ≤ j) : CallR X (.builtin "len") (rLenO C sp) := by
  intro pins s σ H xs us Q I r h
  obtain ⟨a, dx, fs, rfl, ha, q⟩ := h
  obtain ⟨f, fd, ps, ds, hc, hm, F, b, d⟩ := c.ex
  obtain ⟨u, rfl, ru⟩ := r.one
  cases (show u = Value.ref a from ru)
  obtain ⟨mA, O, _⟩ := ins_get I.hok ha
  obtain ⟨od, J, _⟩ := O.look
  obtain ⟨m, hF⟩ := I.fr
  refine PySem.W.len_K hF I.ok.mod.kin J hm.at_ hm.fn ?_
  have hr1 : Room k X.A.in1 := Room.in1 (hr.mono hk)
  have r2 : Vals ([V.ref a] ++ []) ([Value.ref a] ++ ds) := (show Vals [V.ref a] [Value.ref a] from .cons rfl .nil).append d
  have hl : ([Value.ref a] ++ ds).length = ps.length := by rw [← r2.length]; exact F.len _ _ _ _ q
  refine wpAny_call (codeAny_mono (F.run X.A.in1 X.stack s H ⟨[Value.ref a], []⟩ ([Value.ref a] ++ ds) ([V.ref a] ++ []) _ E0 hr1 I.env0.in1 (b s [Value.ref a] I.kIn hl) r2 q) fun r s' hq => ?_)
  cases r with
  | error e => exact pass0 pins σ H s e s' I hq
  | ok fl =>
    cases fl with
    | ret u =>
      obtain ⟨v, H', I', rv, n, e, hn, qn⟩ := I.after hq
      subst e
      obtain ⟨t, e⟩ := (show ∃ t, u = Value.int n t from rv)
      subst e
      exact ⟨hn, .int n, H', I'.tok _, ⟨_, rfl⟩, qn⟩
    | next => exact False.elim hq
    | brk => exact False.elim hq
    | cont => exact False.elim hq
end
end Bf
/-! reading lemmas, second part: slices, fields, methods, comprehensions -/
namespace Bf
open PySem L2
section
variable {K : PySem.W.Frag} {σ : St} {H H1 : Hp} {D : Ends} {t u : TS} {te ta tb tc tv : TE} {ts : TA} {tt tu : TT} {g : TG} {gs : TGs} {v x y : V} {Q : VK} {R : Bool → Hp → Prop} {S : St → Hp → Prop} {i j : Nat} {a c d : St → Hp → Prop} {b : VK}
/-! ### slices, sums of lists and tuples -/
theorem r_sl {r : V → Option Int → Option Int → Hp → VK → Prop} {tl th : TO} (k : te σ H fun x H1 => tl σ H1 fun l H2 => th σ H2 fun u H3 => r x l u H3 Q) : tSl r te tl th σ H Q := k
theorem r_nopart {R : Option Int → Hp → Prop} (k : R none H) : tNoPart σ H R := k
theorem r_part {R : Option Int → Hp → Prop} (k : te σ H fun x H1 => ∃ i, x = .int i ∧ R (some i) H1) : tPart te σ H R := k
theorem r_isint {P : Int → Prop} {n : Int} (k : P n) : ∃ i, V.int n = .int i ∧ P i := ⟨n, rfl, k⟩
theorem cut_to {xs : List V} {n : Int} (h : 0 ≤ n) : cutV xs none (some n) = xs.take n.toNat := by
  have e : n = ((n.toNat : Nat) : Int) := by omega
  unfold cutV
  rw [HT.sIx_none, List.drop_zero, Nat.sub_zero, e, HT.sIx_nat, Int.toNat_natCast]
  rcases Nat.le_total n.toNat xs.length with h1 | h1
  · rw [Nat.min_eq_left h1]
  · rw [Nat.min_eq_right h1, List.take_length, List.take_of_length_le h1]
theorem cut_from {xs : List V} {n : Int} (h : 0 ≤ n) : cutV xs (some n) none = xs.drop n.toNat := by
  have e : n = ((n.toNat : Nat) : Int) := by omega
  unfold cutV
  rw [HT.sIx_none, e, HT.sIx_nat, Int.toNat_natCast]
  rcases Nat.le_total n.toNat xs.length with h1 | h1
  · rw [Nat.min_eq_left h1, List.take_of_length_le (by rw [List.length_drop]; exact Nat.le_refl _)]
  · rw [Nat.min_eq_right h1, Nat.sub_self, List.take_zero, List.drop_eq_nil_of_le h1]
theorem n_slL {p : Addr} {xs ys : List V} {lo hi : Option Int} (h : H p = some (.lst xs)) (e : cutV xs lo hi = ys) (k : ∀ q H', H q = none → Same H H' → H' q = some (.lst ys) → Q (.ref q) H') : rSlL K (.ref p) lo hi H Q :=
  ⟨p, xs, rfl, SqL.of h, by subst e; exact n_new k⟩
theorem n_slT {p : Addr} {xs ys : List V} {lo hi : Option Int} (h : H p = some (.tup xs)) (w : ¬ (HT.sIx xs.length 0 lo = 0 ∧ HT.sIx xs.length xs.length hi = xs.length)) (e : cutV xs lo hi = ys) (k : ∀ q H', H q = none → Same H H' → H' q = some (.tup ys) → Q (.ref q) H') : rSlT K (.ref p) lo hi H Q :=
  ⟨p, xs, rfl, SqT.of h, w, by subst e; exact n_new k⟩
theorem n_catT {p q : Addr} {xs ys : List V} (h : H p = some (.tup xs)) (h2 : H q = some (.tup ys)) (e1 : xs ≠ []) (e2 : ys ≠ []) (hl : xs.length + ys.length ≤ sizeLine) (k : ∀ q H', H q = none → Same H H' → H' q = some (.tup (xs ++ ys)) → Q (.ref q) H') : rCatT K (.ref p) (.ref q) H Q :=
  ⟨p, q, xs, ys, rfl, rfl, SqT.of h, SqT.of h2, e1, hl, fun z => absurd z e2, fun _ => n_new k⟩
theorem n_cat {p q : Addr} {xs ys : List V} (h : H p = some (.lst xs)) (h2 : H q = some (.lst ys)) (hl : xs.length + ys.length ≤ sizeLine) (k : ∀ q H', H q = none → Same H H' → H' q = some (.lst (xs ++ ys)) → Q (.ref q) H') : rCat (.ref p) (.ref q) H Q :=
  ⟨p, q, xs, ys, rfl, rfl, h, h2, hl, n_new k⟩
def rRevL (K : PySem.W.Frag) (x : V) (H1 : Hp) (Q : VK) : Prop := ∃ a xs, x = .ref a ∧ SqL K H1 a xs ∧ ∀ p, H1 p = none → Q (.ref p) (upd H1 p (.lst xs.reverse))
theorem r_revL (k : te σ H fun x H1 => rRevL K x H1 Q) : tRevL K te σ H Q := k
theorem n_revL {p : Addr} {xs : List V} (h : H p = some (.lst xs)) (k : ∀ q H', H q = none → Same H H' → H' q = some (.lst xs.reverse) → Q (.ref q) H') : rRevL K (.ref p) H Q := ⟨p, xs, rfl, SqL.of h, n_new k⟩
/-! ### fields, methods, new instances -/
def rSFld (K : PySem.W.Frag) (f : Str) (D : Ends) (σ : St) (y x : V) (H2 : Hp) : Prop := ∃ a C dx fs, x = .ref a ∧ H2 a = some (.ins C dx fs) ∧ Cls K C ∧ NoAttr K C f ∧ fs.length < 1000 ∧ D.nx σ (upd H2 a (.ins C dx (putF f y fs)))
theorem r_sfld {f : Str} (k : tv σ H fun y H1 => ta σ H1 fun x H2 => rSFld K f ⟨a, b, c, d⟩ σ y x H2) : sFld K ta tv f ⟨a, b, c, d⟩ σ H := k
theorem n_sfld {p C dx : Addr} {fs : List (Str × V)} {f : Str} (h : H p = some (.ins C dx fs)) (k1 : Cls K C) (k2 : NoAttr K C f) (l : fs.length < 1000) (k : ∀ H', Kp p H H' → H' p = some (.ins C dx (putF f y fs)) → a σ H') : rSFld K f ⟨a, b, c, d⟩ σ y (.ref p) H :=
  ⟨p, C, dx, fs, rfl, h, k1, k2, l, k _ (Kp.upd p H _) upd_same⟩
def rMeth (C : Addr) (m : Str) (sp : Sp) (dvs : List V) (E : XK) (t : TA) (σ : St) (x : V) (H1 : Hp) (Q : VK) : Prop := ∃ a dx fs, x = .ref a ∧ H1 a = some (.ins C dx fs) ∧ fs.lookup m = none ∧ t σ H1 fun vs H2 => sp (x :: (vs ++ dvs)) H2 Q E
theorem r_meth {C : Addr} {m : Str} {sp : Sp} {dvs : List V} {E : XK} (k : ta σ H fun x H1 => rMeth C m sp dvs E ts σ x H1 Q) : tMeth C m sp dvs E ta ts σ H Q := k
theorem n_meth {C p dx : Addr} {m : Str} {sp : Sp} {dvs : List V} {E : XK} {fs : List (Str × V)} (h : H p = some (.ins C dx fs)) (l : fs.lookup m = none) (k : ts σ H fun vs H2 => sp (.ref p :: (vs ++ dvs)) H2 Q E) : rMeth C m sp dvs E ts σ (.ref p) H Q := ⟨p, dx, fs, rfl, h, l, k⟩
def rMake (C : Addr) (sp : Sp) (dvs : List V) (E : XK) (vs : List V) (H1 : Hp) (Q : VK) : Prop := ∀ x dx, H1 x = none → H1 dx = none → dx ≠ x → sp (.ref x :: (vs ++ dvs)) (upd (upd H1 dx (.own x)) x (.ins C dx [])) (fun v H2 => v = .non ∧ Q (.ref x) H2) E
theorem r_make {C : Addr} {sp : Sp} {dvs : List V} {E : XK} (k : ts σ H fun vs H1 => rMake C sp dvs E vs H1 Q) : tMake C sp dvs E ts σ H Q := k
theorem n_make {C : Addr} {sp : Sp} {dvs : List V} {E : XK} {vs : List V} (k : ∀ x dx H', H x = none → Same H H' → H' x = some (.ins C dx []) → sp (.ref x :: (vs ++ dvs)) H' (fun v H2 => v = .non ∧ Q (.ref x) H2) E) : rMake C sp dvs E vs H Q :=
  fun x dx nx nd hne => k x dx _ nx (fun p o e => by
    rw [upd_ne (ne_of_none e nx), upd_ne (ne_of_none e nd)]
    exact e) upd_same
/-! ### list comprehensions -/
/-- what an element's value is handed to -/
def rAcc (D : Addr) (N : Hp → Prop) : VK := fun y H4 => ∃ acc, H4 D = some (.lst acc) ∧ acc.length < sizeLine ∧ N (upd H4 D (.lst (acc ++ [y])))
theorem n_acc {D : Addr} {N : Hp → Prop} {acc : List V} (h : H D = some (.lst acc)) (l : acc.length < sizeLine) (k : ∀ H5, Kp D H H5 → H5 D = some (.lst (acc ++ [y])) → N H5) : rAcc D N y H := ⟨acc, h, l, k _ (Kp.upd D H _) upd_same⟩
/-- the loop, its source being J -/
def rLc (J : It) (g : TG) (tt : TT) (te : TE) (vs : List Nat) (σ : St) (H1 : Hp) (Q : VK) : Prop := ∀ D, H1 D = none → ∃ W : Nat → Nat → Hp → Prop, (∃ m, W 0 m (upd H1 D (.lst []))) ∧ ∀ i m H, W i m H →
  (J.stop i H ∧ Q (.ref D) H) ∨ (J.go i H ∧ ∃ Nx : Hp → Prop, (∀ H', Nx H' → ∃ m', m' < m ∧ W (i + 1) m' H') ∧ ∀ x H', J.yld i H x H' → g x (wipe σ vs) H' fun σ2 H2 => wipe σ2 vs = wipe σ vs ∧ tt σ2 H2 fun b H3 =>
    if b = true then te σ2 H3 (rAcc D Nx) else Nx H3)
/-- one turn -/
def rTurn (g : TG) (tt : TT) (te : TE) (vs : List Nat) (σ : St) (D : Addr) (N : Hp → Prop) (x : V) (H : Hp) : Prop := g x (wipe σ vs) H fun σ2 H2 => wipe σ2 vs = wipe σ vs ∧ tt σ2 H2 fun b H3 => if b = true then te σ2 H3 (rAcc D N) else N H3
theorem r_turn {vs : List Nat} {D : Addr} {N : Hp → Prop} (k : g x (wipe σ vs) H fun σ2 H2 => wipe σ2 vs = wipe σ vs ∧ tt σ2 H2 fun b H3 => if b = true then te σ2 H3 (rAcc D N) else N H3) : rTurn g tt te vs σ D N x H := k
theorem r_wipe {σ2 : St} {vs : List Nat} {P : Prop} (h : wipe σ2 vs = wipe σ vs) (k : P) : wipe σ2 vs = wipe σ vs ∧ P := ⟨h, k⟩
theorem r_yes (k : R true H) : tYes σ H R := k
def rLcL (K : PySem.W.Frag) (g : TG) (tt : TT) (te : TE) (vs : List Nat) (σ : St) (x : V) (H1 : Hp) (Q : VK) : Prop := ∃ a, x = .ref a ∧ (∃ xs, SqL K H1 a xs) ∧ rLc (Itl K a) g tt te vs σ H1 Q
theorem r_lcL {vs : List Nat} (k : ta σ H fun x H1 => rLcL K g tt te vs σ x H1 Q) : tLc (iList K ta) g tt te vs σ H Q := k
theorem n_lcL {p : Addr} {xs : List V} {vs : List Nat} (hx : H p = some (.lst xs))
    (k : ∀ D H0, H D = none → Same H H0 → H0 D = some (.lst []) → ∃ Pv : Nat → Hp → Prop, Pv 0 H0 ∧ (∀ i H, Pv i H → H p = some (.lst xs)) ∧
      (∀ i x H, xs[i]? = some x → Pv i H → rTurn g tt te vs σ D (Pv (i + 1)) x H) ∧ ∀ H', Pv xs.length H' → Q (.ref D) H') : rLcL K g tt te vs σ (.ref p) H Q := by
  refine ⟨p, rfl, ⟨xs, SqL.of hx⟩, fun D hD => ?_⟩
  obtain ⟨Pv, h0, hk, hs, hd⟩ := k D _ hD (same_new hD) upd_same
  exact lc_list (K := K) (a := p) (xs := xs) Pv h0 (fun i H _ p => SqL.of (hk i H p)) hs hd
def rLcT (K : PySem.W.Frag) (g : TG) (tt : TT) (te : TE) (vs : List Nat) (σ : St) (x : V) (H1 : Hp) (Q : VK) : Prop := ∃ a, x = .ref a ∧ (∃ xs, SqT K H1 a xs) ∧ rLc (Itt K a) g tt te vs σ H1 Q
theorem r_lcT {vs : List Nat} (k : ta σ H fun x H1 => rLcT K g tt te vs σ x H1 Q) : tLc (iTup K ta) g tt te vs σ H Q := k
theorem n_lcT {p : Addr} {xs : List V} {vs : List Nat} (hx : H p = some (.tup xs))
    (k : ∀ D H0, H D = none → Same H H0 → H0 D = some (.lst []) → ∃ Pv : Nat → Hp → Prop, Pv 0 H0 ∧ (∀ i H, Pv i H → H p = some (.tup xs)) ∧
      (∀ i x H, xs[i]? = some x → Pv i H → rTurn g tt te vs σ D (Pv (i + 1)) x H) ∧ ∀ H', Pv xs.length H' → Q (.ref D) H') : rLcT K g tt te vs σ (.ref p) H Q := by
  refine ⟨p, rfl, ⟨xs, SqT.of hx⟩, fun D hD => ?_⟩
  obtain ⟨Pv, h0, hk, hs, hd⟩ := k D _ hD (same_new hD) upd_same
  exact lc_tup (K := K) (a := p) (xs := xs) Pv h0 (fun i H _ p => SqT.of (hk i H p)) hs hd
def rLcR (g : TG) (tt : TT) (te : TE) (vs : List Nat) (σ : St) (us : List V) (H1 : Hp) (Q : VK) : Prop := ∃ j : Int, us = [.int j] ∧ -(2 ^ 62) ≤ j ∧ j < 2 ^ 62 ∧ rLc (Itr 0 j.toNat) g tt te vs σ H1 Q
theorem r_lcR {vs : List Nat} (k : ts σ H fun us H1 => rLcR g tt te vs σ us H1 Q) : tLc (iRng1 ts) g tt te vs σ H Q := k
theorem n_lcR {n : Int} {vs : List Nat} (hn : -(2 ^ 62) ≤ n ∧ n < 2 ^ 62)
    (k : ∀ D H0, H D = none → Same H H0 → H0 D = some (.lst []) → ∃ Pv : Nat → Hp → Prop, Pv 0 H0 ∧
      (∀ i H, i < n.toNat → Pv i H → rTurn g tt te vs σ D (Pv (i + 1)) (.int i) H) ∧ ∀ H', Pv n.toNat H' → Q (.ref D) H') : rLcR g tt te vs σ [.int n] H Q := by
  refine ⟨n, rfl, hn.1, hn.2, fun D hD => ?_⟩
  obtain ⟨Pv, h0, hs, hd⟩ := k D _ hD (same_new hD) upd_same
  exact lc_range (lo := 0) (n := n.toNat) Pv h0 (fun i H hi p => by rw [Int.zero_add]; exact hs i H hi p) hd
/-! ### the same rules in a comprehension's block: K is named -/
theorem pe_fldK {X : Cx} {o : Expr} {f : Str} {pos : Pos} (hK : X.K = K) (he : PE X o ta) (hb : attributeBase o f X.env (eval o X.env) = eval o X.env) : PE X (.Attribute o f pos) (tFld K ta f) := by
  subst hK
  exact pe_fld he hb
theorem ix_seqK {X : Cx} (hK : X.K = K) : IxR X (rIx K) := by
  subst hK
  exact ix_seq
theorem b_tupleK {X : Cx} (hK : X.K = K) : CallR X (.type "tuple") (rTupOf K) := by
  subst hK
  exact b_tuple
theorem b_lenK {X : Cx} (hK : X.K = K) : CallR X (.builtin "len") (rLen K) := by
  subst hK
  exact b_len
theorem pi_listK {X : Cx} {tg o : Expr} (hK : X.K = K) (he : PE X o te) : PI X tg o (iList K te) := by
  subst hK
  exact pi_list he
theorem pi_tupK {X : Cx} {tg o : Expr} (hK : X.K = K) (he : PE X o te) : PI X tg o (iTup K te) := by
  subst hK
  exact pi_tup he
/-! ### dicts -/
def rDGet (x y : V) (H2 : Hp) (Q : VK) : Prop := ∃ a v, x = .ref a ∧ DGet H2 a y (some v) ∧ Q v H2
theorem r_dget {td ty : TE} (k : td σ H fun x H1 => ty σ H1 fun y H2 => rDGet x y H2 Q) : tDGet td ty σ H Q := k
theorem n_dgetS {p : Addr} {kvs : List (Key × V)} {z : Str} (h : H p = some (.dK kvs)) (e : valV kvs (.inr z) = some v) (k : Q v H) : rDGet (.ref p) (.str z) H Q :=
  ⟨p, v, rfl, by rw [← e]; exact DGet.k (k := .inr z) h, k⟩
def rDisp (p : Addr) (Q : VK) (ps : List (V × V)) (H2 : Hp) : Prop := H2 p = some (.dK []) ∧ ∃ kvs : List (Key × V), ps = kvs.map (fun kv => (kV kv.1, kv.2)) ∧ kvs.length ≤ 15 ∧ Q (.ref p) (upd H2 p (.dK (mergeK [] kvs)))
theorem r_disp {trs : List (TE × TE)} (k : ∀ p H1, H p = none → Same H H1 → H1 p = some (.dK []) → tPairs trs σ H1 (rDisp p Q)) : tDisp trs σ H Q := fun p n => k p _ n (same_new n) upd_same
theorem r_pcons {tk tv : TE} {trs : List (TE × TE)} {R : List (V × V) → Hp → Prop} (k : tk σ H fun x H1 => tv σ H1 fun y H2 => tPairs trs σ H2 fun ps H3 => R ((x, y) :: ps) H3) : tPairs ((tk, tv) :: trs) σ H R := k
theorem r_pnil {R : List (V × V) → Hp → Prop} (k : R [] H) : tPairs [] σ H R := k
theorem n_disp {p : Addr} {ps : List (V × V)} {kvs kvs' : List (Key × V)} (h : H p = some (.dK [])) (e : ps = kvs.map (fun kv => (kV kv.1, kv.2))) (l : kvs.length ≤ 15) (m : mergeK [] kvs = kvs') (k : ∀ H3, Kp p H H3 → H3 p = some (.dK kvs') → Q (.ref p) H3) : rDisp p Q ps H :=
  ⟨h, kvs, e, l, by rw [m]; exact k _ (Kp.upd p H _) upd_same⟩
end
end Bf
/-! reading lemmas, third part: truth of lists, pop, extend, unpacked lists, ranges of three -/
namespace Bf
open PySem L2
section
variable {K : PySem.W.Frag} {σ : St} {H H1 : Hp} {D : Ends} {t u : TS} {te ta tb tc tv : TE} {ts : TA} {tt tu : TT} {g : TG} {gs : TGs} {v x y : V} {Q : VK} {R : Bool → Hp → Prop} {S : St → Hp → Prop} {i j : Nat} {a c d : St → Hp → Prop} {b : VK}
def rTru (K : PySem.W.Frag) (x : V) (H : Hp) (R : Bool → Hp → Prop) : Prop := ∃ k, TruV K x H k ∧ R k H
def tTru (K : PySem.W.Frag) (te : TE) : TT := fun σ H R => te σ H fun x H' => rTru K x H' R
theorem pt_tru {X : Cx} {o : Expr} (ha : PE X o ta) (he : ∀ whole, isTrue o X.env whole = (do let v ← whole; standAt o.pos; holding [v] (truthy v))) : PT X o (tTru X.K ta) := pt_truth ha he
theorem r_tru (k : te σ H fun x H' => rTru K x H' R) : tTru K te σ H R := k
theorem n_truL {p : Addr} {xs : List V} (h : H p = some (.lst xs)) (k : R (!xs.isEmpty) H) : rTru K (.ref p) H R := ⟨_, .inl ⟨xs, SqL.of h, rfl⟩, k⟩
theorem n_truT {p : Addr} {xs : List V} (h : H p = some (.tup xs)) (k : R (!xs.isEmpty) H) : rTru K (.ref p) H R := ⟨_, .inr (.inl ⟨xs, SqT.of h, rfl⟩), k⟩
theorem r_pop {l : Addr} {xs : List V} (hv : σ[i]? = some (some (.ref l))) (h : H l = some (.lst (xs ++ [y]))) (k : ∀ H', Kp l H H' → H' l = some (.lst xs) → Q y H') : tBM0 K "list" rPop (tVar i) σ H Q :=
  ⟨_, hv, .inl ⟨rfl, _, SqL.of h⟩, l, _, y, rfl, rfl, h, by simp, by rw [List.dropLast_concat]; exact k _ (Kp.upd l H _) upd_same⟩
def rExt (l : Addr) (y : V) (H : Hp) (Q : VK) : Prop := ∃ b xs zs, y = .ref b ∧ H l = some (.lst xs) ∧ H b = some (.lst zs) ∧ xs.length + zs.length ≤ sizeLine ∧ Q .non (upd H l (.lst (xs ++ zs)))
theorem r_ext {l : Addr} {xs : List V} (hv : σ[i]? = some (some (.ref l))) (h : H l = some (.lst xs)) (k : te σ H fun y H1 => rExt l y H1 Q) : tBM K "list" rExtend (tVar i) (tCons te tNil) σ H Q := by
  refine ⟨_, hv, .inl ⟨rfl, _, SqL.of h⟩, ?_⟩
  have e : (fun y H1 => rExt l y H1 Q) = fun y H1 => tNil σ H1 fun xs H2 => rExtend (.ref l) (y :: xs) H2 Q := by
    funext y H1
    refine propext ⟨fun ⟨b, xs, zs, e, h1, h2, h3, h4⟩ => ⟨l, b, xs, zs, rfl, by rw [e], h1, h2, h3, h4⟩, fun ⟨l', b, xs, zs, e1, e2, h1, h2, h3, h4⟩ => ?_⟩
    cases e1
    cases e2
    exact ⟨b, xs, zs, rfl, h1, h2, h3, h4⟩
  rw [e] at k
  exact k
theorem n_ext {l p : Addr} {xs zs : List V} (h : H l = some (.lst xs)) (h2 : H p = some (.lst zs)) (hl : xs.length + zs.length ≤ sizeLine) (k : ∀ H', Kp l H H' → H' l = some (.lst (xs ++ zs)) → Q .non H') : rExt l (.ref p) H Q := ⟨p, xs, zs, rfl, h, h2, hl, k _ (Kp.upd l H _) upd_same⟩
theorem r_glst {p : Addr} {xs : List V} {n : Nat} (h : H p = some (.lst xs)) (l : xs.length = n) (k : gs xs σ H S) : gLst K n gs (.ref p) σ H S := ⟨p, xs, rfl, SqL.of h, l, k⟩
def rForR3 (g : TG) (tb : TS) (D : Ends) (σ : St) (vs : List V) (H : Hp) : Prop := ∃ (i j c : Int) (n : Nat), vs = [.int i, .int j, .int c] ∧ RgC i j c n ∧ ∃ W : Nat → Nat → St → Hp → Prop, (∃ m, W 0 m σ H) ∧ ∀ k m σ H, W k m σ H →
  ((Itc i c n).stop k H ∧ D.nx σ H) ∨ ((Itc i c n).go k H ∧ ∃ N : St → Hp → Prop, (∀ σ' H', N σ' H' → ∃ m', m' < m ∧ W (k + 1) m' σ' H') ∧ ∀ x H', (Itc i c n).yld k H x H' → g x σ H' fun σ2 H2 => tb { D with nx := N, ct := N, bk := D.nx } σ2 H2)
theorem r_forR3 {tb : TS} {ta : TA} (k : ta σ H fun vs H1 => rForR3 g tb D σ vs H1) : tFor (iRng3 ta) g tb D σ H := k
theorem n_forDown {hi lo : Int} {tb : TS} (Pv : Nat → St → Hp → Prop) (hn : -(2 ^ 62) ≤ lo ∧ lo < 2 ^ 62 ∧ -(2 ^ 62) ≤ hi ∧ hi < 2 ^ 62) (h0 : Pv 0 σ H)
    (hs : ∀ i σ H, i < (hi - lo).toNat → Pv i σ H → g (.int (hi - i)) σ H fun σ2 H2 => tb ⟨Pv (i + 1), b, a, Pv (i + 1)⟩ σ2 H2) (hd : ∀ σ H, Pv (hi - lo).toNat σ H → a σ H) : rForR3 g tb ⟨a, b, c, d⟩ σ [.int hi, .int lo, .int (-1)] H :=
  ⟨hi, lo, -1, (hi - lo).toNat, rfl, RgC.neg hn.2.2.1 hn.2.2.2 hn.1 hn.2.1, for_rangeC (lo := hi) (c := -1) (n := (hi - lo).toNat) Pv h0 (fun i σ H h p => by
    rw [show hi + (i : Nat) * (-1 : Int) = hi - i by omega]
    exact hs i σ H h p) hd⟩
def rLcR2 (g : TG) (tt : TT) (te : TE) (vs : List Nat) (σ : St) (us : List V) (H1 : Hp) (Q : VK) : Prop := ∃ i j : Int, us = [.int i, .int j] ∧ (-(2 ^ 62) ≤ i ∧ i < 2 ^ 62 ∧ -(2 ^ 62) ≤ j ∧ j < 2 ^ 62) ∧ rLc (Itr i (j - i).toNat) g tt te vs σ H1 Q
theorem r_lcR2 {vs : List Nat} (k : ts σ H fun us H1 => rLcR2 g tt te vs σ us H1 Q) : tLc (iRng2 ts) g tt te vs σ H Q := k
theorem n_lcR2 {lo n : Int} {vs : List Nat} (hn : -(2 ^ 62) ≤ lo ∧ lo < 2 ^ 62 ∧ -(2 ^ 62) ≤ n ∧ n < 2 ^ 62)
    (k : ∀ D H0, H D = none → Same H H0 → H0 D = some (.lst []) → ∃ Pv : Nat → Hp → Prop, Pv 0 H0 ∧
      (∀ i H, i < (n - lo).toNat → Pv i H → rTurn g tt te vs σ D (Pv (i + 1)) (.int (lo + i)) H) ∧ ∀ H', Pv (n - lo).toNat H' → Q (.ref D) H') : rLcR2 g tt te vs σ [.int lo, .int n] H Q := by
  refine ⟨lo, n, rfl, hn, fun D hD => ?_⟩
  obtain ⟨Pv, h0, hs, hd⟩ := k D _ hD (same_new hD) upd_same
  exact lc_range (lo := lo) (n := (n - lo).toNat) Pv h0 hs hd
theorem r_isN {Q : VK} (e : y = .non) (k : Q (.bl (decide (x = .non))) H) : y = .non ∧ Q (.bl (decide (x = .non))) H := ⟨e, k⟩
end
end Bf
/-! the text by places, what the top has written, how a promise is made -/
namespace Bf
open PySem L2
def topS (i : Nat) : Stmt := PySem.Challenge.pw_brimful_k42_whole_trees_are_called_back.main.body.getD i (.Pass ⟨0, 0, 0, 0⟩)
structure Gs (mg : Str → Option Value) : Prop where
  c_FACTORS : ∃ u, mg "FACTORS" = some u ∧ RelV (.int 3) u
  c_MODULUS : ∃ u, mg "MODULUS" = some u ∧ RelV (.int 1000000000) u
  c_CELLS : ∃ u, mg "CELLS" = some u ∧ RelV (.int 60) u
  c_INPUTS : ∃ u, mg "INPUTS" = some u ∧ RelV (.int 60) u
  c_STEPS : ∃ u, mg "STEPS" = some u ∧ RelV (.int 20000) u
  c_VALUES : ∃ u, mg "VALUES" = some u ∧ RelV (.int 40) u
  c_NODES : ∃ u, mg "NODES" = some u ∧ RelV (.int 200) u
  c_NESTED : ∃ u, mg "NESTED" = some u ∧ RelV (.int 40) u
  n_bool : mg "bool" = none
  n_int : mg "int" = none
  n_isinstance : mg "isinstance" = none
  n_len : mg "len" = none
  n_list : mg "list" = none
  n_max : mg "max" = none
  n_range : mg "range" = none
  n_str : mg "str" = none
  n_tuple : mg "tuple" = none
  n_zip : mg "zip" = none
/-- a def of the module, of no default -/
structure DefAt (K : PySem.W.Frag) (mg : Str → Option Value) (x : Str) (st : Stmt) : Prop where
  ex : ∃ (f : Addr) (fd : FuncData), FunD K x x (defArgs st) (defBody st) (defScope st) [] [] f fd ∧ mg x = some (.ref f)
section
variable {P : Program} {w : World} {K : PySem.W.Frag} {mg : Str → Option Value} {base : Heap}
theorem cal_of {x : Str} {st : Stmt} {N ps : List Str} {k : Nat} {sp : Sp} (F : DefAt K mg x st) (S : FnScope N ps (defScope st))
    (b : ∀ (kV doc pm : Value) (an : Option Addr) (cdv ct : Value) (us : List Value), us.length = ps.length → bindArgs (PySem.W.fnOf x x (defArgs st) (defBody st) (defScope st) .none kV doc pm an cdv ct) ⟨us, []⟩ = pure (ps.zip us))
    (len : ∀ vs H Q E, sp vs H Q E → vs.length = ps.length)
    (hbody : ∀ (f : Addr) (cdv : Value) (A : Around) (outer : List Env) (s : Shared) (H : Hp) (vs : List V) (Q : VK) (E : XK), Room k (A.deeper (PyProof.Rows.envOfC x (defScope st) s.heap.objs.size f cdv)) → sp vs H Q E →
      ∃ t, PSs (cxOf CX0 P w K mg base N x (defScope st) f cdv A outer s H E).nox (defBody st) t ∧ t ⟨fun _ H' => Q .non H', Q, fun _ _ => False, fun _ _ => False⟩ (start N vs) H) : C8.Cal P w K mg base (k + 1) x sp [] := by
  obtain ⟨f, fd, D, m⟩ := F.ex
  refine ⟨f, fd, ps, [], FunD.ok D S len fun cdv A outer s H vs Q E hr h => ?_, m, D.kp, FunD.bindsN D b, .nil⟩
  obtain ⟨t, h1, h2⟩ := hbody f cdv A outer s H vs Q E hr h
  exact ⟨t, h1.nox, h2⟩
theorem fn_of {x qual : Str} {st : Stmt} {f : Addr} {fd : FuncData} {N ps : List Str} {k : Nat} {sp : Sp} (D : FunD K x qual (defArgs st) (defBody st) (defScope st) [] [] f fd) (S : FnScope N ps (defScope st))
    (len : ∀ vs H Q E, sp vs H Q E → vs.length = ps.length)
    (hbody : ∀ (cdv : Value) (A : Around) (outer : List Env) (s : Shared) (H : Hp) (vs : List V) (Q : VK) (E : XK), Room k (A.deeper (PyProof.Rows.envOfC qual (defScope st) s.heap.objs.size f cdv)) → sp vs H Q E →
      ∃ t, PSs (cxOf CX0 P w K mg base N qual (defScope st) f cdv A outer s H E).nox (defBody st) t ∧ t ⟨fun _ H' => Q .non H', Q, fun _ _ => False, fun _ _ => False⟩ (start N vs) H) : FnOk P w K mg base CX0 (k + 1) f fd ps sp :=
  FunD.ok D S len fun cdv A outer s H vs Q E hr h => by
    obtain ⟨t, h1, h2⟩ := hbody cdv A outer s H vs Q E hr h
    exact ⟨t, h1.nox, h2⟩
end
end Bf
/-! plain mathematics of numbers.py -/
namespace Bf
/-- n is a prime, by trial division -/
def Pr (n : Int) : Prop := ∀ d : Int, 2 ≤ d → d * d ≤ n → n % d ≠ 0
theorem pr_even {n : Int} (h2 : 2 ≤ n) (he : n % 2 = 0) : Pr n ↔ n = 2 := by
  constructor
  · intro h
    by_cases h4 : n = 2
    · exact h4
    · exact absurd he (h 2 (by omega) (by omega))
  · intro e d hd hdd
    subst e
    have : d * d ≥ 2 * 2 := Int.mul_le_mul hd hd (by omega) (by omega)
    omega
theorem dvd_mod {n d : Int} : n % d = 0 ↔ d ∣ n := ⟨Int.dvd_of_emod_eq_zero, Int.emod_eq_zero_of_dvd⟩
/-- odd n: no divisor below d; then none below d + 2 -/
theorem pr_step {n d : Int} (ho : n % 2 ≠ 0) (hd : d % 2 = 1) (h : ∀ e : Int, 2 ≤ e → e < d → n % e ≠ 0) (hn : n % d ≠ 0) : ∀ e : Int, 2 ≤ e → e < d + 2 → n % e ≠ 0 := by
  intro e h2 he
  by_cases h1 : e < d
  · exact h e h2 h1
  · by_cases h3 : e = d
    · subst h3; exact hn
    · have h4 : e = d + 1 := by omega
      intro hz
      apply ho
      have hdv : e ∣ n := dvd_mod.mp hz
      have h2e : (2 : Int) ∣ e := by
        apply dvd_mod.mp
        omega
      exact dvd_mod.mpr (Int.dvd_trans h2e hdv)
theorem pr_end {n d : Int} (h : ∀ e : Int, 2 ≤ e → e < d → n % e ≠ 0) (hd : 0 ≤ d) (hdd : n < d * d) : Pr n := by
  intro e h2 hee
  apply h e h2
  apply Int.lt_of_not_ge
  intro hge
  have : d * d ≤ e * e := Int.mul_le_mul hge hge hd (by omega)
  omega
/-! ### inverses -/
/-- v is the inverse of n modulo m -/
def IsInv (m n v : Int) : Prop := 0 ≤ v ∧ v < m ∧ v * n % m = 1
theorem inv_one {m n v w : Int} (hm : 2 ≤ m) (hv : IsInv m n v) (hw : IsInv m n w) : v = w := by
  obtain ⟨v0, v1, v2⟩ := hv
  obtain ⟨w0, w1, w2⟩ := hw
  have e : (v - w) % m = 0 := by
    have h1 : v * (w * n) % m = v % m := by
      rw [Int.mul_emod, w2, Int.mul_one, Int.emod_emod]
    have h2 : w * (v * n) % m = w % m := by
      rw [Int.mul_emod, v2, Int.mul_one, Int.emod_emod]
    have h3 : v * (w * n) = w * (v * n) := by rw [← Int.mul_assoc, ← Int.mul_assoc, Int.mul_comm v w]
    rw [h3] at h1
    have h4 : v % m = w % m := h1.symm.trans h2
    exact Int.emod_eq_zero_of_dvd (Int.dvd_of_emod_eq_zero (by rw [Int.sub_emod, h4, Int.sub_self, Int.zero_emod]))
  have h5 : v % m = v := Int.emod_eq_of_lt v0 v1
  have h6 : w % m = w := Int.emod_eq_of_lt w0 w1
  obtain ⟨k, hk⟩ := dvd_mod.mp e
  have : k = 0 := by
    by_cases h0 : k = 0
    · exact h0
    · exfalso
      rcases Int.lt_or_gt_of_ne h0 with hl | hg
      · have : m * k ≤ m * (-1) := Int.mul_le_mul_of_nonneg_left (by omega) (by omega)
        omega
      · have : m * 1 ≤ m * k := Int.mul_le_mul_of_nonneg_left (by omega) (by omega)
        omega
  subst this
  omega
open Classical in
noncomputable def invOf (n m : Int) : Int := if h : ∃ v, IsInv m n v then h.choose else 0
theorem invOf_is {m n v : Int} (h : IsInv m n v) : IsInv m n (invOf n m) := by
  unfold invOf
  have hh : ∃ v, IsInv m n v := ⟨v, h⟩
  rw [dif_pos hh]
  exact hh.choose_spec
theorem invOf_eq {m n v : Int} (hm : 2 ≤ m) (h : IsInv m n v) : invOf n m = v := inv_one hm (invOf_is h) h
/-- the extended Euclid's turn -/
structure Eu (n m r o a b : Int) : Prop where
  r0 : 0 ≤ r
  r1 : r ≤ m
  o0 : 0 ≤ o
  o1 : o ≤ m
  ra : (r - a * n) % m = 0
  ob : (o - b * n) % m = 0
  g : Int.gcd r o = Int.gcd n m
theorem gcd_mod (m n : Int) : Int.gcd m (n % m) = Int.gcd m n := by
  have e : n % m = n - n / m * m := by
    have := Int.emod_add_mul_ediv n m
    rw [Int.mul_comm] at this
    omega
  rw [e, Int.gcd_sub_mul_right_right]
theorem eu_start {n m : Int} (hm : 2 ≤ m) : Eu n m (n % m) m 1 0 where
  r0 := Int.emod_nonneg n (by omega)
  r1 := Int.le_of_lt (Int.emod_lt_of_pos n (by omega))
  o0 := by omega
  o1 := Int.le_refl m
  ra := by
    rw [Int.one_mul]
    apply Int.emod_eq_zero_of_dvd
    have : n % m - n = m * -(n / m) := by
      have := Int.emod_add_mul_ediv n m
      rw [Int.mul_neg]
      omega
    exact ⟨_, this⟩
  ob := by
    rw [Int.zero_mul, Int.sub_zero]
    exact Int.emod_self
  g := by
    rw [Int.gcd_comm, Int.gcd_comm n m, gcd_mod]
theorem eu_turn {n m r o a b : Int} (h : Eu n m r o a b) (ho : 0 < o) : Eu n m o (r - r / o * o) b (a - r / o * b) ∧ r - r / o * o < o ∧ 0 ≤ r - r / o * o ∧ 0 ≤ r / o ∧ r / o ≤ m := by
  have e : r - r / o * o = r % o := by
    have := Int.emod_add_mul_ediv r o
    rw [Int.mul_comm] at this
    omega
  have l0 := Int.emod_nonneg r (show o ≠ 0 by omega)
  have l1 := Int.emod_lt_of_pos r ho
  have q0 : 0 ≤ r / o := Int.ediv_nonneg h.r0 (by omega)
  have q1 : r / o ≤ r := Int.ediv_le_self o h.r0
  refine ⟨⟨h.o0, h.o1, by omega, by have := h.o1; omega, h.ob, ?_, ?_⟩, by omega, by omega, q0, by have := h.r1; omega⟩
  · have h1 := dvd_mod.mp h.ra
    have h2 := dvd_mod.mp h.ob
    apply dvd_mod.mpr
    have : r - r / o * o - (a - r / o * b) * n = (r - a * n) - r / o * (o - b * n) := by
      rw [Int.sub_mul, Int.mul_sub, Int.mul_assoc]
      omega
    rw [this]
    exact Int.dvd_sub h1 (Int.dvd_trans h2 (Int.dvd_mul_left _ _))
  · rw [e, ← h.g, gcd_mod, Int.gcd_comm]
theorem eu_end {n m r a b : Int} (hm : 2 ≤ m) (h : Eu n m r 0 a b) : (r = 1 ↔ Int.gcd n m = 1) ∧ (r = 1 → IsInv m n (a % m)) := by
  have g := h.g
  rw [Int.gcd_zero_right] at g
  have r0 := h.r0
  refine ⟨by omega, fun e => ⟨Int.emod_nonneg a (by omega), Int.emod_lt_of_pos a (by omega), ?_⟩⟩
  have h1 := h.ra
  rw [e] at h1
  obtain ⟨k, hk⟩ := dvd_mod.mp h1
  have : a * n = 1 + m * (-k) := by
    rw [Int.mul_neg]
    omega
  rw [Int.mul_emod, Int.emod_emod, ← Int.mul_emod, this, Int.add_mul_emod_self_left]
  exact Int.emod_eq_of_lt (by omega) (by omega)
end Bf
/-! plain mathematics: weights, interpolate -/
namespace Bf
/-- the product of (x - j) over j in range(K) but i, modulo p -/
def wprod (p x i : Int) (js : List Nat) : Int := js.foldl (fun (acc : Int) (j : Nat) => if (j : Int) ≠ i then acc * (x - j) % p else acc) 1
noncomputable def wgt (p : Int) (K : Nat) (x : Int) (i : Nat) : Int := wprod p x i (List.range K) * invOf (wprod p i i (List.range K)) p % p
noncomputable def wgts (p : Int) (K : Nat) (x : Int) : List Int := (List.range K).map (wgt p K x)
/-- every number from 1 to K - 1 is a unit modulo p -/
def Units (p : Int) (K : Nat) : Prop := ∀ d : Nat, 1 ≤ d → d < K → Int.gcd (d : Int) p = 1
theorem wprod_bd {p x i : Int} (hp : 2 ≤ p) (js : List Nat) : 0 ≤ wprod p x i js ∧ wprod p x i js < p := by
  unfold wprod
  suffices h : ∀ (acc : Int), 0 ≤ acc → acc < p → 0 ≤ js.foldl (fun (acc : Int) (j : Nat) => if (j : Int) ≠ i then acc * (x - j) % p else acc) acc ∧ js.foldl (fun (acc : Int) (j : Nat) => if (j : Int) ≠ i then acc * (x - j) % p else acc) acc < p from h 1 (by omega) (by omega)
  induction js with
  | nil => intro acc h0 h1; exact ⟨h0, h1⟩
  | cons j r ih =>
    intro acc h0 h1
    rw [List.foldl_cons]
    by_cases e : (j : Int) ≠ i
    · rw [if_pos e]
      exact ih _ (Int.emod_nonneg _ (by omega)) (Int.emod_lt_of_pos _ (by omega))
    · rw [if_neg e]
      exact ih _ h0 h1
theorem gcd_mul_mod {a b p : Int} (ha : Int.gcd a p = 1) (hb : Int.gcd b p = 1) : Int.gcd (a * b % p) p = 1 := by
  rw [Int.gcd_comm, gcd_mod, Int.gcd_comm]
  have h1 : Nat.Coprime a.natAbs p.natAbs := ha
  have h2 : Nat.Coprime b.natAbs p.natAbs := hb
  show Nat.gcd (a * b).natAbs p.natAbs = 1
  rw [Int.natAbs_mul]
  exact Nat.Coprime.mul_left h1 h2
theorem gcd_diff {p : Int} {K i j : Nat} (u : Units p K) (hi : i < K) (hj : j < K) (hne : (j : Int) ≠ (i : Int)) : Int.gcd ((i : Int) - j) p = 1 := by
  rcases Nat.lt_or_ge j i with h | h
  · have e : (i : Int) - j = ((i - j : Nat) : Int) := by omega
    rw [e]
    exact u _ (by omega) (by omega)
  · have e : (i : Int) - j = -((j - i : Nat) : Int) := by omega
    rw [e, Int.neg_gcd]
    exact u _ (by omega) (by omega)
theorem wprod_unit {p : Int} {K i : Nat} (u : Units p K) (hi : i < K) (js : List Nat) (hjs : ∀ j ∈ js, j < K) : Int.gcd (wprod p i i js) p = 1 := by
  unfold wprod
  suffices h : ∀ (acc : Int), Int.gcd acc p = 1 → Int.gcd (js.foldl (fun (acc : Int) (j : Nat) => if (j : Int) ≠ i then acc * ((i : Int) - j) % p else acc) acc) p = 1 from h 1 (by simp)
  induction js with
  | nil => intro acc h; exact h
  | cons j r ih =>
    intro acc h
    rw [List.foldl_cons]
    have hr : ∀ j ∈ r, j < K := fun j hj => hjs j (List.mem_cons_of_mem _ hj)
    by_cases e : (j : Int) ≠ i
    · rw [if_pos e]
      exact ih hr _ (gcd_mul_mod h (gcd_diff u hi (hjs j List.mem_cons_self) e))
    · rw [if_neg e]
      exact ih hr _ h
theorem unit_inv {n m : Int} (hm : 2 ≤ m) (h : Int.gcd n m = 1) : ∃ v, IsInv m n v := by
  -- the extended Euclid's run, as far as it goes
  have run : ∀ (k : Nat) (r o a b : Int), o.toNat = k → Eu n m r o a b → ∃ v, IsInv m n v := by
    intro k
    induction k using Nat.strongRecOn with
    | ind k ih =>
      intro r o a b hk eu
      by_cases ho : 0 < o
      · obtain ⟨t1, t2, t3, _, _⟩ := eu_turn eu ho
        exact ih _ (by omega) _ _ _ _ rfl t1
      · have o0 : o = 0 := by
          have := eu.o0
          omega
        subst o0
        obtain ⟨g1, g2⟩ := eu_end hm eu
        exact ⟨_, g2 (g1.mpr h)⟩
  exact run _ _ _ _ _ rfl (eu_start hm)
theorem invOf_unit {n m : Int} (hm : 2 ≤ m) (h : Int.gcd n m = 1) : IsInv m n (invOf n m) := by
  obtain ⟨v, hv⟩ := unit_inv hm h
  exact invOf_is hv
theorem inv_gcd {n m v : Int} (h : IsInv m n v) : Int.gcd v m = 1 := by
  obtain ⟨_, _, h2⟩ := h
  have h1 : ((Int.gcd v m : Nat) : Int) ∣ v := Int.gcd_dvd_left ..
  have h3 : ((Int.gcd v m : Nat) : Int) ∣ m := Int.gcd_dvd_right ..
  have h4 : ((Int.gcd v m : Nat) : Int) ∣ 1 := by
    have e : (1 : Int) = v * n - m * (v * n / m) := by
      have := Int.emod_add_mul_ediv (v * n) m
      omega
    rw [e]
    exact Int.dvd_sub (Int.dvd_trans h1 (Int.dvd_mul_right ..)) (Int.dvd_trans h3 (Int.dvd_mul_right ..))
  have h5 := Int.eq_one_of_dvd_one (by omega) h4
  omega
theorem inv_gcd_n {n m v : Int} (h : IsInv m n v) : Int.gcd n m = 1 := by
  obtain ⟨_, _, h2⟩ := h
  have h1 : ((Int.gcd n m : Nat) : Int) ∣ n := Int.gcd_dvd_left ..
  have h3 : ((Int.gcd n m : Nat) : Int) ∣ m := Int.gcd_dvd_right ..
  have h4 : ((Int.gcd n m : Nat) : Int) ∣ 1 := by
    have e : (1 : Int) = v * n - m * (v * n / m) := by
      have := Int.emod_add_mul_ediv (v * n) m
      omega
    rw [e]
    exact Int.dvd_sub (Int.dvd_trans h1 (Int.dvd_mul_left ..)) (Int.dvd_trans h3 (Int.dvd_mul_right ..))
  have h5 := Int.eq_one_of_dvd_one (by omega) h4
  omega
theorem wgts_len (p : Int) (K : Nat) (x : Int) : (wgts p K x).length = K := by simp [wgts]
theorem wgts_bd {p : Int} (hp : 2 ≤ p) {K : Nat} {x w : Int} (h : w ∈ wgts p K x) : 0 ≤ w ∧ w < p := by
  unfold wgts at h
  obtain ⟨i, _, rfl⟩ := List.mem_map.mp h
  exact ⟨Int.emod_nonneg _ (by omega), Int.emod_lt_of_pos _ (by omega)⟩
/-- the two loops of interpolate -/
def inner (cols row : List Int) : Int := (row.zip cols).foldl (fun part (q : Int × Int) => part + q.1 * q.2) 0
def outer (p : Int) (cols : List Int) (rows : List (List Int × Int)) : Int := rows.foldl (fun total (q : List Int × Int) => (total + q.2 * inner cols q.1) % p) 0
noncomputable def itp (tb : List (List Int)) (p x y : Int) : Int :=
  if (0 ≤ x ∧ x < tb.length) ∧ 0 ≤ y ∧ y < tb.length then (tb.getD x.toNat []).getD y.toNat 0 % p
  else outer p (wgts p tb.length y) (tb.zip (wgts p tb.length x))
/-- a table of K rows of K numbers -/
structure IsTab (p : Int) (tb : List (List Int)) : Prop where
  pos : 1 ≤ tb.length
  sq : ∀ row ∈ tb, row.length = tb.length
  bd : ∀ row ∈ tb, ∀ e ∈ row, 0 ≤ e ∧ e < p
end Bf
/-! the steps: data, validity, inverse, what perform does -/
namespace Bf
open PySem
inductive Fac where
  | cell (i : Int) | inp (i : Int)
def Fac.d : Fac → Dt
  | .cell i => .t [.s "cell", .i i]
  | .inp i => .t [.s "input", .i i]
def Fac.ok (t c n : Int) : Fac → Prop
  | .cell i => (0 ≤ i ∧ i < c) ∧ i ≠ t
  | .inp i => 0 ≤ i ∧ i < n
inductive Step where
  | add (t k : Int) (fs : List Fac)
  | scale (t k : Int)
  | swap (a b : Int)
  | table (t s : Int) (tb : List (List Int)) (a b : Int)
def tabD (tb : List (List Int)) : Dt := .t (tb.map fun r => .t (r.map .i))
def Step.d : Step → Dt
  | .add t k fs => .t [.s "add", .i t, .i k, .t (fs.map Fac.d)]
  | .scale t k => .t [.s "scale", .i t, .i k]
  | .swap a b => .t [.s "swap", .i a, .i b]
  | .table t s tb a b => .t [.s "table", .i t, .i s, tabD tb, .i a, .i b]
structure Look (m c t s : Int) (tb : List (List Int)) (a b : Int) : Prop where
  ht : 0 ≤ t ∧ t < c
  ha : 0 ≤ a ∧ a < c
  hb : 0 ≤ b ∧ b < c
  hta : t ≠ a
  htb : t ≠ b
  hab : a ≠ b
  hs : s = 1 ∨ s = m - 1
  tab : IsTab m tb
  le : (tb.length : Int) ≤ m
  sz : tb.length ≤ 1000000
  un : Units m tb.length
def Step.ok (m c n : Int) : Step → Prop
  | .add t k fs => (0 ≤ t ∧ t < c) ∧ (0 ≤ k ∧ k < m) ∧ fs.length ≤ 3 ∧ ∀ f ∈ fs, f.ok t c n
  | .scale t k => (0 ≤ t ∧ t < c) ∧ (0 ≤ k ∧ k < m) ∧ Int.gcd k m = 1
  | .swap a b => (0 ≤ a ∧ a < c) ∧ (0 ≤ b ∧ b < c) ∧ a ≠ b
  | .table t s tb a b => Look m c t s tb a b
def Step.isTable : Step → Bool
  | .table .. => true
  | _ => false
noncomputable def Step.inv (m : Int) : Step → Step
  | .add t k fs => .add t (-k % m) fs
  | .scale t k => .scale t (invOf k m)
  | .swap a b => .swap a b
  | .table t s tb a b => .table t (m - s) tb a b
theorem neg_emod {k m : Int} (h0 : 0 ≤ k) (h1 : k < m) : -k % m = if k = 0 then 0 else m - k := by
  by_cases h : k = 0
  · subst h; simp
  · rw [if_neg h]
    have : -k = m - k + m * (-1) := by omega
    rw [this, Int.add_mul_emod_self_left]
    exact Int.emod_eq_of_lt (by omega) (by omega)
theorem neg_emod' {k m : Int} (h0 : 0 ≤ k) (h1 : k < m) : (m - k) % m = -k % m := by
  have : m - k = -k + m * 1 := by omega
  rw [this, Int.add_mul_emod_self_left]
theorem invOf_gcd {k m : Int} (hm : 2 ≤ m) (h : Int.gcd k m = 1) : Int.gcd (invOf k m) m = 1 := inv_gcd (invOf_unit hm h)
theorem invOf_invOf {k m : Int} (hm : 2 ≤ m) (h0 : 0 ≤ k) (h1 : k < m) (h : Int.gcd k m = 1) : invOf (invOf k m) m = k := by
  have i1 := invOf_unit hm h
  refine invOf_eq hm ⟨h0, h1, ?_⟩
  rw [Int.mul_comm]
  exact i1.2.2
theorem Step.inv_ok {m c n : Int} (hm : 2 ≤ m) : ∀ {s : Step}, s.ok m c n → (s.inv m).ok m c n
  | .add t k fs, h => ⟨h.1, ⟨Int.emod_nonneg _ (by omega), Int.emod_lt_of_pos _ (by omega)⟩, h.2.2.1, h.2.2.2⟩
  | .scale t k, h => ⟨h.1, ⟨(invOf_unit hm h.2.2).1, (invOf_unit hm h.2.2).2.1⟩, invOf_gcd hm h.2.2⟩
  | .swap a b, h => h
  | .table t s tb a b, h => { h with hs := by rcases h.hs with e | e <;> subst e <;> omega }
theorem Step.inv_inv {m c n : Int} (hm : 2 ≤ m) : ∀ {s : Step}, s.ok m c n → (s.inv m).inv m = s
  | .add t k fs, h => by
    obtain ⟨_, ⟨h0, h1⟩, _⟩ := h
    show Step.add t (-(-k % m) % m) fs = _
    rw [neg_emod h0 h1]
    by_cases hk : k = 0
    · subst hk; simp
    · rw [if_neg hk, neg_emod (by omega) (by omega), if_neg (by omega)]
      rw [show m - (m - k) = k by omega]
  | .scale t k, h => by
    show Step.scale t (invOf (invOf k m) m) = _
    rw [invOf_invOf hm h.2.1.1 h.2.1.2 h.2.2]
  | .swap a b, h => rfl
  | .table t s tb a b, h => by
    show Step.table t (m - (m - s)) tb a b = _
    rw [show m - (m - s) = s by omega]
theorem Step.inv_table {m : Int} : ∀ {s : Step}, (s.inv m).isTable = s.isTable
  | .add .. => rfl
  | .scale .. => rfl
  | .swap .. => rfl
  | .table .. => rfl
/-! ### what perform does -/
def gt (l : List Int) (i : Int) : Int := l.getD i.toNat 0
def facV (mem given : List Int) : Fac → Int
  | .cell i => gt mem i
  | .inp i => gt given i
def tot (m : Int) (mem given : List Int) (k : Int) (fs : List Fac) : Int := fs.foldl (fun (total : Int) f => total * facV mem given f % m) k
noncomputable def perf (m : Int) (given mem : List Int) : Step → List Int
  | .add t k fs => mem.set t.toNat ((gt mem t + tot m mem given k fs) % m)
  | .scale t k => mem.set t.toNat (gt mem t * k % m)
  | .swap a b => (mem.set a.toNat (gt mem b)).set b.toNat (gt mem a)
  | .table t s tb a b => mem.set t.toNat ((gt mem t + s * itp tb m (gt mem a) (gt mem b)) % m)
theorem perf_add {m : Int} {given mem : List Int} {t k : Int} {fs : List Fac} : perf m given mem (.add t k fs) = mem.set t.toNat ((gt mem t + tot m mem given k fs) % m) := rfl
theorem perf_scale {m : Int} {given mem : List Int} {t k : Int} : perf m given mem (.scale t k) = mem.set t.toNat (gt mem t * k % m) := rfl
theorem perf_swap {m : Int} {given mem : List Int} {a b : Int} : perf m given mem (.swap a b) = (mem.set a.toNat (gt mem b)).set b.toNat (gt mem a) := rfl
theorem perf_table {m : Int} {given mem : List Int} {t s a b : Int} {tb : List (List Int)} : perf m given mem (.table t s tb a b) = mem.set t.toNat ((gt mem t + s * itp tb m (gt mem a) (gt mem b)) % m) := rfl
/-- a memory: c numbers in range -/
def Mem (m c : Int) (l : List Int) : Prop := (l.length : Int) = c ∧ ∀ x ∈ l, 0 ≤ x ∧ x < m
theorem gt_bd {m c : Int} {l : List Int} (h : Mem m c l) {i : Int} (h0 : 0 ≤ i) (h1 : i < c) : 0 ≤ gt l i ∧ gt l i < m := by
  have e : i.toNat < l.length := by have := h.1; omega
  unfold gt
  rw [List.getD_eq_getElem?_getD, List.getElem?_eq_getElem e]
  exact h.2 _ (List.getElem_mem e)
theorem gt_at {l : List Int} {i : Int} (h0 : 0 ≤ i) (h1 : i < l.length) : l[i.toNat]? = some (gt l i) := by
  have e : i.toNat < l.length := by omega
  unfold gt
  rw [List.getD_eq_getElem?_getD, List.getElem?_eq_getElem e]
  rfl
theorem gt_set {l : List Int} {i j : Int} {x : Int} (hi : 0 ≤ i) (hj : 0 ≤ j) (h1 : i < l.length) : gt (l.set i.toNat x) j = if j = i then x else gt l j := by
  unfold gt
  rw [List.getD_eq_getElem?_getD, List.getD_eq_getElem?_getD, List.getElem?_set]
  by_cases e : j = i
  · subst e
    rw [if_pos rfl, if_pos rfl, if_pos (by omega)]
    rfl
  · rw [if_neg e, if_neg (by omega)]
theorem Mem.set {m c : Int} {l : List Int} (h : Mem m c l) (i : Nat) {x : Int} (hx : 0 ≤ x ∧ x < m) : Mem m c (l.set i x) := by
  refine ⟨by rw [List.length_set]; exact h.1, fun y hy => ?_⟩
  rcases List.mem_or_eq_of_mem_set hy with q | q
  · exact h.2 y q
  · rw [q]; exact hx
theorem perf_mem {m c n : Int} (hm : 2 ≤ m) {given mem : List Int} (h : Mem m c mem) : ∀ {s : Step}, s.ok m c n → Mem m c (perf m given mem s)
  | .add t k fs, _ => h.set _ ⟨Int.emod_nonneg _ (by omega), Int.emod_lt_of_pos _ (by omega)⟩
  | .scale t k, _ => h.set _ ⟨Int.emod_nonneg _ (by omega), Int.emod_lt_of_pos _ (by omega)⟩
  | .swap a b, o => (h.set _ (gt_bd h o.2.1.1 o.2.1.2)).set _ (gt_bd h o.1.1 o.1.2)
  | .table t s tb a b, _ => h.set _ ⟨Int.emod_nonneg _ (by omega), Int.emod_lt_of_pos _ (by omega)⟩
theorem set_back {l : List Int} {i : Int} {x y : Int} (h0 : 0 ≤ i) (h1 : i < l.length) (e : y = gt l i) : (l.set i.toNat x).set i.toNat y = l := by
  rw [List.set_set, e]
  have e2 : i.toNat < l.length := by omega
  unfold gt
  rw [List.getD_eq_getElem?_getD, List.getElem?_eq_getElem e2]
  exact List.set_getElem_self e2
/-- congruence modulo m -/
theorem tot_cong {m : Int} {mem mem' given : List Int} : ∀ {fs : List Fac} {k k' : Int}, (∀ f ∈ fs, facV mem given f = facV mem' given f) → (k + k') % m = 0 → (tot m mem given k fs + tot m mem' given k' fs) % m = 0
  | [], _, _, _, h => h
  | f :: r, k, k', he, h => by
    refine tot_cong (fs := r) (k := k * facV mem given f % m) (k' := k' * facV mem' given f % m) (fun g hg => he g (List.mem_cons_of_mem _ hg)) ?_
    rw [← he f List.mem_cons_self, ← Int.add_emod, ← Int.add_mul, Int.mul_emod, h, Int.zero_mul, Int.zero_emod]
theorem add_cancel {m x u v : Int} (h0 : 0 ≤ x) (h1 : x < m) (h : (u + v) % m = 0) : ((x + u) % m + v) % m = x := by
  rw [Int.emod_add_emod, Int.add_assoc, Int.add_emod, h, Int.add_zero, Int.emod_emod, Int.emod_eq_of_lt h0 h1]
theorem perf_undo {m c n : Int} (hm : 2 ≤ m) {given mem : List Int} (h : Mem m c mem) : ∀ {s : Step}, s.ok m c n → perf m given (perf m given mem s) (s.inv m) = mem
  | .add t k fs, o => by
    obtain ⟨⟨t0, t1⟩, ⟨k0, k1⟩, _, hf⟩ := o
    have hb := gt_bd h t0 t1
    have hl := h.1
    rw [show Step.inv m (.add t k fs) = .add t (-k % m) fs from rfl, perf_add, perf_add]
    refine set_back t0 (by omega) ?_
    rw [gt_set t0 t0 (by omega), if_pos rfl]
    refine add_cancel hb.1 hb.2 (tot_cong (fun f hm' => ?_) ?_)
    · have := hf f hm'
      cases f with
      | inp i => rfl
      | cell i =>
        show gt mem i = gt (mem.set _ _) i
        rw [gt_set t0 this.1.1 (by omega), if_neg this.2]
    · rw [Int.add_emod, Int.emod_emod, ← Int.add_emod, Int.add_right_neg, Int.zero_emod]
  | .scale t k, o => by
    obtain ⟨⟨t0, t1⟩, ⟨k0, k1⟩, hg⟩ := o
    have hb := gt_bd h t0 t1
    have hl := h.1
    rw [show Step.inv m (.scale t k) = .scale t (invOf k m) from rfl, perf_scale, perf_scale]
    refine set_back t0 (by omega) ?_
    rw [gt_set t0 t0 (by omega), if_pos rfl]
    have hi := invOf_unit hm hg
    rw [Int.mul_emod, Int.emod_emod, ← Int.mul_emod, Int.mul_assoc, Int.mul_emod, Int.mul_comm k, hi.2.2, Int.mul_one, Int.emod_emod, Int.emod_eq_of_lt hb.1 hb.2]
  | .swap a b, o => by
    obtain ⟨⟨a0, a1⟩, ⟨b0, b1⟩, hab⟩ := o
    have hl := h.1
    rw [show Step.inv m (.swap a b) = .swap a b from rfl, perf_swap, perf_swap]
    rw [gt_set b0 b0 (by rw [List.length_set]; omega), if_pos rfl, gt_set b0 a0 (by rw [List.length_set]; omega), if_neg hab, gt_set a0 a0 (by omega), if_pos rfl]
    refine List.ext_getElem? fun i => ?_
    rw [List.getElem?_set, List.getElem?_set, List.getElem?_set, List.getElem?_set]
    simp only [List.length_set]
    have ea := gt_at (l := mem) a0 (by omega)
    have eb := gt_at (l := mem) b0 (by omega)
    by_cases e1 : b.toNat = i
    · subst e1
      rw [if_pos rfl, if_pos (by omega), eb]
    · rw [if_neg e1]
      by_cases e2 : a.toNat = i
      · subst e2
        rw [if_pos rfl, if_pos (by omega), ea]
      · rw [if_neg e2, if_neg e1, if_neg e2]
  | .table t s tb a b, o => by
    obtain ⟨t0, t1⟩ := o.ht
    have hb := gt_bd h t0 t1
    have hl := h.1
    rw [show Step.inv m (.table t s tb a b) = .table t (m - s) tb a b from rfl, perf_table, perf_table]
    refine set_back t0 (by omega) ?_
    rw [gt_set t0 t0 (by omega), if_pos rfl, gt_set t0 o.ha.1 (by omega), if_neg (fun e => o.hta e.symm), gt_set t0 o.hb.1 (by omega), if_neg (fun e => o.htb e.symm)]
    refine add_cancel hb.1 hb.2 ?_
    rw [← Int.add_mul, show s + (m - s) = m by omega, Int.mul_emod_right]
/-! ### a whole program -/
noncomputable def runs (m : Int) (given mem : List Int) (ss : List Step) : List Int := ss.foldl (perf m given) mem
noncomputable def inverse (m : Int) (ss : List Step) : List Step := (ss.map (Step.inv m)).reverse
theorem runs_mem {m c n : Int} (hm : 2 ≤ m) {given : List Int} : ∀ {ss : List Step} {mem : List Int}, Mem m c mem → (∀ s ∈ ss, s.ok m c n) → Mem m c (runs m given mem ss)
  | [], _, h, _ => h
  | s :: r, _, h, o => runs_mem (ss := r) hm (perf_mem hm h (o s List.mem_cons_self)) fun x hx => o x (List.mem_cons_of_mem _ hx)
theorem runs_undo {m c n : Int} (hm : 2 ≤ m) {given : List Int} : ∀ {ss : List Step} {mem : List Int}, Mem m c mem → (∀ s ∈ ss, s.ok m c n) → runs m given (runs m given mem ss) (inverse m ss) = mem
  | [], _, _, _ => rfl
  | s :: r, mem, h, o => by
    have h1 := perf_mem hm (given := given) h (o s List.mem_cons_self)
    have ih := runs_undo (ss := r) hm (given := given) h1 fun x hx => o x (List.mem_cons_of_mem _ hx)
    unfold inverse
    rw [List.map_cons, List.reverse_cons]
    unfold runs at ih ⊢
    rw [List.foldl_append, List.foldl_cons (l := r)]
    unfold inverse at ih
    rw [ih]
    exact perf_undo hm h (o s List.mem_cons_self)
theorem inverse_ok {m c n : Int} (hm : 2 ≤ m) {ss : List Step} (o : ∀ s ∈ ss, s.ok m c n) : ∀ s ∈ inverse m ss, s.ok m c n := by
  intro s hs
  unfold inverse at hs
  rw [List.mem_reverse] at hs
  obtain ⟨x, hx, rfl⟩ := List.mem_map.mp hs
  exact Step.inv_ok hm (o x hx)
theorem inverse_inverse {m c n : Int} (hm : 2 ≤ m) {ss : List Step} (o : ∀ s ∈ ss, s.ok m c n) : inverse m (inverse m ss) = ss := by
  unfold inverse
  rw [List.map_reverse, List.reverse_reverse, List.map_map]
  conv => rhs; rw [← List.map_id ss]
  exact List.map_congr_left fun s hs => Step.inv_inv hm (o s hs)
theorem runs_undo' {m c n : Int} (hm : 2 ≤ m) {given : List Int} {ss : List Step} {mem : List Int} (h : Mem m c mem) (o : ∀ s ∈ ss, s.ok m c n) : runs m given (runs m given mem (inverse m ss)) ss = mem := by
  have := runs_undo hm (given := given) h (inverse_ok hm o)
  rwa [inverse_inverse hm o] at this
theorem inverse_len {m : Int} {ss : List Step} : (inverse m ss).length = ss.length := by simp [inverse]
open L2 in
theorem TK.kpi {d C dx : Addr} {fs : List (Str × V)} {H H' : L2.Hp} (h : H d = some (.ins C dx fs)) (k : Kp d H H') : TK H H' := fun b ys e => k b _ (ne_of e h (by intro z; cases z)) e
theorem fac_flat : ∀ f : Fac, f.d.flat = true
  | .cell _ => rfl
  | .inp _ => rfl
theorem flats_map {α : Type} {f : α → Dt} (h : ∀ x, (f x).flat = true) : ∀ l : List α, Dt.flats (l.map f) = true
  | [] => rfl
  | x :: r => by rw [List.map_cons, Dt.flats, h x, flats_map h r]; rfl
theorem tab_flat (tb : List (List Int)) : (tabD tb).flat = true := flats_map (f := fun r : List Int => Dt.t (r.map .i)) (fun r => flats_map (f := Dt.i) (fun _ => rfl) r) tb
theorem step_flat : ∀ s : Step, s.d.flat = true
  | .add t k fs => by
    show Dt.flats [.s "add", .i t, .i k, .t (fs.map Fac.d)] = true
    simp only [Dt.flats, Dt.flat, flats_map fac_flat, Bool.and_true]
  | .scale t k => rfl
  | .swap a b => rfl
  | .table t s tb a b => by
    show Dt.flats [.s "table", .i t, .i s, tabD tb, .i a, .i b] = true
    simp only [Dt.flats, Dt.flat, tab_flat, Bool.and_true]
theorem steps_flat (ss : List Step) : Dt.flats (ss.map Step.d) = true := flats_map step_flat ss
end Bf
/-! a list that holds data -/
namespace Bf
open PySem L2
def LD (H : Hp) (a : Addr) (ds : List Dt) : Prop := ∃ ws, H a = some (.lst ws) ∧ RpL H ds ws
theorem RpL.unsnoc {H : Hp} {d : Dt} : ∀ {l : List Dt} {vs : List V}, RpL H (l ++ [d]) vs → ∃ ws v, vs = ws ++ [v] ∧ RpL H l ws ∧ Rp H d v
  | [], _, h => by
    obtain ⟨v, ws, e, hv, hw⟩ := h
    have e2 : ws = [] := hw
    subst e2
    exact ⟨[], v, e, rfl, hv⟩
  | _ :: _, _, h => by
    obtain ⟨w, us, e, hw, hu⟩ := h
    obtain ⟨ws, v, e1, h1, h2⟩ := RpL.unsnoc hu
    subst e e1
    exact ⟨w :: ws, v, rfl, ⟨w, ws, rfl, hw, h1⟩, h2⟩
theorem LD.nil {H : Hp} {a : Addr} (h : H a = some (.lst [])) : LD H a [] := ⟨[], h, rfl⟩
theorem LD.same {H H' : Hp} {a : Addr} {ds : List Dt} (h : LD H a ds) (s : Same H H') : LD H' a ds := by
  obtain ⟨ws, h1, h2⟩ := h
  exact ⟨ws, s _ _ h1, h2.same s⟩
theorem LD.kp {H H' : Hp} {a b : Addr} {ds : List Dt} {xs : List V} (h : LD H a ds) (f : Dt.flats ds = true) (hb : H b = some (.lst xs)) (k : Kp b H H') (ne : a ≠ b) : LD H' a ds := by
  obtain ⟨ws, h1, h2⟩ := h
  exact ⟨ws, k _ _ ne h1, h2.tk (TK.kp hb k) f⟩
theorem LD.push {H H' : Hp} {a : Addr} {ds : List Dt} {d : Dt} {ws : List V} {v : V} (h1 : H a = some (.lst ws)) (h2 : RpL H ds ws) (hv : Rp H d v) (f : Dt.flats ds = true) (fd : d.flat = true) (k : Kp a H H') (h3 : H' a = some (.lst (ws ++ [v]))) : LD H' a (ds ++ [d]) :=
  ⟨_, h3, (h2.tk (TK.kp h1 k) f).snoc (hv.tk (TK.kp h1 k) fd)⟩
theorem LD.pop {H : Hp} {a : Addr} {ds : List Dt} {d : Dt} (h : LD H a (ds ++ [d])) : ∃ ws v, H a = some (.lst (ws ++ [v])) ∧ RpL H ds ws ∧ Rp H d v := by
  obtain ⟨us, h1, h2⟩ := h
  obtain ⟨ws, v, e, h3, h4⟩ := h2.unsnoc
  subst e
  exact ⟨ws, v, h1, h3, h4⟩
theorem LD.popped {H H' : Hp} {a : Addr} {ds : List Dt} {ws : List V} {v : V} (h1 : H a = some (.lst (ws ++ [v]))) (h2 : RpL H ds ws) (f : Dt.flats ds = true) (k : Kp a H H') (h3 : H' a = some (.lst ws)) : LD H' a ds := ⟨_, h3, h2.tk (TK.kp h1 k) f⟩
theorem LD.len {H : Hp} {a : Addr} {ds : List Dt} {ws : List V} (h1 : H a = some (.lst ws)) (h : LD H a ds) : ws.length = ds.length := by
  obtain ⟨us, h2, h3⟩ := h
  rw [h1] at h2
  cases h2
  exact h3.len
theorem flats_i (l : List Int) : Dt.flats (l.map Dt.i) = true := by
  induction l with
  | nil => rfl
  | cons x r ih => rw [List.map_cons, Dt.flats, ih]; rfl
theorem none_of_same {H H' : Hp} {q : Addr} (s : Same H H') (n : H' q = none) : H q = none := by
  cases h : H q with
  | none => rfl
  | some o => rw [s _ _ h] at n; cases n
theorem n_truS {K : PySem.W.Frag} {H : Hp} {R : Bool → Hp → Prop} {p : Addr} {ws : List V} {v : V} (h : H p = some (.lst (ws ++ [v]))) (k : R true H) : rTru K (.ref p) H R := n_truL h (by
  rw [show (!(ws ++ [v]).isEmpty) = true by simp]
  exact k)
theorem flats_app : ∀ {l : List Dt} {d : Dt}, Dt.flats l = true → d.flat = true → Dt.flats (l ++ [d]) = true
  | [], d, _, h => by
    show Dt.flats [d] = true
    simp only [Dt.flats, h, Bool.and_true]
  | x :: r, d, h, h2 => by
    rw [List.cons_append, Dt.flats]
    rw [Dt.flats, Bool.and_eq_true] at h
    rw [h.1, flats_app h.2 h2]
    rfl
theorem LD.ne {H : Hp} {a b : Addr} {ds : List Dt} (h : LD H a ds) (n : H b = none) : a ≠ b := by
  obtain ⟨ws, h1, _⟩ := h
  exact ne_of_none h1 n
theorem LD.ext {H H' : Hp} {a : Addr} {ds es : List Dt} {ws us : List V} (h1 : H a = some (.lst ws)) (h2 : RpL H ds ws) (h3 : RpL H es us) (f : Dt.flats ds = true) (f2 : Dt.flats es = true) (k : Kp a H H') (h4 : H' a = some (.lst (ws ++ us))) : LD H' a (ds ++ es) :=
  ⟨_, h4, RpL.app (h3.tk (TK.kp h1 k) f2) (h2.tk (TK.kp h1 k) f)⟩
theorem flats_rev : ∀ {l : List Dt}, Dt.flats l = true → Dt.flats l.reverse = true
  | [], h => h
  | x :: r, h => by
    rw [Dt.flats, Bool.and_eq_true] at h
    rw [List.reverse_cons]
    exact flats_app (flats_rev h.2) h.1
end Bf
local macro_rules | `(tactic| walk_at "pfN1") => `(tactic| first | decide +kernel | omega | assumption | rfl | (simp only [List.length_cons, List.length_nil]; omega))
local macro_rules | `(tactic| walk_at "rd1N1") => `(tactic| first
  | with_reducible refine Bf.r_seq ?_
  | with_reducible refine Bf.r_asg ?_
  | with_reducible refine Bf.r_var (by with_unfolding_all rfl) ?_
  | with_reducible refine Bf.r_c ?_
  | with_reducible refine Bf.r_name ?_
  | with_reducible refine Bf.r_ret ?_
  | with_reducible refine Bf.r_op ?_
  | with_reducible refine Bf.r_I0 ?_
  | ((with_reducible refine Bf.r_I ?c ?_); (case c => first | decide | (show (0 : Int) < _; omega) | (refine Or.inl ⟨?_, ?_⟩ <;> omega) | (refine Or.inr ⟨?_, ?_⟩ <;> omega) | (refine And.intro ?_ ?_ <;> omega)))
  | with_reducible refine Bf.r_ifS ?_
  | with_reducible refine Bf.r_test ?_
  | with_reducible refine Bf.r_isbl ?_
  | with_reducible refine Bf.r_eqI ?_
  | with_reducible refine Bf.r_neI ?_
  | with_reducible refine Bf.r_eqS ?_
  | with_reducible refine Bf.r_neS ?_
  | with_reducible refine Bf.r_cons ?_
  | with_reducible refine Bf.r_nil ?_
  | with_reducible refine Bf.r_CB ?_
  | with_reducible refine Bf.r_call ?_
  | with_reducible refine Bf.i_t ?_
  | with_reducible refine Bf.i_f ?_
  | with_reducible refine Bf.i_nt ?_
  | with_reducible refine Bf.i_nf ?_
  | with_reducible refine Bf.r_ixT (by assumption) (by with_unfolding_all rfl) ?_
  | with_reducible refine Bf.r_ixL (by assumption) (by with_unfolding_all rfl) ?_
  | with_reducible refine Bf.r_fld ?_
  | ((with_reducible refine Bf.r_fat (by assumption) ?c ?n (by with_unfolding_all rfl) ?_); (case c => assumption); (case n => assumption))
  | with_reducible refine Bf.r_par ?_
  | with_reducible refine Bf.r_two ?_
  | with_reducible refine Bf.r_aug (by with_unfolding_all rfl) ?_
  | with_reducible refine Bf.r_ip ?_
  | with_reducible refine Bf.r_app (by with_unfolding_all rfl) (by assumption) ?_
  | with_reducible refine Bf.r_next ?_
  | with_reducible refine Bf.r_cont ?_
  | with_reducible refine Bf.r_drop ?_
  | with_reducible refine Bf.r_and ?_
  | with_reducible refine Bf.r_or ?_
  | with_reducible refine Bf.r_not ?_
  | with_reducible refine Bf.r_andV ?_
  | with_reducible refine Bf.r_orV ?_
  | with_reducible refine Bf.r_notV ?_
  | with_reducible refine Bf.r_chain ?_
  | with_reducible refine Bf.r_B ?_
  | with_reducible refine Bf.r_ifE ?_
  | with_reducible refine Bf.r_un ?_
  | with_reducible refine Bf.r_U ?_
  | with_reducible refine Bf.r_tup ?_
  | with_reducible refine Bf.r_lst ?_
  | with_reducible refine Bf.r_lenT (by assumption) ?_
  | with_reducible refine Bf.r_lenL (by assumption) ?_
  | with_reducible refine Bf.r_int ?_
  | with_reducible refine Bf.r_max2 ?_
  | with_reducible refine Bf.r_min2 ?_
  | with_reducible refine Bf.isi_ Bf.ty_i Bf.kb_ii ?_
  | with_reducible refine Bf.isi_ Bf.ty_i Bf.kb_ib ?_
  | with_reducible refine Bf.isi_ Bf.ty_i Bf.kb_is ?_
  | with_reducible refine Bf.isi_ Bf.ty_i Bf.kb_it ?_
  | with_reducible refine Bf.isi_ Bf.ty_i Bf.kb_il ?_
  | with_reducible refine Bf.isi_ Bf.ty_s Bf.kb_si ?_
  | with_reducible refine Bf.isi_ Bf.ty_s Bf.kb_sb ?_
  | with_reducible refine Bf.isi_ Bf.ty_s Bf.kb_ss ?_
  | with_reducible refine Bf.isi_ Bf.ty_s Bf.kb_st ?_
  | with_reducible refine Bf.isi_ Bf.ty_s Bf.kb_sl ?_
  | with_reducible refine Bf.isi_ (Bf.ty_t (by assumption)) Bf.kb_tt ?_
  | with_reducible refine Bf.isi_ (Bf.ty_l (by assumption)) Bf.kb_ll ?_
  | with_reducible refine Bf.isi_ (Bf.ty_t (by assumption)) Bf.kb_tl ?_
  | with_reducible refine Bf.isi_ (Bf.ty_l (by assumption)) Bf.kb_lt ?_
  | with_reducible refine Bf.isi_ Bf.ty_b Bf.kb_bi ?_
  | with_reducible refine Bf.isi_ Bf.ty_b Bf.kb_bb ?_
  | with_reducible refine Bf.isi_ Bf.ty_b Bf.kb_bs ?_
  | with_reducible refine Bf.isi_ Bf.ty_b Bf.kb_bt ?_
  | with_reducible refine Bf.isi_ Bf.ty_b Bf.kb_bL ?_
  | with_reducible refine Bf.isi_ Bf.ty_n Bf.kb_ni ?_
  | with_reducible refine Bf.isi_ Bf.ty_n Bf.kb_nb ?_
  | with_reducible refine Bf.isi_ Bf.ty_n Bf.kb_ns ?_
  | with_reducible refine Bf.isi_ Bf.ty_n Bf.kb_nt ?_
  | with_reducible refine Bf.isi_ Bf.ty_n Bf.kb_nl ?_
  | with_reducible refine Bf.isi_ (Bf.ty_t (by assumption)) Bf.kb_ti ?_
  | with_reducible refine Bf.isi_ (Bf.ty_l (by assumption)) Bf.kb_li ?_
  | with_reducible refine Bf.isi_ (Bf.ty_t (by assumption)) Bf.kb_tb ?_
  | with_reducible refine Bf.isi_ (Bf.ty_l (by assumption)) Bf.kb_lb ?_
  | with_reducible refine Bf.isi_ (Bf.ty_t (by assumption)) Bf.kb_ts ?_
  | with_reducible refine Bf.isi_ (Bf.ty_l (by assumption)) Bf.kb_ls ?_
  | with_reducible refine Bf.r_gtup (by assumption) (by with_unfolding_all rfl) ?_
  | with_reducible refine Bf.r_gcons ?_
  | with_reducible refine Bf.r_gnil ?_
  | with_reducible refine Bf.r_gsub ?_
  | ((with_reducible refine Bf.n_num ?h ?_); (case h => first | assumption | (refine And.intro ?_ ?_ <;> omega)))
  | with_reducible refine Bf.n_isint ?_
  | with_reducible refine Bf.n_mixed ?_
  | with_reducible refine Bf.r_dget ?_
  | with_reducible refine Bf.n_dgetS (by assumption) (by with_unfolding_all rfl) ?_
  | with_reducible refine Bf.r_pcons ?_
  | with_reducible refine Bf.r_pnil ?_
  | with_reducible refine Bf.r_sl ?_
  | with_reducible refine Bf.r_nopart ?_
  | with_reducible refine Bf.r_part ?_
  | with_reducible refine Bf.r_isint ?_
  | with_reducible refine Bf.r_revL ?_
  | with_reducible refine Bf.r_sfld ?_
  | with_reducible refine Bf.r_meth ?_
  | with_reducible refine Bf.n_meth (by assumption) (by with_unfolding_all rfl) ?_
  | with_reducible refine Bf.r_make ?_
  | with_reducible refine Bf.r_turn ?_
  | with_reducible refine Bf.r_wipe (by with_unfolding_all rfl) ?_
  | with_reducible refine Bf.r_yes ?_
  | with_reducible refine Bf.r_tru ?_
  | with_reducible refine Bf.r_ext (by with_unfolding_all rfl) (by assumption) ?_
  | with_reducible refine Bf.r_glst (by assumption) (by with_unfolding_all rfl) ?_
  | with_reducible refine Bf.r_forR3 ?_
  | with_reducible refine Bf.r_lcR2 ?_
  | with_reducible refine Bf.r_lcL ?_
  | with_reducible refine Bf.r_lcT ?_
  | with_reducible refine Bf.r_lcR ?_
  | with_reducible refine Bf.r_forL ?_
  | with_reducible refine Bf.r_forZ ?_
  | with_reducible refine Bf.r_forT ?_
  | with_reducible refine Bf.r_forR ?_
  | with_reducible refine Bf.r_forR2 ?_
  | ((with_reducible refine Bf.i_d1 ?h ?_); (case h => walk_at "pfN1"))
  | ((with_reducible refine Bf.i_d0 ?h ?_); (case h => walk_at "pfN1"))
  | ((with_reducible refine Bf.i_n1 ?h ?_); (case h => walk_at "pfN1"))
  | ((with_reducible refine Bf.i_n0 ?h ?_); (case h => walk_at "pfN1")))
local macro_rules | `(tactic| walk_at "rdN1") => `(tactic| repeat walk_at "rd1N1")
namespace Bf
open PySem L2
abbrev s_is_integer : Stmt := topS 7
theorem bi_is_integer : ∀ (kV doc pm : Value) (an : Option Addr) (cdv ct : Value) (us : List Value), us.length = 1 → bindArgs (PySem.W.fnOf "is_integer" "is_integer" (defArgs s_is_integer) (defBody s_is_integer) (defScope s_is_integer) .none kV doc pm an cdv ct) ⟨us, []⟩ = pure ((["value"] : List Str).zip us) := fun _ _ _ _ _ _ us hl => match us, hl with | [_], _ => rfl
theorem sc_is_integer : FnScope ["value"] ["value"] (defScope s_is_integer) := C8.fnScope_by (by decide +kernel)
abbrev s_is_number : Stmt := topS 8
theorem bi_is_number : ∀ (kV doc pm : Value) (an : Option Addr) (cdv ct : Value) (us : List Value), us.length = 2 → bindArgs (PySem.W.fnOf "is_number" "is_number" (defArgs s_is_number) (defBody s_is_number) (defScope s_is_number) .none kV doc pm an cdv ct) ⟨us, []⟩ = pure ((["value", "modulus"] : List Str).zip us) := fun _ _ _ _ _ _ us hl => match us, hl with | [_, _], _ => rfl
theorem sc_is_number : FnScope ["value", "modulus"] ["value", "modulus"] (defScope s_is_number) := C8.fnScope_by (by decide +kernel)
def spIsInt : Sp := fun vs H Q _ => (∃ n, vs = [.int n] ∧ Q (.bl true) H) ∨ ∃ z, vs = [.str z] ∧ Q (.bl false) H
def spIsNum : Sp := fun vs H Q _ => ∃ n m, vs = [.int n, .int m] ∧ Q (.bl (decide (0 ≤ n ∧ n < m))) H
section
variable {P : Program} {w : World} {K : PySem.W.Frag} {mg : Str → Option Value} {base : Heap}
theorem cal_is_integer (T : Gs mg) (F : DefAt K mg "is_integer" s_is_integer) : C8.Cal P w K mg base 1 "is_integer" spIsInt [] := by
  refine cal_of F sc_is_integer bi_is_integer (fun vs H Q E h => ?_) (fun f cdv A outer s H vs Q E hr h => ?_)
  · rcases h with ⟨n, rfl, _⟩ | ⟨n, rfl, _⟩ <;> rfl
  · refine ⟨_, (pss_one (ps_ret (pe_and (pe_callB call_isi (by rfl) T.n_isinstance (by decide +kernel) (pa_cons (pv 0) (pa_cons (pe_bltn (v := .ty "int") rfl T.n_int (by decide +kernel) rfl) pa_nil))) (pe_one (pe_not (pe_callB call_isi (by rfl) T.n_isinstance (by decide +kernel) (pa_cons (pv 0) (pa_cons (pe_bltn (v := .ty "bool") rfl T.n_bool (by decide +kernel) rfl) pa_nil)))))))), ?_⟩
    rcases h with ⟨n, rfl, k⟩ | ⟨n, rfl, k⟩
    · walk_at "rdN1"
      exact k
    · walk_at "rdN1"
      exact k
theorem cal_is_number (T : Gs mg) (c_is_integer : C8.Cal P w K mg base 1 "is_integer" spIsInt []) (F : DefAt K mg "is_number" s_is_number) : C8.Cal P w K mg base 2 "is_number" spIsNum [] := by
  refine cal_of F sc_is_number bi_is_number (fun vs H Q E h => ?_) (fun f cdv A outer s H vs Q E hr h => ?_)
  · obtain ⟨n, m, rfl, _⟩ := h
    rfl
  · refine ⟨_, (pss_one (ps_ret (pe_and (C8.pe_c c_is_integer hr (by first | decide | omega) rfl (pa_cons (pv 0) pa_nil)) (pe_one (pe_chain op_le op_lt pe_int (pv 0) (pv 1)))))), ?_⟩
    obtain ⟨n, m, rfl, k⟩ := h
    walk_at "rdN1"
    refine .inl ⟨n, rfl, ?_⟩
    walk_at "rdN1"
    refine i_d2 (fun h0 => ?_) (fun h0 => ?_)
    · walk_at "rdN1"
      rw [show decide (n < m) = decide (0 ≤ n ∧ n < m) by simp [h0]]
      exact k
    · walk_at "rdN1"
      rw [show decide (0 ≤ n ∧ n < m) = false by simp [h0]] at k
      exact k
theorem n_num {n m : Int} {H : Hp} {Q : VK} {E : XK} (h : 0 ≤ n ∧ n < m) (k : Q (.bl true) H) : spIsNum ([.int n, .int m] ++ []) H Q E := ⟨n, m, rfl, by rw [decide_eq_true h]; exact k⟩
theorem n_isint {n : Int} {H : Hp} {Q : VK} {E : XK} (k : Q (.bl true) H) : spIsInt ([.int n] ++ []) H Q E := .inl ⟨n, rfl, k⟩
end
end Bf
local macro_rules | `(tactic| walk_at "pfN2") => `(tactic| first | decide +kernel | omega | assumption | rfl | (simp only [List.length_cons, List.length_nil]; omega))
local macro_rules | `(tactic| walk_at "rd1N2") => `(tactic| first
  | with_reducible refine Bf.r_seq ?_
  | with_reducible refine Bf.r_asg ?_
  | with_reducible refine Bf.r_var (by with_unfolding_all rfl) ?_
  | with_reducible refine Bf.r_c ?_
  | with_reducible refine Bf.r_name ?_
  | with_reducible refine Bf.r_ret ?_
  | with_reducible refine Bf.r_op ?_
  | with_reducible refine Bf.r_I0 ?_
  | ((with_reducible refine Bf.r_I ?c ?_); (case c => first | decide | (show (0 : Int) < _; omega) | (refine Or.inl ⟨?_, ?_⟩ <;> omega) | (refine Or.inr ⟨?_, ?_⟩ <;> omega) | (refine And.intro ?_ ?_ <;> omega)))
  | with_reducible refine Bf.r_ifS ?_
  | with_reducible refine Bf.r_test ?_
  | with_reducible refine Bf.r_isbl ?_
  | with_reducible refine Bf.r_eqI ?_
  | with_reducible refine Bf.r_neI ?_
  | with_reducible refine Bf.r_eqS ?_
  | with_reducible refine Bf.r_neS ?_
  | with_reducible refine Bf.r_cons ?_
  | with_reducible refine Bf.r_nil ?_
  | with_reducible refine Bf.r_CB ?_
  | with_reducible refine Bf.r_call ?_
  | with_reducible refine Bf.i_t ?_
  | with_reducible refine Bf.i_f ?_
  | with_reducible refine Bf.i_nt ?_
  | with_reducible refine Bf.i_nf ?_
  | with_reducible refine Bf.r_ixT (by assumption) (by with_unfolding_all rfl) ?_
  | with_reducible refine Bf.r_ixL (by assumption) (by with_unfolding_all rfl) ?_
  | with_reducible refine Bf.r_fld ?_
  | ((with_reducible refine Bf.r_fat (by assumption) ?c ?n (by with_unfolding_all rfl) ?_); (case c => assumption); (case n => assumption))
  | with_reducible refine Bf.r_par ?_
  | with_reducible refine Bf.r_two ?_
  | with_reducible refine Bf.r_aug (by with_unfolding_all rfl) ?_
  | with_reducible refine Bf.r_ip ?_
  | with_reducible refine Bf.r_app (by with_unfolding_all rfl) (by assumption) ?_
  | with_reducible refine Bf.r_next ?_
  | with_reducible refine Bf.r_cont ?_
  | with_reducible refine Bf.r_drop ?_
  | with_reducible refine Bf.r_and ?_
  | with_reducible refine Bf.r_or ?_
  | with_reducible refine Bf.r_not ?_
  | with_reducible refine Bf.r_andV ?_
  | with_reducible refine Bf.r_orV ?_
  | with_reducible refine Bf.r_notV ?_
  | with_reducible refine Bf.r_chain ?_
  | with_reducible refine Bf.r_B ?_
  | with_reducible refine Bf.r_ifE ?_
  | with_reducible refine Bf.r_un ?_
  | with_reducible refine Bf.r_U ?_
  | with_reducible refine Bf.r_tup ?_
  | with_reducible refine Bf.r_lst ?_
  | with_reducible refine Bf.r_lenT (by assumption) ?_
  | with_reducible refine Bf.r_lenL (by assumption) ?_
  | with_reducible refine Bf.r_int ?_
  | with_reducible refine Bf.r_max2 ?_
  | with_reducible refine Bf.r_min2 ?_
  | with_reducible refine Bf.isi_ Bf.ty_i Bf.kb_ii ?_
  | with_reducible refine Bf.isi_ Bf.ty_i Bf.kb_ib ?_
  | with_reducible refine Bf.isi_ Bf.ty_i Bf.kb_is ?_
  | with_reducible refine Bf.isi_ Bf.ty_i Bf.kb_it ?_
  | with_reducible refine Bf.isi_ Bf.ty_i Bf.kb_il ?_
  | with_reducible refine Bf.isi_ Bf.ty_s Bf.kb_si ?_
  | with_reducible refine Bf.isi_ Bf.ty_s Bf.kb_sb ?_
  | with_reducible refine Bf.isi_ Bf.ty_s Bf.kb_ss ?_
  | with_reducible refine Bf.isi_ Bf.ty_s Bf.kb_st ?_
  | with_reducible refine Bf.isi_ Bf.ty_s Bf.kb_sl ?_
  | with_reducible refine Bf.isi_ (Bf.ty_t (by assumption)) Bf.kb_tt ?_
  | with_reducible refine Bf.isi_ (Bf.ty_l (by assumption)) Bf.kb_ll ?_
  | with_reducible refine Bf.isi_ (Bf.ty_t (by assumption)) Bf.kb_tl ?_
  | with_reducible refine Bf.isi_ (Bf.ty_l (by assumption)) Bf.kb_lt ?_
  | with_reducible refine Bf.isi_ Bf.ty_b Bf.kb_bi ?_
  | with_reducible refine Bf.isi_ Bf.ty_b Bf.kb_bb ?_
  | with_reducible refine Bf.isi_ Bf.ty_b Bf.kb_bs ?_
  | with_reducible refine Bf.isi_ Bf.ty_b Bf.kb_bt ?_
  | with_reducible refine Bf.isi_ Bf.ty_b Bf.kb_bL ?_
  | with_reducible refine Bf.isi_ Bf.ty_n Bf.kb_ni ?_
  | with_reducible refine Bf.isi_ Bf.ty_n Bf.kb_nb ?_
  | with_reducible refine Bf.isi_ Bf.ty_n Bf.kb_ns ?_
  | with_reducible refine Bf.isi_ Bf.ty_n Bf.kb_nt ?_
  | with_reducible refine Bf.isi_ Bf.ty_n Bf.kb_nl ?_
  | with_reducible refine Bf.isi_ (Bf.ty_t (by assumption)) Bf.kb_ti ?_
  | with_reducible refine Bf.isi_ (Bf.ty_l (by assumption)) Bf.kb_li ?_
  | with_reducible refine Bf.isi_ (Bf.ty_t (by assumption)) Bf.kb_tb ?_
  | with_reducible refine Bf.isi_ (Bf.ty_l (by assumption)) Bf.kb_lb ?_
  | with_reducible refine Bf.isi_ (Bf.ty_t (by assumption)) Bf.kb_ts ?_
  | with_reducible refine Bf.isi_ (Bf.ty_l (by assumption)) Bf.kb_ls ?_
  | with_reducible refine Bf.r_gtup (by assumption) (by with_unfolding_all rfl) ?_
  | with_reducible refine Bf.r_gcons ?_
  | with_reducible refine Bf.r_gnil ?_
  | with_reducible refine Bf.r_gsub ?_
  | ((with_reducible refine Bf.n_num ?h ?_); (case h => first | assumption | (refine And.intro ?_ ?_ <;> omega)))
  | with_reducible refine Bf.n_isint ?_
  | with_reducible refine Bf.n_mixed ?_
  | with_reducible refine Bf.r_dget ?_
  | with_reducible refine Bf.n_dgetS (by assumption) (by with_unfolding_all rfl) ?_
  | with_reducible refine Bf.r_pcons ?_
  | with_reducible refine Bf.r_pnil ?_
  | with_reducible refine Bf.r_sl ?_
  | with_reducible refine Bf.r_nopart ?_
  | with_reducible refine Bf.r_part ?_
  | with_reducible refine Bf.r_isint ?_
  | with_reducible refine Bf.r_revL ?_
  | with_reducible refine Bf.r_sfld ?_
  | with_reducible refine Bf.r_meth ?_
  | with_reducible refine Bf.n_meth (by assumption) (by with_unfolding_all rfl) ?_
  | with_reducible refine Bf.r_make ?_
  | with_reducible refine Bf.r_turn ?_
  | with_reducible refine Bf.r_wipe (by with_unfolding_all rfl) ?_
  | with_reducible refine Bf.r_yes ?_
  | with_reducible refine Bf.r_tru ?_
  | with_reducible refine Bf.r_ext (by with_unfolding_all rfl) (by assumption) ?_
  | with_reducible refine Bf.r_glst (by assumption) (by with_unfolding_all rfl) ?_
  | with_reducible refine Bf.r_forR3 ?_
  | with_reducible refine Bf.r_lcR2 ?_
  | with_reducible refine Bf.r_lcL ?_
  | with_reducible refine Bf.r_lcT ?_
  | with_reducible refine Bf.r_lcR ?_
  | with_reducible refine Bf.r_forL ?_
  | with_reducible refine Bf.r_forZ ?_
  | with_reducible refine Bf.r_forT ?_
  | with_reducible refine Bf.r_forR ?_
  | with_reducible refine Bf.r_forR2 ?_
  | ((with_reducible refine Bf.i_d1 ?h ?_); (case h => walk_at "pfN2"))
  | ((with_reducible refine Bf.i_d0 ?h ?_); (case h => walk_at "pfN2"))
  | ((with_reducible refine Bf.i_n1 ?h ?_); (case h => walk_at "pfN2"))
  | ((with_reducible refine Bf.i_n0 ?h ?_); (case h => walk_at "pfN2")))
local macro_rules | `(tactic| walk_at "rdN2") => `(tactic| repeat walk_at "rd1N2")
namespace Bf
open PySem L2
abbrev s_is_prime : Stmt := topS 9
theorem bi_is_prime : ∀ (kV doc pm : Value) (an : Option Addr) (cdv ct : Value) (us : List Value), us.length = 1 → bindArgs (PySem.W.fnOf "is_prime" "is_prime" (defArgs s_is_prime) (defBody s_is_prime) (defScope s_is_prime) .none kV doc pm an cdv ct) ⟨us, []⟩ = pure ((["n"] : List Str).zip us) := fun _ _ _ _ _ _ us hl => match us, hl with | [_], _ => rfl
theorem sc_is_prime : FnScope ["n", "divisor"] ["n"] (defScope s_is_prime) := C8.fnScope_by (by decide +kernel)
abbrev s_inverse_of : Stmt := topS 10
theorem bi_inverse_of : ∀ (kV doc pm : Value) (an : Option Addr) (cdv ct : Value) (us : List Value), us.length = 2 → bindArgs (PySem.W.fnOf "inverse_of" "inverse_of" (defArgs s_inverse_of) (defBody s_inverse_of) (defScope s_inverse_of) .none kV doc pm an cdv ct) ⟨us, []⟩ = pure ((["n", "modulus"] : List Str).zip us) := fun _ _ _ _ _ _ us hl => match us, hl with | [_, _], _ => rfl
theorem sc_inverse_of : FnScope ["n", "modulus", "rest", "other", "mine", "yours", "times"] ["n", "modulus"] (defScope s_inverse_of) := C8.fnScope_by (by decide +kernel)
def spPrime : Sp := fun vs H Q _ => ∃ n, vs = [.int n] ∧ 2 ≤ n ∧ n < 2 ^ 62 ∧ (Pr n → Q (.bl true) H) ∧ (¬ Pr n → Q (.bl false) H)
def spInv : Sp := fun vs H Q _ => ∃ n m, vs = [.int n, .int m] ∧ 2 ≤ m ∧ m ≤ 1000000000 ∧ (Int.gcd n m = 1 → ∀ H', Same H H' → Q (.int (invOf n m)) H') ∧ (Int.gcd n m ≠ 1 → ∀ H', Same H H' → Q .non H')
section
variable {P : Program} {w : World} {K : PySem.W.Frag} {mg : Str → Option Value} {base : Heap}
theorem cal_is_prime (T : Gs mg) (F : DefAt K mg "is_prime" s_is_prime) : C8.Cal P w K mg base 1 "is_prime" spPrime [] := by
  refine cal_of F sc_is_prime bi_is_prime (fun vs H Q E h => ?_) (fun f cdv A outer s H vs Q E hr h => ?_)
  · obtain ⟨n, rfl, _⟩ := h
    rfl
  · refine ⟨_, (pss_cons (ps_if (pt_cmpR op_lt (pv 0) pe_int (nomark _)) (pss_one (ps_ret pe_bl)) pss_nil)
      (pss_cons (ps_if (pt_cmpR op_eq (pe_op op_mod (pv 0) pe_int) pe_int (nomark _)) (pss_one (ps_ret (pe_cmpR op_eq (pv 0) pe_int (nomark _)))) pss_nil)
      (pss_cons (ps_set (i := 1) sc_is_prime.nd rfl (by first | exact Or.inl rfl | exact Or.inr rfl) pe_int)
      (pss_cons (ps_while PassesOwn.never (pt_cmpR op_le (pe_op op_mul (pv 1) (pv 1)) (pv 0) (nomark _)) (pss_cons (ps_if (pt_cmpR op_eq (pe_op op_mod (pv 0) (pv 1)) pe_int (nomark _)) (pss_one (ps_ret pe_bl)) pss_nil)
      (pss_one (ps_aug (i := 1) sc_is_prime.nd rfl (by first | exact Or.inl rfl | exact Or.inr rfl) pe_int ip_add))))
      (pss_one (ps_ret pe_bl)))))), ?_⟩
    obtain ⟨n, rfl, h2, h62, k1, k0⟩ := h
    walk_at "rdN2"
    refine i_d2 (fun he => ?_) (fun he => ?_)
    · walk_at "rdN2"
      refine q_d (P := fun z => Q (.bl z) H) (fun e => ?_) (fun e => ?_)
      · exact k1 ((pr_even h2 he).mpr e)
      · exact k0 fun z => e ((pr_even h2 he).mp z)
    · walk_at "rdN2"
      refine n_while (fun m σ H' => ∃ d : Int, σ = [some (.int n), some (.int d)] ∧ m = (n + 2 - d).toNat ∧ 3 ≤ d ∧ d ≤ n + 1 ∧ d % 2 = 1 ∧ (∀ e : Int, 2 ≤ e → e < d → n % e ≠ 0) ∧ H' = H) (n + 2 - 3).toNat ⟨3, rfl, rfl, by omega, by omega, by decide, fun e h3 h4 => by
        have : e = 2 := by omega
        subst this
        exact he, rfl⟩ ?_
      rintro m σ H' ⟨d, rfl, rfl, hd, hdn, ho, hp, rfl⟩
      walk_at "rdN2"
      refine w_d (fun hc => ?_) (fun hc => ?_)
      · have hdn2 : d ≤ n := by
          have : 3 * d ≤ d * d := Int.mul_le_mul_of_nonneg_right hd (by omega)
          omega
        walk_at "rdN2"
        refine i_d2 (fun hz => ?_) (fun hz => ?_)
        · walk_at "rdN2"
          exact k0 fun z => z d (by omega) hc hz
        · walk_at "rdN2"
          exact ⟨_, by omega, d + 2, rfl, rfl, by omega, by
            by_cases q : d + 2 ≤ n + 1
            · exact q
            · exfalso
              have q2 : d = n := by omega
              exact hz (by rw [q2]; exact Int.emod_self), by omega, pr_step he ho hp hz, rfl⟩
      · walk_at "rdN2"
        exact k1 (pr_end hp (by omega) (by omega))
theorem cal_inverse_of (T : Gs mg) (F : DefAt K mg "inverse_of" s_inverse_of) : C8.Cal P w K mg base 1 "inverse_of" spInv [] := by
  refine cal_of F sc_inverse_of bi_inverse_of (fun vs H Q E h => ?_) (fun f cdv A outer s H vs Q E hr h => ?_)
  · obtain ⟨n, m, rfl, _⟩ := h
    rfl
  · refine ⟨_, (pss_cons (ps_par (by rfl) sc_inverse_of.nd (i := 2) (j := 3) rfl rfl (by decide) rfl rfl (pa_cons (pe_op op_mod (pv 0) (pv 1)) (pa_cons (pv 1) pa_nil)) (by rfl))
      (pss_cons (ps_asg (pe_tup (pa_cons pe_int (pa_cons pe_int pa_nil))) (pg_tup rfl (pgs_cons (pg_name (i := 4) sc_inverse_of.nd rfl (by first | exact Or.inl rfl | exact Or.inr rfl)) (pgs_cons (pg_name (i := 5) sc_inverse_of.nd rfl (by first | exact Or.inl rfl | exact Or.inr rfl)) pgs_nil))))
      (pss_cons (ps_while PassesOwn.never (pt_cmpR op_gt (pv 3) pe_int (nomark _)) (pss_cons (ps_set (i := 6) sc_inverse_of.nd rfl (by first | exact Or.inl rfl | exact Or.inr rfl) (pe_op op_fdivN (pv 2) (pv 3)))
      (pss_cons (ps_par (by rfl) sc_inverse_of.nd (i := 2) (j := 3) rfl rfl (by decide) rfl rfl (pa_cons (pv 3) (pa_cons (pe_op op_sub (pv 2) (pe_op op_mul (pv 6) (pv 3))) pa_nil)) (by rfl))
      (pss_one (ps_par (by rfl) sc_inverse_of.nd (i := 4) (j := 5) rfl rfl (by decide) rfl rfl (pa_cons (pv 5) (pa_cons (pe_op op_sub (pv 4) (pe_op op_mul (pv 6) (pv 5))) pa_nil)) (by rfl))))))
      (pss_cons (ps_if (pt_cmpR op_ne (pv 2) pe_int (nomark _)) (pss_one (ps_ret pe_non)) pss_nil)
      (pss_one (ps_ret (pe_op op_mod (pv 4) (pv 1)))))))), ?_⟩
    obtain ⟨n, m, rfl, h2, h9, k1, k0⟩ := h
    walk_at "rdN2"
    refine n_tup (by decide) fun p H1 np s1 hp => ?_
    walk_at "rdN2"
    refine n_while (fun z σ H' => ∃ (r o a b : Int) (w : Option V), σ = [some (.int n), some (.int m), some (.int r), some (.int o), some (.int a), some (.int b), w] ∧ z = o.toNat ∧ Eu n m r o a b ∧ H' = H1) m.toNat
      ⟨n % m, m, 1, 0, none, rfl, rfl, eu_start h2, rfl⟩ ?_
    rintro z σ H' ⟨r, o, a, b, w, rfl, rfl, eu, rfl⟩
    walk_at "rdN2"
    refine w_d (fun hc => ?_) (fun hc => ?_)
    · obtain ⟨t1, t2, t3, t4, t5⟩ := eu_turn eu hc
      have o1 := eu.o1
      have ef : Int.fdiv r o = r / o := Int.fdiv_eq_ediv_of_nonneg r (by omega)
      with_reducible refine r_seq ?_
      with_reducible refine r_asg ?_
      walk_at "rdN2"
      rw [← ef] at t1 t2 t3 t4 t5
      exact ⟨_, by omega, o, r - Int.fdiv r o * o, b, a - Int.fdiv r o * b, _, rfl, rfl, t1, rfl⟩
    · have o0 : o = 0 := by
        have := eu.o0
        omega
      subst o0
      obtain ⟨g1, g2⟩ := eu_end h2 eu
      walk_at "rdN2"
      refine i_n2 (fun hr => ?_) (fun hr => ?_)
      · walk_at "rdN2"
        exact k0 (fun z => hr (g1.mpr z)) _ s1
      · walk_at "rdN2"
        rw [← invOf_eq h2 (g2 hr)]
        exact k1 (g1.mp hr) _ s1
end
end Bf
local macro_rules | `(tactic| walk_at "pfN3") => `(tactic| first | decide +kernel | omega | assumption | rfl | (simp only [List.length_cons, List.length_nil]; omega))
local macro_rules | `(tactic| walk_at "rd1N3") => `(tactic| first
  | with_reducible refine Bf.r_seq ?_
  | with_reducible refine Bf.r_asg ?_
  | with_reducible refine Bf.r_var (by with_unfolding_all rfl) ?_
  | with_reducible refine Bf.r_c ?_
  | with_reducible refine Bf.r_name ?_
  | with_reducible refine Bf.r_ret ?_
  | with_reducible refine Bf.r_op ?_
  | with_reducible refine Bf.r_I0 ?_
  | ((with_reducible refine Bf.r_I ?c ?_); (case c => first | decide | (show (0 : Int) < _; omega) | (refine Or.inl ⟨?_, ?_⟩ <;> omega) | (refine Or.inr ⟨?_, ?_⟩ <;> omega) | (refine And.intro ?_ ?_ <;> omega)))
  | with_reducible refine Bf.r_ifS ?_
  | with_reducible refine Bf.r_test ?_
  | with_reducible refine Bf.r_isbl ?_
  | with_reducible refine Bf.r_eqI ?_
  | with_reducible refine Bf.r_neI ?_
  | with_reducible refine Bf.r_eqS ?_
  | with_reducible refine Bf.r_neS ?_
  | with_reducible refine Bf.r_cons ?_
  | with_reducible refine Bf.r_nil ?_
  | with_reducible refine Bf.r_CB ?_
  | with_reducible refine Bf.r_call ?_
  | with_reducible refine Bf.i_t ?_
  | with_reducible refine Bf.i_f ?_
  | with_reducible refine Bf.i_nt ?_
  | with_reducible refine Bf.i_nf ?_
  | with_reducible refine Bf.r_ixT (by assumption) (by with_unfolding_all rfl) ?_
  | with_reducible refine Bf.r_ixL (by assumption) (by with_unfolding_all rfl) ?_
  | with_reducible refine Bf.r_fld ?_
  | ((with_reducible refine Bf.r_fat (by assumption) ?c ?n (by with_unfolding_all rfl) ?_); (case c => assumption); (case n => assumption))
  | with_reducible refine Bf.r_par ?_
  | with_reducible refine Bf.r_two ?_
  | with_reducible refine Bf.r_aug (by with_unfolding_all rfl) ?_
  | with_reducible refine Bf.r_ip ?_
  | with_reducible refine Bf.r_app (by with_unfolding_all rfl) (by assumption) ?_
  | with_reducible refine Bf.r_next ?_
  | with_reducible refine Bf.r_cont ?_
  | with_reducible refine Bf.r_drop ?_
  | with_reducible refine Bf.r_and ?_
  | with_reducible refine Bf.r_or ?_
  | with_reducible refine Bf.r_not ?_
  | with_reducible refine Bf.r_andV ?_
  | with_reducible refine Bf.r_orV ?_
  | with_reducible refine Bf.r_notV ?_
  | with_reducible refine Bf.r_chain ?_
  | with_reducible refine Bf.r_B ?_
  | with_reducible refine Bf.r_ifE ?_
  | with_reducible refine Bf.r_un ?_
  | with_reducible refine Bf.r_U ?_
  | with_reducible refine Bf.r_tup ?_
  | with_reducible refine Bf.r_lst ?_
  | with_reducible refine Bf.r_lenT (by assumption) ?_
  | with_reducible refine Bf.r_lenL (by assumption) ?_
  | with_reducible refine Bf.r_int ?_
  | with_reducible refine Bf.r_max2 ?_
  | with_reducible refine Bf.r_min2 ?_
  | with_reducible refine Bf.isi_ Bf.ty_i Bf.kb_ii ?_
  | with_reducible refine Bf.isi_ Bf.ty_i Bf.kb_ib ?_
  | with_reducible refine Bf.isi_ Bf.ty_i Bf.kb_is ?_
  | with_reducible refine Bf.isi_ Bf.ty_i Bf.kb_it ?_
  | with_reducible refine Bf.isi_ Bf.ty_i Bf.kb_il ?_
  | with_reducible refine Bf.isi_ Bf.ty_s Bf.kb_si ?_
  | with_reducible refine Bf.isi_ Bf.ty_s Bf.kb_sb ?_
  | with_reducible refine Bf.isi_ Bf.ty_s Bf.kb_ss ?_
  | with_reducible refine Bf.isi_ Bf.ty_s Bf.kb_st ?_
  | with_reducible refine Bf.isi_ Bf.ty_s Bf.kb_sl ?_
  | with_reducible refine Bf.isi_ (Bf.ty_t (by assumption)) Bf.kb_tt ?_
  | with_reducible refine Bf.isi_ (Bf.ty_l (by assumption)) Bf.kb_ll ?_
  | with_reducible refine Bf.isi_ (Bf.ty_t (by assumption)) Bf.kb_tl ?_
  | with_reducible refine Bf.isi_ (Bf.ty_l (by assumption)) Bf.kb_lt ?_
  | with_reducible refine Bf.isi_ Bf.ty_b Bf.kb_bi ?_
  | with_reducible refine Bf.isi_ Bf.ty_b Bf.kb_bb ?_
  | with_reducible refine Bf.isi_ Bf.ty_b Bf.kb_bs ?_
  | with_reducible refine Bf.isi_ Bf.ty_b Bf.kb_bt ?_
  | with_reducible refine Bf.isi_ Bf.ty_b Bf.kb_bL ?_
  | with_reducible refine Bf.isi_ Bf.ty_n Bf.kb_ni ?_
  | with_reducible refine Bf.isi_ Bf.ty_n Bf.kb_nb ?_
  | with_reducible refine Bf.isi_ Bf.ty_n Bf.kb_ns ?_
  | with_reducible refine Bf.isi_ Bf.ty_n Bf.kb_nt ?_
  | with_reducible refine Bf.isi_ Bf.ty_n Bf.kb_nl ?_
  | with_reducible refine Bf.isi_ (Bf.ty_t (by assumption)) Bf.kb_ti ?_
  | with_reducible refine Bf.isi_ (Bf.ty_l (by assumption)) Bf.kb_li ?_
  | with_reducible refine Bf.isi_ (Bf.ty_t (by assumption)) Bf.kb_tb ?_
  | with_reducible refine Bf.isi_ (Bf.ty_l (by assumption)) Bf.kb_lb ?_
  | with_reducible refine Bf.isi_ (Bf.ty_t (by assumption)) Bf.kb_ts ?_
  | with_reducible refine Bf.isi_ (Bf.ty_l (by assumption)) Bf.kb_ls ?_
  | with_reducible refine Bf.r_gtup (by assumption) (by with_unfolding_all rfl) ?_
  | with_reducible refine Bf.r_gcons ?_
  | with_reducible refine Bf.r_gnil ?_
  | with_reducible refine Bf.r_gsub ?_
  | ((with_reducible refine Bf.n_num ?h ?_); (case h => first | assumption | (refine And.intro ?_ ?_ <;> omega)))
  | with_reducible refine Bf.n_isint ?_
  | with_reducible refine Bf.n_mixed ?_
  | with_reducible refine Bf.r_dget ?_
  | with_reducible refine Bf.n_dgetS (by assumption) (by with_unfolding_all rfl) ?_
  | with_reducible refine Bf.r_pcons ?_
  | with_reducible refine Bf.r_pnil ?_
  | with_reducible refine Bf.r_sl ?_
  | with_reducible refine Bf.r_nopart ?_
  | with_reducible refine Bf.r_part ?_
  | with_reducible refine Bf.r_isint ?_
  | with_reducible refine Bf.r_revL ?_
  | with_reducible refine Bf.r_sfld ?_
  | with_reducible refine Bf.r_meth ?_
  | with_reducible refine Bf.n_meth (by assumption) (by with_unfolding_all rfl) ?_
  | with_reducible refine Bf.r_make ?_
  | with_reducible refine Bf.r_turn ?_
  | with_reducible refine Bf.r_wipe (by with_unfolding_all rfl) ?_
  | with_reducible refine Bf.r_yes ?_
  | with_reducible refine Bf.r_tru ?_
  | with_reducible refine Bf.r_ext (by with_unfolding_all rfl) (by assumption) ?_
  | with_reducible refine Bf.r_glst (by assumption) (by with_unfolding_all rfl) ?_
  | with_reducible refine Bf.r_forR3 ?_
  | with_reducible refine Bf.r_lcR2 ?_
  | with_reducible refine Bf.r_lcL ?_
  | with_reducible refine Bf.r_lcT ?_
  | with_reducible refine Bf.r_lcR ?_
  | with_reducible refine Bf.r_forL ?_
  | with_reducible refine Bf.r_forZ ?_
  | with_reducible refine Bf.r_forT ?_
  | with_reducible refine Bf.r_forR ?_
  | with_reducible refine Bf.r_forR2 ?_
  | ((with_reducible refine Bf.i_d1 ?h ?_); (case h => walk_at "pfN3"))
  | ((with_reducible refine Bf.i_d0 ?h ?_); (case h => walk_at "pfN3"))
  | ((with_reducible refine Bf.i_n1 ?h ?_); (case h => walk_at "pfN3"))
  | ((with_reducible refine Bf.i_n0 ?h ?_); (case h => walk_at "pfN3")))
local macro_rules | `(tactic| walk_at "rdN3") => `(tactic| repeat walk_at "rd1N3")
namespace Bf
open PySem L2
abbrev s_weights : Stmt := topS 11
theorem bi_weights : ∀ (kV doc pm : Value) (an : Option Addr) (cdv ct : Value) (us : List Value), us.length = 3 → bindArgs (PySem.W.fnOf "weights" "weights" (defArgs s_weights) (defBody s_weights) (defScope s_weights) .none kV doc pm an cdv ct) ⟨us, []⟩ = pure ((["size", "prime", "x"] : List Str).zip us) := fun _ _ _ _ _ _ us hl => match us, hl with | [_, _, _], _ => rfl
theorem sc_weights : FnScope ["size", "prime", "x", "found", "i", "above", "below", "j"] ["size", "prime", "x"] (defScope s_weights) := C8.fnScope_by (by decide +kernel)
abbrev s_interpolate : Stmt := topS 12
theorem bi_interpolate : ∀ (kV doc pm : Value) (an : Option Addr) (cdv ct : Value) (us : List Value), us.length = 4 → bindArgs (PySem.W.fnOf "interpolate" "interpolate" (defArgs s_interpolate) (defBody s_interpolate) (defScope s_interpolate) .none kV doc pm an cdv ct) ⟨us, []⟩ = pure ((["table", "prime", "x", "y"] : List Str).zip us) := fun _ _ _ _ _ _ us hl => match us, hl with | [_, _, _, _], _ => rfl
theorem sc_interpolate : FnScope ["table", "prime", "x", "y", "size", "rows", "columns", "total", "row", "weight", "part", "entry", "other"] ["table", "prime", "x", "y"] (defScope s_interpolate) := C8.fnScope_by (by decide +kernel)
theorem wprod_succ (p x i : Int) (j : Nat) : wprod p x i (List.range (j + 1)) = if (j : Int) ≠ i then wprod p x i (List.range j) * (x - j) % p else wprod p x i (List.range j) := by
  unfold wprod
  rw [List.range_succ, List.foldl_append]
  rfl
theorem wgts_take_succ {p : Int} {K : Nat} {x : Int} {i : Nat} (h : i < K) : ((wgts p K x).take (i + 1)) = (wgts p K x).take i ++ [wgt p K x i] := by
  apply take_snoc
  unfold wgts
  rw [List.getElem?_map, range_at h]
  rfl
def spWgts : Sp := fun vs H Q _ => ∃ (n : Nat) (p x : Int), vs = [.int n, .int p, .int x] ∧ n ≤ 1000000 ∧ 2 ≤ p ∧ p ≤ 1000000000 ∧ Units p n ∧ ∀ q H', H q = none → Same H H' → H' q = some (.lst ((wgts p n x).map V.int)) → Q (.ref q) H'
def spItp : Sp := fun vs H Q _ => ∃ (tb : List (List Int)) (t : V) (p x y : Int), vs = [t, .int p, .int x, .int y] ∧ Rp H (.t (tb.map fun r => .t (r.map .i))) t ∧ tb.length ≤ 1000000 ∧ 2 ≤ p ∧ p ≤ 1000000000 ∧ Units p tb.length ∧ (∀ row ∈ tb, row.length = tb.length) ∧ ∀ H', Same H H' → Q (.int (itp tb p x y)) H'
section
variable {P : Program} {w : World} {K : PySem.W.Frag} {mg : Str → Option Value} {base : Heap}
theorem cal_weights (T : Gs mg) (c_inverse_of : C8.Cal P w K mg base 1 "inverse_of" spInv []) (F : DefAt K mg "weights" s_weights) : C8.Cal P w K mg base 2 "weights" spWgts [] := by
  refine cal_of F sc_weights bi_weights (fun vs H Q E h => ?_) (fun f cdv A outer s H vs Q E hr h => ?_)
  · obtain ⟨n, p, x, rfl, _⟩ := h
    rfl
  · refine ⟨_, (pss_cons (ps_set (i := 3) sc_weights.nd rfl (by first | exact Or.inl rfl | exact Or.inr rfl) (pe_lst pa_nil))
      (pss_cons (ps_for PassesOwn.never rfl (pi_range1 rfl T.n_range (pa_cons (pv 0) pa_nil)) (pg_name (i := 4) sc_weights.nd rfl (by first | exact Or.inl rfl | exact Or.inr rfl)) (pss_cons (ps_asg (pe_tup (pa_cons pe_int (pa_cons pe_int pa_nil))) (pg_tup rfl (pgs_cons (pg_name (i := 5) sc_weights.nd rfl (by first | exact Or.inl rfl | exact Or.inr rfl)) (pgs_cons (pg_name (i := 6) sc_weights.nd rfl (by first | exact Or.inl rfl | exact Or.inr rfl)) pgs_nil))))
      (pss_cons (ps_for PassesOwn.never rfl (pi_range1 rfl T.n_range (pa_cons (pv 0) pa_nil)) (pg_name (i := 7) sc_weights.nd rfl (by first | exact Or.inl rfl | exact Or.inr rfl)) (pss_one (ps_if (pt_cmpR op_ne (pv 7) (pv 4) (nomark _)) (pss_cons (ps_set (i := 5) sc_weights.nd rfl (by first | exact Or.inl rfl | exact Or.inr rfl) (pe_op op_mod (pe_op op_mul (pv 5) (pe_op op_sub (pv 2) (pv 7))) (pv 1)))
      (pss_one (ps_set (i := 6) sc_weights.nd rfl (by first | exact Or.inl rfl | exact Or.inr rfl) (pe_op op_mod (pe_op op_mul (pv 6) (pe_op op_sub (pv 4) (pv 7))) (pv 1))))) pss_nil)))
      (pss_one (ps_expr (pe_bm PySem.F.plainAttrs_list PySem.F.slot_list_append PySem.F.type_list_append mt_append (pv 3) (pa_cons (pe_op op_mod (pe_op op_mul (pv 5) (C8.pe_c c_inverse_of hr (by first | decide | omega) rfl (pa_cons (pv 6) (pa_cons (pv 1) pa_nil)))) (pv 1)) pa_nil)))))))
      (pss_one (ps_ret (pv 3))))), ?_⟩
    obtain ⟨n, p, x, rfl, hn, h2, h9, hu, k⟩ := h
    walk_at "rdN3"
    refine n_lst (by decide) fun q H1 nq s1 hq => ?_
    walk_at "rdN3"
    refine n_forR (fun i σ H' => ∃ u1 u2 u3 u4 : Option V, σ = [some (.int n), some (.int p), some (.int x), some (.ref q), u1, u2, u3, u4] ∧ H' q = some (.lst (((wgts p n x).take i).map V.int)) ∧ Same H H') (by omega)
      ⟨_, _, _, _, rfl, hq, s1⟩ ?_ ?_
    · rintro i σ H2 hi ⟨u1, u2, u3, u4, rfl, hq2, s2⟩
      have hi' : i < n := by omega
      walk_at "rdN3"
      refine n_tup (by decide) fun T H3 nT s3 hT => ?_
      walk_at "rdN3"
      refine n_forR (fun j σ H' => ∃ u4 : Option V, σ = [some (.int n), some (.int p), some (.int x), some (.ref q), some (.int i), some (.int (wprod p x i (List.range j))), some (.int (wprod p i i (List.range j))), u4] ∧ H' = H3) (by omega)
        ⟨_, rfl, rfl⟩ ?_ ?_
      · rintro j σ H' hj ⟨u4, rfl, rfl⟩
        have b1 := wprod_bd (x := x) (i := i) h2 (List.range j)
        have b2 := wprod_bd (x := i) (i := i) h2 (List.range j)
        walk_at "rdN3"
        refine i_n2 (fun hne => ?_) (fun hne => ?_)
        · walk_at "rdN3"
          exact ⟨_, by rw [wprod_succ, wprod_succ, if_pos hne, if_pos hne]; rfl, rfl⟩
        · walk_at "rdN3"
          exact ⟨_, by rw [wprod_succ, wprod_succ, if_neg (by omega), if_neg (by omega)]; rfl, rfl⟩
      · rintro σ H' ⟨u4, rfl, rfl⟩
        rw [show (n : Int).toNat = n by omega]
        have b1 := wprod_bd (x := x) (i := i) h2 (List.range n)
        have hq3 := s3 _ _ hq2
        walk_at "rdN3"
        refine ⟨_, _, rfl, h2, h9, fun _ H4 s4 => ?_, fun hc => absurd (wprod_unit hu hi' (List.range n) (fun j hj => List.mem_range.mp hj)) hc⟩
        walk_at "rdN3"
        have hq4 := s4 _ _ hq3
        refine n_app hq4 (by
          rw [List.length_map, List.length_take]
          have : sizeLine = 2 ^ 24 := rfl
          omega) fun H5 k5 hq5 => ?_
        walk_at "rdN3"
        refine ⟨_, _, _, _, rfl, ?_, same_kp nq (s2.trans (s3.trans s4)) k5⟩
        rw [hq5, wgts_take_succ hi', List.map_append]
        rfl
    · rintro σ H' ⟨u1, u2, u3, u4, rfl, hq2, s2⟩
      walk_at "rdN3"
      rw [show (n : Int).toNat = n by omega, List.take_of_length_le (by rw [wgts_len]; exact Nat.le_refl _)] at hq2
      exact k q H' nq s2 hq2
theorem cal_interpolate (T : Gs mg) (c_weights : C8.Cal P w K mg base 2 "weights" spWgts []) (F : DefAt K mg "interpolate" s_interpolate) : C8.Cal P w K mg base 3 "interpolate" spItp [] := by
  refine cal_of F sc_interpolate bi_interpolate (fun vs H Q E h => ?_) (fun f cdv A outer s H vs Q E hr h => ?_)
  · obtain ⟨n, t, p, x, y, rfl, _⟩ := h
    rfl
  · refine ⟨_, (pss_cons (ps_set (i := 4) sc_interpolate.nd rfl (by first | exact Or.inl rfl | exact Or.inr rfl) (pe_callB b_len (by rfl) T.n_len PySem.boot_len (pa_cons (pv 0) pa_nil)))
      (pss_cons (ps_if (PW.pt (pw_and (pt_chain op_le op_lt pe_int (pv 2) (pv 4)) (pw_and1 (pt_chain op_le op_lt pe_int (pv 3) (pv 4))))) (pss_one (ps_ret (pe_op op_mod (pe_ix ix_seq (pe_ix ix_seq (pv 0) (pv 2) (fun _ _ => rfl)) (pv 3) (fun _ _ => rfl)) (pv 1)))) pss_nil)
      (pss_cons (ps_set (i := 5) sc_interpolate.nd rfl (by first | exact Or.inl rfl | exact Or.inr rfl) (C8.pe_c c_weights hr (by first | decide | omega) rfl (pa_cons (pv 4) (pa_cons (pv 1) (pa_cons (pv 2) pa_nil)))))
      (pss_cons (ps_set (i := 6) sc_interpolate.nd rfl (by first | exact Or.inl rfl | exact Or.inr rfl) (C8.pe_c c_weights hr (by first | decide | omega) rfl (pa_cons (pv 4) (pa_cons (pv 1) (pa_cons (pv 3) pa_nil)))))
      (pss_cons (ps_set (i := 7) sc_interpolate.nd rfl (by first | exact Or.inl rfl | exact Or.inr rfl) pe_int)
      (pss_cons (ps_for PassesOwn.never rfl (pi_zipTL (by rfl) T.n_zip (pa_cons (pv 0) (pa_cons (pv 5) pa_nil))) (pg_tup rfl (pgs_cons (pg_name (i := 8) sc_interpolate.nd rfl (by first | exact Or.inl rfl | exact Or.inr rfl)) (pgs_cons (pg_name (i := 9) sc_interpolate.nd rfl (by first | exact Or.inl rfl | exact Or.inr rfl)) pgs_nil))) (pss_cons (ps_set (i := 10) sc_interpolate.nd rfl (by first | exact Or.inl rfl | exact Or.inr rfl) pe_int)
      (pss_cons (ps_for PassesOwn.never rfl (pi_zipTL (by rfl) T.n_zip (pa_cons (pv 8) (pa_cons (pv 6) pa_nil))) (pg_tup rfl (pgs_cons (pg_name (i := 11) sc_interpolate.nd rfl (by first | exact Or.inl rfl | exact Or.inr rfl)) (pgs_cons (pg_name (i := 12) sc_interpolate.nd rfl (by first | exact Or.inl rfl | exact Or.inr rfl)) pgs_nil))) (pss_one (ps_aug (i := 10) sc_interpolate.nd rfl (by first | exact Or.inl rfl | exact Or.inr rfl) (pe_op op_mul (pv 11) (pv 12)) ip_add)))
      (pss_one (ps_set (i := 7) sc_interpolate.nd rfl (by first | exact Or.inl rfl | exact Or.inr rfl) (pe_op op_mod (pe_op op_add (pv 7) (pe_op op_mul (pv 9) (pv 10))) (pv 1)))))))
      (pss_one (ps_ret (pv 7))))))))), ?_⟩
    obtain ⟨tb, t, p, x, y, rfl, hR, hn, h2, h9, hu, hsq, k⟩ := h
    obtain ⟨a, vs, rfl, ha, hl⟩ := hR
    have hlen := hl.len
    rw [List.length_map] at hlen
    walk_at "rdN3"
    by_cases hc : (0 ≤ x ∧ x < tb.length) ∧ 0 ≤ y ∧ y < tb.length
    · have hcc := hc
      obtain ⟨⟨x0, x1⟩, y0, y1⟩ := hc
      have e1 : x.toNat < tb.length := by omega
      have e2 : (tb.map fun r => Dt.t (r.map .i))[x.toNat]? = some (.t ((tb.getD x.toNat []).map .i)) := by
        rw [List.getElem?_map, List.getElem?_eq_getElem e1, List.getD_eq_getElem?_getD, List.getElem?_eq_getElem e1]
        rfl
      obtain ⟨v1, hv1, r1⟩ := hl.get e2
      obtain ⟨b, vs2, rfl, hb, hl2⟩ := r1
      have e3 := RpL.eq_ints hl2
      subst e3
      have em : tb.getD x.toNat [] ∈ tb := by
        rw [List.getD_eq_getElem?_getD, List.getElem?_eq_getElem e1]
        exact List.getElem_mem e1
      have e4 : y.toNat < (tb.getD x.toNat []).length := by rw [hsq _ em]; omega
      have e5 : ((tb.getD x.toNat []).map V.int)[y.toNat]? = some (.int ((tb.getD x.toNat []).getD y.toNat 0)) := by
        rw [List.getElem?_map, List.getD_eq_getElem?_getD (l := tb.getD x.toNat []), List.getElem?_eq_getElem e4]
        rfl
      rw [← hlen] at x1 y1
      refine i_d1 x0 ?_
      walk_at "rdN3"
      refine r_ixT ha (at_nat x0 hv1) ?_
      walk_at "rdN3"
      refine r_ixT hb (at_nat y0 e5) ?_
      walk_at "rdN3"
      have e6 : itp tb p x y = (tb.getD x.toNat []).getD y.toNat 0 % p := by
        unfold itp
        rw [if_pos hcc]
      rw [← e6]
      exact k H (Same.refl H)
    · have rest : itp tb p x y = Bf.outer p (wgts p tb.length y) (tb.zip (wgts p tb.length x)) := by
        unfold itp
        rw [if_neg hc]
      refine i_d2 (fun c1 => ?_) (fun c1 => ?_)
      · walk_at "rdN3"
        refine i_d2 (fun c2 => ?_) (fun c2 => ?_)
        · walk_at "rdN3"
          refine i_d2 (fun c3 => ?_) (fun c3 => ?_)
          · have c4 : ¬ y < vs.length := fun c4 => hc (by rw [← hlen]; exact ⟨⟨c1, c2⟩, c3, c4⟩)
            walk_at "rdN3"
            (refine ⟨tb.length, p, x, by rw [hlen]; rfl, hn, h2, h9, hu, fun q1 H1 n1 s1 hq1 => ?_⟩
             walk_at "rdN3"
             refine ⟨tb.length, p, y, by rw [hlen]; rfl, hn, h2, h9, hu, fun q2 H2 n2 s2 hq2 => ?_⟩
             walk_at "rdN3"
             replace hq1 := s2 _ _ hq1
             replace ha := s2 _ _ (s1 _ _ ha)
             replace hl := hl.same (s1.trans s2)
             have s3 := s1.trans s2
             refine n_forZ (fun i σ H' => ∃ u1 u2 u3 u4 u5 : Option V, σ = [some (.ref a), some (.int p), some (.int x), some (.int y), some (.int vs.length), some (.ref q1), some (.ref q2), some (.int (Bf.outer p (wgts p tb.length y) ((tb.zip (wgts p tb.length x)).take i))), u1, u2, u3, u4, u5] ∧ Same H2 H') ha hq1 (by rw [hlen, List.length_map, wgts_len])
               ⟨_, _, _, _, _, rfl, Same.refl _⟩ ?_ ?_ ?_
             · rintro i σ H' ⟨u1, u2, u3, u4, u5, rfl, s4⟩
               exact ⟨s4 _ _ ha, s4 _ _ hq1⟩
             · rintro i v v2 T σ H3 H4 hv hv2 ⟨u1, u2, u3, u4, u5, rfl, s4⟩ nT s5 hT
               obtain ⟨wt, hwt, rfl⟩ := map_at hv2
               obtain ⟨dr, hdr, hrv⟩ := hl.at hv
               rw [List.getElem?_map] at hdr
               obtain ⟨row, hrow, rfl⟩ := Option.map_eq_some_iff.mp hdr
               obtain ⟨b, vs2, rfl, hb, hl2⟩ := hrv
               have e3 := RpL.eq_ints hl2
               subst e3
               replace hb := s5 _ _ (s4 _ _ hb)
               have hq2' := s5 _ _ (s4 _ _ hq2)
               have bw := wgts_bd h2 (List.mem_of_getElem? hwt)
               have hz : (tb.zip (wgts p tb.length x))[i]? = some (row, wt) := List.getElem?_zip_eq_some.mpr ⟨hrow, hwt⟩
               walk_at "rdN3"
               refine n_forZ (fun j σ H' => ∃ u4 u5 : Option V, σ = [some (.ref a), some (.int p), some (.int x), some (.int y), some (.int vs.length), some (.ref q1), some (.ref q2), some (.int (Bf.outer p (wgts p tb.length y) ((tb.zip (wgts p tb.length x)).take i))), some (.ref b), some (.int wt), some (.int (((row.zip (wgts p tb.length y)).take j).foldl (fun (part : Int) (q : Int × Int) => part + q.1 * q.2) 0)), u4, u5] ∧ Same H4 H') hb hq2' (by rw [List.length_map, List.length_map, wgts_len, hsq _ (List.mem_of_getElem? hrow)])
                 ⟨_, _, rfl, Same.refl _⟩ ?_ ?_ ?_
               · rintro j σ H' ⟨u4, u5, rfl, s6⟩
                 exact ⟨s6 _ _ hb, s6 _ _ hq2'⟩
               · rintro j v v2 T2 σ H5 H6 hv hv2 ⟨u4, u5, rfl, s6⟩ nT2 s7 hT2
                 obtain ⟨en, hen, rfl⟩ := map_at hv
                 obtain ⟨wt2, hwt2, rfl⟩ := map_at hv2
                 have bw2 := wgts_bd h2 (List.mem_of_getElem? hwt2)
                 have hz2 : (row.zip (wgts p tb.length y))[j]? = some (en, wt2) := List.getElem?_zip_eq_some.mpr ⟨hen, hwt2⟩
                 walk_at "rdN3"
                 exact ⟨_, _, by rw [foldl_take _ _ hz2]; rfl, s6.trans s7⟩
               · rintro σ H' ⟨u4, u5, rfl, s6⟩
                 rw [List.length_map, show row.length = (row.zip (wgts p tb.length y)).length by rw [List.length_zip, wgts_len, hsq _ (List.mem_of_getElem? hrow), Nat.min_self], List.take_length]
                 walk_at "rdN3"
                 have e8 : Bf.outer p (wgts p tb.length y) ((tb.zip (wgts p tb.length x)).take (i + 1)) = _ := foldl_take _ _ hz
                 exact ⟨_, _, _, _, _, by rw [e8]; rfl, s4.trans (s5.trans s6)⟩
             · rintro σ H' ⟨u1, u2, u3, u4, u5, rfl, s4⟩
               rw [show vs.length = (tb.zip (wgts p tb.length x)).length by rw [List.length_zip, wgts_len, hlen, Nat.min_self], List.take_length, ← rest]
               walk_at "rdN3"
               exact k _ (s3.trans s4))
          · walk_at "rdN3"
            (refine ⟨tb.length, p, x, by rw [hlen]; rfl, hn, h2, h9, hu, fun q1 H1 n1 s1 hq1 => ?_⟩
             walk_at "rdN3"
             refine ⟨tb.length, p, y, by rw [hlen]; rfl, hn, h2, h9, hu, fun q2 H2 n2 s2 hq2 => ?_⟩
             walk_at "rdN3"
             replace hq1 := s2 _ _ hq1
             replace ha := s2 _ _ (s1 _ _ ha)
             replace hl := hl.same (s1.trans s2)
             have s3 := s1.trans s2
             refine n_forZ (fun i σ H' => ∃ u1 u2 u3 u4 u5 : Option V, σ = [some (.ref a), some (.int p), some (.int x), some (.int y), some (.int vs.length), some (.ref q1), some (.ref q2), some (.int (Bf.outer p (wgts p tb.length y) ((tb.zip (wgts p tb.length x)).take i))), u1, u2, u3, u4, u5] ∧ Same H2 H') ha hq1 (by rw [hlen, List.length_map, wgts_len])
               ⟨_, _, _, _, _, rfl, Same.refl _⟩ ?_ ?_ ?_
             · rintro i σ H' ⟨u1, u2, u3, u4, u5, rfl, s4⟩
               exact ⟨s4 _ _ ha, s4 _ _ hq1⟩
             · rintro i v v2 T σ H3 H4 hv hv2 ⟨u1, u2, u3, u4, u5, rfl, s4⟩ nT s5 hT
               obtain ⟨wt, hwt, rfl⟩ := map_at hv2
               obtain ⟨dr, hdr, hrv⟩ := hl.at hv
               rw [List.getElem?_map] at hdr
               obtain ⟨row, hrow, rfl⟩ := Option.map_eq_some_iff.mp hdr
               obtain ⟨b, vs2, rfl, hb, hl2⟩ := hrv
               have e3 := RpL.eq_ints hl2
               subst e3
               replace hb := s5 _ _ (s4 _ _ hb)
               have hq2' := s5 _ _ (s4 _ _ hq2)
               have bw := wgts_bd h2 (List.mem_of_getElem? hwt)
               have hz : (tb.zip (wgts p tb.length x))[i]? = some (row, wt) := List.getElem?_zip_eq_some.mpr ⟨hrow, hwt⟩
               walk_at "rdN3"
               refine n_forZ (fun j σ H' => ∃ u4 u5 : Option V, σ = [some (.ref a), some (.int p), some (.int x), some (.int y), some (.int vs.length), some (.ref q1), some (.ref q2), some (.int (Bf.outer p (wgts p tb.length y) ((tb.zip (wgts p tb.length x)).take i))), some (.ref b), some (.int wt), some (.int (((row.zip (wgts p tb.length y)).take j).foldl (fun (part : Int) (q : Int × Int) => part + q.1 * q.2) 0)), u4, u5] ∧ Same H4 H') hb hq2' (by rw [List.length_map, List.length_map, wgts_len, hsq _ (List.mem_of_getElem? hrow)])
                 ⟨_, _, rfl, Same.refl _⟩ ?_ ?_ ?_
               · rintro j σ H' ⟨u4, u5, rfl, s6⟩
                 exact ⟨s6 _ _ hb, s6 _ _ hq2'⟩
               · rintro j v v2 T2 σ H5 H6 hv hv2 ⟨u4, u5, rfl, s6⟩ nT2 s7 hT2
                 obtain ⟨en, hen, rfl⟩ := map_at hv
                 obtain ⟨wt2, hwt2, rfl⟩ := map_at hv2
                 have bw2 := wgts_bd h2 (List.mem_of_getElem? hwt2)
                 have hz2 : (row.zip (wgts p tb.length y))[j]? = some (en, wt2) := List.getElem?_zip_eq_some.mpr ⟨hen, hwt2⟩
                 walk_at "rdN3"
                 exact ⟨_, _, by rw [foldl_take _ _ hz2]; rfl, s6.trans s7⟩
               · rintro σ H' ⟨u4, u5, rfl, s6⟩
                 rw [List.length_map, show row.length = (row.zip (wgts p tb.length y)).length by rw [List.length_zip, wgts_len, hsq _ (List.mem_of_getElem? hrow), Nat.min_self], List.take_length]
                 walk_at "rdN3"
                 have e8 : Bf.outer p (wgts p tb.length y) ((tb.zip (wgts p tb.length x)).take (i + 1)) = _ := foldl_take _ _ hz
                 exact ⟨_, _, _, _, _, by rw [e8]; rfl, s4.trans (s5.trans s6)⟩
             · rintro σ H' ⟨u1, u2, u3, u4, u5, rfl, s4⟩
               rw [show vs.length = (tb.zip (wgts p tb.length x)).length by rw [List.length_zip, wgts_len, hlen, Nat.min_self], List.take_length, ← rest]
               walk_at "rdN3"
               exact k _ (s3.trans s4))
        · walk_at "rdN3"
          (refine ⟨tb.length, p, x, by rw [hlen]; rfl, hn, h2, h9, hu, fun q1 H1 n1 s1 hq1 => ?_⟩
           walk_at "rdN3"
           refine ⟨tb.length, p, y, by rw [hlen]; rfl, hn, h2, h9, hu, fun q2 H2 n2 s2 hq2 => ?_⟩
           walk_at "rdN3"
           replace hq1 := s2 _ _ hq1
           replace ha := s2 _ _ (s1 _ _ ha)
           replace hl := hl.same (s1.trans s2)
           have s3 := s1.trans s2
           refine n_forZ (fun i σ H' => ∃ u1 u2 u3 u4 u5 : Option V, σ = [some (.ref a), some (.int p), some (.int x), some (.int y), some (.int vs.length), some (.ref q1), some (.ref q2), some (.int (Bf.outer p (wgts p tb.length y) ((tb.zip (wgts p tb.length x)).take i))), u1, u2, u3, u4, u5] ∧ Same H2 H') ha hq1 (by rw [hlen, List.length_map, wgts_len])
             ⟨_, _, _, _, _, rfl, Same.refl _⟩ ?_ ?_ ?_
           · rintro i σ H' ⟨u1, u2, u3, u4, u5, rfl, s4⟩
             exact ⟨s4 _ _ ha, s4 _ _ hq1⟩
           · rintro i v v2 T σ H3 H4 hv hv2 ⟨u1, u2, u3, u4, u5, rfl, s4⟩ nT s5 hT
             obtain ⟨wt, hwt, rfl⟩ := map_at hv2
             obtain ⟨dr, hdr, hrv⟩ := hl.at hv
             rw [List.getElem?_map] at hdr
             obtain ⟨row, hrow, rfl⟩ := Option.map_eq_some_iff.mp hdr
             obtain ⟨b, vs2, rfl, hb, hl2⟩ := hrv
             have e3 := RpL.eq_ints hl2
             subst e3
             replace hb := s5 _ _ (s4 _ _ hb)
             have hq2' := s5 _ _ (s4 _ _ hq2)
             have bw := wgts_bd h2 (List.mem_of_getElem? hwt)
             have hz : (tb.zip (wgts p tb.length x))[i]? = some (row, wt) := List.getElem?_zip_eq_some.mpr ⟨hrow, hwt⟩
             walk_at "rdN3"
             refine n_forZ (fun j σ H' => ∃ u4 u5 : Option V, σ = [some (.ref a), some (.int p), some (.int x), some (.int y), some (.int vs.length), some (.ref q1), some (.ref q2), some (.int (Bf.outer p (wgts p tb.length y) ((tb.zip (wgts p tb.length x)).take i))), some (.ref b), some (.int wt), some (.int (((row.zip (wgts p tb.length y)).take j).foldl (fun (part : Int) (q : Int × Int) => part + q.1 * q.2) 0)), u4, u5] ∧ Same H4 H') hb hq2' (by rw [List.length_map, List.length_map, wgts_len, hsq _ (List.mem_of_getElem? hrow)])
               ⟨_, _, rfl, Same.refl _⟩ ?_ ?_ ?_
             · rintro j σ H' ⟨u4, u5, rfl, s6⟩
               exact ⟨s6 _ _ hb, s6 _ _ hq2'⟩
             · rintro j v v2 T2 σ H5 H6 hv hv2 ⟨u4, u5, rfl, s6⟩ nT2 s7 hT2
               obtain ⟨en, hen, rfl⟩ := map_at hv
               obtain ⟨wt2, hwt2, rfl⟩ := map_at hv2
               have bw2 := wgts_bd h2 (List.mem_of_getElem? hwt2)
               have hz2 : (row.zip (wgts p tb.length y))[j]? = some (en, wt2) := List.getElem?_zip_eq_some.mpr ⟨hen, hwt2⟩
               walk_at "rdN3"
               exact ⟨_, _, by rw [foldl_take _ _ hz2]; rfl, s6.trans s7⟩
             · rintro σ H' ⟨u4, u5, rfl, s6⟩
               rw [List.length_map, show row.length = (row.zip (wgts p tb.length y)).length by rw [List.length_zip, wgts_len, hsq _ (List.mem_of_getElem? hrow), Nat.min_self], List.take_length]
               walk_at "rdN3"
               have e8 : Bf.outer p (wgts p tb.length y) ((tb.zip (wgts p tb.length x)).take (i + 1)) = _ := foldl_take _ _ hz
               exact ⟨_, _, _, _, _, by rw [e8]; rfl, s4.trans (s5.trans s6)⟩
           · rintro σ H' ⟨u1, u2, u3, u4, u5, rfl, s4⟩
             rw [show vs.length = (tb.zip (wgts p tb.length x)).length by rw [List.length_zip, wgts_len, hlen, Nat.min_self], List.take_length, ← rest]
             walk_at "rdN3"
             exact k _ (s3.trans s4))
      · walk_at "rdN3"
        refine ⟨tb.length, p, x, by rw [hlen]; rfl, hn, h2, h9, hu, fun q1 H1 n1 s1 hq1 => ?_⟩
        walk_at "rdN3"
        refine ⟨tb.length, p, y, by rw [hlen]; rfl, hn, h2, h9, hu, fun q2 H2 n2 s2 hq2 => ?_⟩
        walk_at "rdN3"
        replace hq1 := s2 _ _ hq1
        replace ha := s2 _ _ (s1 _ _ ha)
        replace hl := hl.same (s1.trans s2)
        have s3 := s1.trans s2
        refine n_forZ (fun i σ H' => ∃ u1 u2 u3 u4 u5 : Option V, σ = [some (.ref a), some (.int p), some (.int x), some (.int y), some (.int vs.length), some (.ref q1), some (.ref q2), some (.int (Bf.outer p (wgts p tb.length y) ((tb.zip (wgts p tb.length x)).take i))), u1, u2, u3, u4, u5] ∧ Same H2 H') ha hq1 (by rw [hlen, List.length_map, wgts_len])
          ⟨_, _, _, _, _, rfl, Same.refl _⟩ ?_ ?_ ?_
        · rintro i σ H' ⟨u1, u2, u3, u4, u5, rfl, s4⟩
          exact ⟨s4 _ _ ha, s4 _ _ hq1⟩
        · rintro i v v2 T σ H3 H4 hv hv2 ⟨u1, u2, u3, u4, u5, rfl, s4⟩ nT s5 hT
          obtain ⟨wt, hwt, rfl⟩ := map_at hv2
          obtain ⟨dr, hdr, hrv⟩ := hl.at hv
          rw [List.getElem?_map] at hdr
          obtain ⟨row, hrow, rfl⟩ := Option.map_eq_some_iff.mp hdr
          obtain ⟨b, vs2, rfl, hb, hl2⟩ := hrv
          have e3 := RpL.eq_ints hl2
          subst e3
          replace hb := s5 _ _ (s4 _ _ hb)
          have hq2' := s5 _ _ (s4 _ _ hq2)
          have bw := wgts_bd h2 (List.mem_of_getElem? hwt)
          have hz : (tb.zip (wgts p tb.length x))[i]? = some (row, wt) := List.getElem?_zip_eq_some.mpr ⟨hrow, hwt⟩
          walk_at "rdN3"
          refine n_forZ (fun j σ H' => ∃ u4 u5 : Option V, σ = [some (.ref a), some (.int p), some (.int x), some (.int y), some (.int vs.length), some (.ref q1), some (.ref q2), some (.int (Bf.outer p (wgts p tb.length y) ((tb.zip (wgts p tb.length x)).take i))), some (.ref b), some (.int wt), some (.int (((row.zip (wgts p tb.length y)).take j).foldl (fun (part : Int) (q : Int × Int) => part + q.1 * q.2) 0)), u4, u5] ∧ Same H4 H') hb hq2' (by rw [List.length_map, List.length_map, wgts_len, hsq _ (List.mem_of_getElem? hrow)])
            ⟨_, _, rfl, Same.refl _⟩ ?_ ?_ ?_
          · rintro j σ H' ⟨u4, u5, rfl, s6⟩
            exact ⟨s6 _ _ hb, s6 _ _ hq2'⟩
          · rintro j v v2 T2 σ H5 H6 hv hv2 ⟨u4, u5, rfl, s6⟩ nT2 s7 hT2
            obtain ⟨en, hen, rfl⟩ := map_at hv
            obtain ⟨wt2, hwt2, rfl⟩ := map_at hv2
            have bw2 := wgts_bd h2 (List.mem_of_getElem? hwt2)
            have hz2 : (row.zip (wgts p tb.length y))[j]? = some (en, wt2) := List.getElem?_zip_eq_some.mpr ⟨hen, hwt2⟩
            walk_at "rdN3"
            exact ⟨_, _, by rw [foldl_take _ _ hz2]; rfl, s6.trans s7⟩
          · rintro σ H' ⟨u4, u5, rfl, s6⟩
            rw [List.length_map, show row.length = (row.zip (wgts p tb.length y)).length by rw [List.length_zip, wgts_len, hsq _ (List.mem_of_getElem? hrow), Nat.min_self], List.take_length]
            walk_at "rdN3"
            have e8 : Bf.outer p (wgts p tb.length y) ((tb.zip (wgts p tb.length x)).take (i + 1)) = _ := foldl_take _ _ hz
            exact ⟨_, _, _, _, _, by rw [e8]; rfl, s4.trans (s5.trans s6)⟩
        · rintro σ H' ⟨u1, u2, u3, u4, u5, rfl, s4⟩
          rw [show vs.length = (tb.zip (wgts p tb.length x)).length by rw [List.length_zip, wgts_len, hlen, Nat.min_self], List.take_length, ← rest]
          walk_at "rdN3"
          exact k _ (s3.trans s4)
end
end Bf
local macro_rules | `(tactic| walk_at "pfN4") => `(tactic| first | decide +kernel | omega | assumption | rfl | (simp only [List.length_cons, List.length_nil]; omega))
local macro_rules | `(tactic| walk_at "rd1N4") => `(tactic| first
  | with_reducible refine Bf.r_seq ?_
  | with_reducible refine Bf.r_asg ?_
  | with_reducible refine Bf.r_var (by with_unfolding_all rfl) ?_
  | with_reducible refine Bf.r_c ?_
  | with_reducible refine Bf.r_name ?_
  | with_reducible refine Bf.r_ret ?_
  | with_reducible refine Bf.r_op ?_
  | with_reducible refine Bf.r_I0 ?_
  | ((with_reducible refine Bf.r_I ?c ?_); (case c => first | decide | (show (0 : Int) < _; omega) | (refine Or.inl ⟨?_, ?_⟩ <;> omega) | (refine Or.inr ⟨?_, ?_⟩ <;> omega) | (refine And.intro ?_ ?_ <;> omega)))
  | with_reducible refine Bf.r_ifS ?_
  | with_reducible refine Bf.r_test ?_
  | with_reducible refine Bf.r_isbl ?_
  | with_reducible refine Bf.r_eqI ?_
  | with_reducible refine Bf.r_neI ?_
  | with_reducible refine Bf.r_eqS ?_
  | with_reducible refine Bf.r_neS ?_
  | with_reducible refine Bf.r_cons ?_
  | with_reducible refine Bf.r_nil ?_
  | with_reducible refine Bf.r_CB ?_
  | with_reducible refine Bf.r_call ?_
  | with_reducible refine Bf.i_t ?_
  | with_reducible refine Bf.i_f ?_
  | with_reducible refine Bf.i_nt ?_
  | with_reducible refine Bf.i_nf ?_
  | with_reducible refine Bf.r_ixT (by assumption) (by with_unfolding_all rfl) ?_
  | with_reducible refine Bf.r_ixL (by assumption) (by with_unfolding_all rfl) ?_
  | with_reducible refine Bf.r_fld ?_
  | ((with_reducible refine Bf.r_fat (by assumption) ?c ?n (by with_unfolding_all rfl) ?_); (case c => assumption); (case n => assumption))
  | with_reducible refine Bf.r_par ?_
  | with_reducible refine Bf.r_two ?_
  | with_reducible refine Bf.r_aug (by with_unfolding_all rfl) ?_
  | with_reducible refine Bf.r_ip ?_
  | with_reducible refine Bf.r_app (by with_unfolding_all rfl) (by assumption) ?_
  | with_reducible refine Bf.r_next ?_
  | with_reducible refine Bf.r_cont ?_
  | with_reducible refine Bf.r_drop ?_
  | with_reducible refine Bf.r_and ?_
  | with_reducible refine Bf.r_or ?_
  | with_reducible refine Bf.r_not ?_
  | with_reducible refine Bf.r_andV ?_
  | with_reducible refine Bf.r_orV ?_
  | with_reducible refine Bf.r_notV ?_
  | with_reducible refine Bf.r_chain ?_
  | with_reducible refine Bf.r_B ?_
  | with_reducible refine Bf.r_ifE ?_
  | with_reducible refine Bf.r_un ?_
  | with_reducible refine Bf.r_U ?_
  | with_reducible refine Bf.r_tup ?_
  | with_reducible refine Bf.r_lst ?_
  | with_reducible refine Bf.r_lenT (by assumption) ?_
  | with_reducible refine Bf.r_lenL (by assumption) ?_
  | with_reducible refine Bf.r_int ?_
  | with_reducible refine Bf.r_max2 ?_
  | with_reducible refine Bf.r_min2 ?_
  | with_reducible refine Bf.isi_ Bf.ty_i Bf.kb_ii ?_
  | with_reducible refine Bf.isi_ Bf.ty_i Bf.kb_ib ?_
  | with_reducible refine Bf.isi_ Bf.ty_i Bf.kb_is ?_
  | with_reducible refine Bf.isi_ Bf.ty_i Bf.kb_it ?_
  | with_reducible refine Bf.isi_ Bf.ty_i Bf.kb_il ?_
  | with_reducible refine Bf.isi_ Bf.ty_s Bf.kb_si ?_
  | with_reducible refine Bf.isi_ Bf.ty_s Bf.kb_sb ?_
  | with_reducible refine Bf.isi_ Bf.ty_s Bf.kb_ss ?_
  | with_reducible refine Bf.isi_ Bf.ty_s Bf.kb_st ?_
  | with_reducible refine Bf.isi_ Bf.ty_s Bf.kb_sl ?_
  | with_reducible refine Bf.isi_ (Bf.ty_t (by assumption)) Bf.kb_tt ?_
  | with_reducible refine Bf.isi_ (Bf.ty_l (by assumption)) Bf.kb_ll ?_
  | with_reducible refine Bf.isi_ (Bf.ty_t (by assumption)) Bf.kb_tl ?_
  | with_reducible refine Bf.isi_ (Bf.ty_l (by assumption)) Bf.kb_lt ?_
  | with_reducible refine Bf.isi_ Bf.ty_b Bf.kb_bi ?_
  | with_reducible refine Bf.isi_ Bf.ty_b Bf.kb_bb ?_
  | with_reducible refine Bf.isi_ Bf.ty_b Bf.kb_bs ?_
  | with_reducible refine Bf.isi_ Bf.ty_b Bf.kb_bt ?_
  | with_reducible refine Bf.isi_ Bf.ty_b Bf.kb_bL ?_
  | with_reducible refine Bf.isi_ Bf.ty_n Bf.kb_ni ?_
  | with_reducible refine Bf.isi_ Bf.ty_n Bf.kb_nb ?_
  | with_reducible refine Bf.isi_ Bf.ty_n Bf.kb_ns ?_
  | with_reducible refine Bf.isi_ Bf.ty_n Bf.kb_nt ?_
  | with_reducible refine Bf.isi_ Bf.ty_n Bf.kb_nl ?_
  | with_reducible refine Bf.isi_ (Bf.ty_t (by assumption)) Bf.kb_ti ?_
  | with_reducible refine Bf.isi_ (Bf.ty_l (by assumption)) Bf.kb_li ?_
  | with_reducible refine Bf.isi_ (Bf.ty_t (by assumption)) Bf.kb_tb ?_
  | with_reducible refine Bf.isi_ (Bf.ty_l (by assumption)) Bf.kb_lb ?_
  | with_reducible refine Bf.isi_ (Bf.ty_t (by assumption)) Bf.kb_ts ?_
  | with_reducible refine Bf.isi_ (Bf.ty_l (by assumption)) Bf.kb_ls ?_
  | with_reducible refine Bf.r_gtup (by assumption) (by with_unfolding_all rfl) ?_
  | with_reducible refine Bf.r_gcons ?_
  | with_reducible refine Bf.r_gnil ?_
  | with_reducible refine Bf.r_gsub ?_
  | ((with_reducible refine Bf.n_num ?h ?_); (case h => first | assumption | (refine And.intro ?_ ?_ <;> omega)))
  | with_reducible refine Bf.n_isint ?_
  | with_reducible refine Bf.n_mixed ?_
  | with_reducible refine Bf.r_dget ?_
  | with_reducible refine Bf.n_dgetS (by assumption) (by with_unfolding_all rfl) ?_
  | with_reducible refine Bf.r_pcons ?_
  | with_reducible refine Bf.r_pnil ?_
  | with_reducible refine Bf.r_sl ?_
  | with_reducible refine Bf.r_nopart ?_
  | with_reducible refine Bf.r_part ?_
  | with_reducible refine Bf.r_isint ?_
  | with_reducible refine Bf.r_revL ?_
  | with_reducible refine Bf.r_sfld ?_
  | with_reducible refine Bf.r_meth ?_
  | with_reducible refine Bf.n_meth (by assumption) (by with_unfolding_all rfl) ?_
  | with_reducible refine Bf.r_make ?_
  | with_reducible refine Bf.r_turn ?_
  | with_reducible refine Bf.r_wipe (by with_unfolding_all rfl) ?_
  | with_reducible refine Bf.r_yes ?_
  | with_reducible refine Bf.r_tru ?_
  | with_reducible refine Bf.r_ext (by with_unfolding_all rfl) (by assumption) ?_
  | with_reducible refine Bf.r_glst (by assumption) (by with_unfolding_all rfl) ?_
  | with_reducible refine Bf.r_forR3 ?_
  | with_reducible refine Bf.r_lcR2 ?_
  | with_reducible refine Bf.r_lcL ?_
  | with_reducible refine Bf.r_lcT ?_
  | with_reducible refine Bf.r_lcR ?_
  | with_reducible refine Bf.r_forL ?_
  | with_reducible refine Bf.r_forZ ?_
  | with_reducible refine Bf.r_forT ?_
  | with_reducible refine Bf.r_forR ?_
  | with_reducible refine Bf.r_forR2 ?_
  | ((with_reducible refine Bf.i_d1 ?h ?_); (case h => walk_at "pfN4"))
  | ((with_reducible refine Bf.i_d0 ?h ?_); (case h => walk_at "pfN4"))
  | ((with_reducible refine Bf.i_n1 ?h ?_); (case h => walk_at "pfN4"))
  | ((with_reducible refine Bf.i_n0 ?h ?_); (case h => walk_at "pfN4")))
local macro_rules | `(tactic| walk_at "rdN4") => `(tactic| repeat walk_at "rd1N4")
namespace Bf
open PySem L2
abbrev s_is_factor : Stmt := topS 15
theorem bi_is_factor : ∀ (kV doc pm : Value) (an : Option Addr) (cdv ct : Value) (us : List Value), us.length = 4 → bindArgs (PySem.W.fnOf "is_factor" "is_factor" (defArgs s_is_factor) (defBody s_is_factor) (defScope s_is_factor) .none kV doc pm an cdv ct) ⟨us, []⟩ = pure ((["factor", "target", "cells", "inputs"] : List Str).zip us) := fun _ _ _ _ _ _ us hl => match us, hl with | [_, _, _, _], _ => rfl
theorem sc_is_factor : FnScope ["factor", "target", "cells", "inputs"] ["factor", "target", "cells", "inputs"] (defScope s_is_factor) := C8.fnScope_by (by decide +kernel)
abbrev s_is_table : Stmt := topS 16
theorem bi_is_table : ∀ (kV doc pm : Value) (an : Option Addr) (cdv ct : Value) (us : List Value), us.length = 2 → bindArgs (PySem.W.fnOf "is_table" "is_table" (defArgs s_is_table) (defBody s_is_table) (defScope s_is_table) .none kV doc pm an cdv ct) ⟨us, []⟩ = pure ((["table", "modulus"] : List Str).zip us) := fun _ _ _ _ _ _ us hl => match us, hl with | [_, _], _ => rfl
theorem sc_is_table : FnScope ["table", "modulus", "row", "entry"] ["table", "modulus"] (defScope s_is_table) := C8.fnScope_by (by decide +kernel)
abbrev s_is_add : Stmt := topS 17
theorem bi_is_add : ∀ (kV doc pm : Value) (an : Option Addr) (cdv ct : Value) (us : List Value), us.length = 4 → bindArgs (PySem.W.fnOf "is_add" "is_add" (defArgs s_is_add) (defBody s_is_add) (defScope s_is_add) .none kV doc pm an cdv ct) ⟨us, []⟩ = pure ((["step", "modulus", "cells", "inputs"] : List Str).zip us) := fun _ _ _ _ _ _ us hl => match us, hl with | [_, _, _, _], _ => rfl
theorem sc_is_add : FnScope ["step", "modulus", "cells", "inputs", "_", "target", "coefficient", "factors", "factor"] ["step", "modulus", "cells", "inputs"] (defScope s_is_add) := C8.fnScope_by (by decide +kernel)
abbrev s_is_look : Stmt := topS 18
theorem bi_is_look : ∀ (kV doc pm : Value) (an : Option Addr) (cdv ct : Value) (us : List Value), us.length = 3 → bindArgs (PySem.W.fnOf "is_look" "is_look" (defArgs s_is_look) (defBody s_is_look) (defScope s_is_look) .none kV doc pm an cdv ct) ⟨us, []⟩ = pure ((["step", "modulus", "cells"] : List Str).zip us) := fun _ _ _ _ _ _ us hl => match us, hl with | [_, _, _], _ => rfl
theorem sc_is_look : FnScope ["step", "modulus", "cells", "_", "target", "sign", "table", "a", "b", "cell"] ["step", "modulus", "cells"] (defScope s_is_look) := C8.fnScope_by (by decide +kernel)
abbrev s_is_step : Stmt := topS 19
theorem bi_is_step : ∀ (kV doc pm : Value) (an : Option Addr) (cdv ct : Value) (us : List Value), us.length = 4 → bindArgs (PySem.W.fnOf "is_step" "is_step" (defArgs s_is_step) (defBody s_is_step) (defScope s_is_step) .none kV doc pm an cdv ct) ⟨us, []⟩ = pure ((["step", "modulus", "cells", "inputs"] : List Str).zip us) := fun _ _ _ _ _ _ us hl => match us, hl with | [_, _, _, _], _ => rfl
theorem sc_is_step : FnScope ["step", "modulus", "cells", "inputs"] ["step", "modulus", "cells", "inputs"] (defScope s_is_step) := C8.fnScope_by (by decide +kernel)
def spFactor : Sp := fun vs H Q _ => ∃ (f : Fac) (t c n : Int) (v : V), vs = [v, .int t, .int c, .int n] ∧ Rp H f.d v ∧ f.ok t c n ∧ Q (.bl true) H
def spTable : Sp := fun vs H Q _ => ∃ (tb : List (List Int)) (m : Int) (v : V), vs = [v, .int m] ∧ Rp H (tabD tb) v ∧ IsTab m tb ∧ (tb.length : Int) ≤ m ∧ Q (.bl true) H
section
variable {P : Program} {w : World} {K : PySem.W.Frag} {mg : Str → Option Value} {base : Heap}
theorem cal_is_factor (T : Gs mg) (c_is_number : C8.Cal P w K mg base 2 "is_number" spIsNum []) (F : DefAt K mg "is_factor" s_is_factor) : C8.Cal P w K mg base 3 "is_factor" spFactor [] := by
  refine cal_of F sc_is_factor bi_is_factor (fun vs H Q E h => ?_) (fun f cdv A outer s H vs Q E hr h => ?_)
  · obtain ⟨n, t, p, x, y, rfl, _⟩ := h
    rfl
  · refine ⟨_, (pss_cons (ps_if (PW.pt (pw_or (pt_not (pt_val (pe_callB call_isi (by rfl) T.n_isinstance (by decide +kernel) (pa_cons (pv 0) (pa_cons (pe_bltn (v := .ty "tuple") rfl T.n_tuple (by decide +kernel) rfl) pa_nil))))) (pw_or1 (pt_cmpR op_ne (pe_callB b_len (by rfl) T.n_len PySem.boot_len (pa_cons (pv 0) pa_nil)) pe_int (nomark _))))) (pss_one (ps_ret pe_bl)) pss_nil)
      (pss_cons (ps_if (pt_cmpR op_eq (pe_ix ix_seq (pv 0) pe_int (fun _ _ => rfl)) pe_str (nomark _)) (pss_one (ps_ret (pe_and (C8.pe_c c_is_number hr (by first | decide | omega) rfl (pa_cons (pe_ix ix_seq (pv 0) pe_int (fun _ _ => rfl)) (pa_cons (pv 2) pa_nil))) (pe_one (pe_cmpR op_ne (pe_ix ix_seq (pv 0) pe_int (fun _ _ => rfl)) (pv 1) (nomark _)))))) pss_nil)
      (pss_one (ps_ret (pe_and (pe_cmpR op_eq (pe_ix ix_seq (pv 0) pe_int (fun _ _ => rfl)) pe_str (nomark _)) (pe_one (C8.pe_c c_is_number hr (by first | decide | omega) rfl (pa_cons (pe_ix ix_seq (pv 0) pe_int (fun _ _ => rfl)) (pa_cons (pv 3) pa_nil))))))))), ?_⟩
    obtain ⟨f, t, c, n, v, rfl, hR, ok, k⟩ := h
    cases f with
    | cell i =>
      obtain ⟨a, _, rfl, ha, w1, _, rfl, rfl, w2, _, rfl, rfl, rfl⟩ := hR
      obtain ⟨⟨i0, i1⟩, i2⟩ := ok
      walk_at "rdN4"
      rw [decide_eq_false i2]
      exact k
    | inp i =>
      obtain ⟨a, _, rfl, ha, w1, _, rfl, rfl, w2, _, rfl, rfl, rfl⟩ := hR
      obtain ⟨i0, i1⟩ := ok
      walk_at "rdN4"
      exact k
theorem cal_is_table (T : Gs mg) (c_is_number : C8.Cal P w K mg base 2 "is_number" spIsNum []) (F : DefAt K mg "is_table" s_is_table) : C8.Cal P w K mg base 3 "is_table" spTable [] := by
  refine cal_of F sc_is_table bi_is_table (fun vs H Q E h => ?_) (fun f cdv A outer s H vs Q E hr h => ?_)
  · obtain ⟨n, t, p, rfl, _⟩ := h
    rfl
  · refine ⟨_, (pss_cons (ps_if (PW.pt (pw_or (pt_not (pt_val (pe_callB call_isi (by rfl) T.n_isinstance (by decide +kernel) (pa_cons (pv 0) (pa_cons (pe_bltn (v := .ty "tuple") rfl T.n_tuple (by decide +kernel) rfl) pa_nil))))) (pw_or1 (pt_not (pt_chain op_le op_le pe_int (pe_callB b_len (by rfl) T.n_len PySem.boot_len (pa_cons (pv 0) pa_nil)) (pv 1)))))) (pss_one (ps_ret pe_bl)) pss_nil)
      (pss_cons (ps_for PassesOwn.never rfl (pi_tup (pv 0)) (pg_name (i := 2) sc_is_table.nd rfl (by first | exact Or.inl rfl | exact Or.inr rfl)) (pss_cons (ps_if (PW.pt (pw_or (pt_not (pt_val (pe_callB call_isi (by rfl) T.n_isinstance (by decide +kernel) (pa_cons (pv 2) (pa_cons (pe_bltn (v := .ty "tuple") rfl T.n_tuple (by decide +kernel) rfl) pa_nil))))) (pw_or1 (pt_cmpR op_ne (pe_callB b_len (by rfl) T.n_len PySem.boot_len (pa_cons (pv 2) pa_nil)) (pe_callB b_len (by rfl) T.n_len PySem.boot_len (pa_cons (pv 0) pa_nil)) (nomark _))))) (pss_one (ps_ret pe_bl)) pss_nil)
      (pss_one (ps_for PassesOwn.never rfl (pi_tup (pv 2)) (pg_name (i := 3) sc_is_table.nd rfl (by first | exact Or.inl rfl | exact Or.inr rfl)) (pss_one (ps_if (pt_not (pt_val (C8.pe_c c_is_number hr (by first | decide | omega) rfl (pa_cons (pv 3) (pa_cons (pv 1) pa_nil))))) (pss_one (ps_ret pe_bl)) pss_nil))))))
      (pss_one (ps_ret pe_bl)))), ?_⟩
    obtain ⟨tb, m, v, rfl, hR, tab, le, k⟩ := h
    obtain ⟨a, vs, rfl, ha, hl⟩ := hR
    have hlen := hl.len
    rw [List.length_map] at hlen
    have hpos := tab.pos
    walk_at "rdN4"
    refine n_forT (fun i σ H' => ∃ u1 u2 : Option V, σ = [some (.ref a), some (.int m), u1, u2] ∧ H' = H) ha ⟨_, _, rfl, rfl⟩ (fun i σ H' _ h => by obtain ⟨_, _, _, rfl⟩ := h; exact ha) ?_ ?_
    · rintro i x σ H' hx ⟨u1, u2, rfl, rfl⟩
      obtain ⟨dr, hdr, hrv⟩ := hl.at hx
      obtain ⟨row, hrow, rfl⟩ := Option.map_eq_some_iff.mp (by rwa [List.getElem?_map] at hdr)
      obtain ⟨b, vs2, rfl, hb, hl2⟩ := hrv
      have e3 := RpL.eq_ints hl2
      subst e3
      have hmem := List.mem_of_getElem? hrow
      have hsq := tab.sq _ hmem
      have hrl : (((row.map V.int).length : Nat) : Int) = (vs.length : Nat) := by rw [List.length_map, hsq, hlen]
      walk_at "rdN4"
      refine n_forT (fun i σ H1 => ∃ u2 : Option V, σ = [some (.ref a), some (.int m), some (.ref b), u2] ∧ H1 = H') hb ⟨_, rfl, rfl⟩ (fun i σ H1 _ h => by obtain ⟨_, _, rfl⟩ := h; exact hb) ?_ ?_
      · rintro j x σ H1 hx ⟨u2, rfl, rfl⟩
        obtain ⟨en, hen, rfl⟩ := map_at hx
        have hbd := tab.bd _ hmem _ (List.mem_of_getElem? hen)
        walk_at "rdN4"
        exact ⟨_, rfl, rfl⟩
      · rintro σ H1 ⟨u2, rfl, rfl⟩
        walk_at "rdN4"
        exact ⟨_, _, rfl, rfl⟩
    · rintro σ H' ⟨u1, u2, rfl, rfl⟩
      walk_at "rdN4"
      exact k
def spAdd : Sp := fun vs H Q _ => ∃ (t k : Int) (fs : List Fac) (m c n : Int) (v : V), vs = [v, .int m, .int c, .int n] ∧ Rp H (Step.add t k fs).d v ∧ (Step.add t k fs).ok m c n ∧ Q (.bl true) H
def spLook : Sp := fun vs H Q _ => ∃ (t s : Int) (tb : List (List Int)) (a b m c : Int) (v : V), vs = [v, .int m, .int c] ∧ Rp H (Step.table t s tb a b).d v ∧ Look m c t s tb a b ∧ ∀ H', Same H H' → Q (.bl true) H'
def spStep : Sp := fun vs H Q _ => ∃ (s : Step) (m c n : Int) (v : V), vs = [v, .int m, .int c, .int n] ∧ Rp H s.d v ∧ s.ok m c n ∧ 2 ≤ m ∧ m ≤ 1000000000 ∧ ∀ H', Same H H' → Q (.bl true) H'
theorem cal_is_add (T : Gs mg) (c_is_number : C8.Cal P w K mg base 2 "is_number" spIsNum []) (c_is_factor : C8.Cal P w K mg base 3 "is_factor" spFactor []) (F : DefAt K mg "is_add" s_is_add) : C8.Cal P w K mg base 4 "is_add" spAdd [] := by
  refine cal_of F sc_is_add bi_is_add (fun vs H Q E h => ?_) (fun f cdv A outer s H vs Q E hr h => ?_)
  · obtain ⟨t, k, fs, m, c, n, v, rfl, _⟩ := h
    rfl
  · refine ⟨_, (pss_cons (ps_asg (pv 0) (pg_tup rfl (pgs_cons (pg_name (i := 4) sc_is_add.nd rfl (by first | exact Or.inl rfl | exact Or.inr rfl)) (pgs_cons (pg_name (i := 5) sc_is_add.nd rfl (by first | exact Or.inl rfl | exact Or.inr rfl)) (pgs_cons (pg_name (i := 6) sc_is_add.nd rfl (by first | exact Or.inl rfl | exact Or.inr rfl)) (pgs_cons (pg_name (i := 7) sc_is_add.nd rfl (by first | exact Or.inl rfl | exact Or.inr rfl)) pgs_nil))))))
      (pss_cons (ps_if (PW.pt (pw_or (pt_not (pt_val (C8.pe_c c_is_number hr (by first | decide | omega) rfl (pa_cons (pv 5) (pa_cons (pv 2) pa_nil))))) (pw_or1 (pt_not (pt_val (C8.pe_c c_is_number hr (by first | decide | omega) rfl (pa_cons (pv 6) (pa_cons (pv 1) pa_nil)))))))) (pss_one (ps_ret pe_bl)) pss_nil)
      (pss_cons (ps_if (PW.pt (pw_or (pt_not (pt_val (pe_callB call_isi (by rfl) T.n_isinstance (by decide +kernel) (pa_cons (pv 7) (pa_cons (pe_bltn (v := .ty "tuple") rfl T.n_tuple (by decide +kernel) rfl) pa_nil))))) (pw_or1 (pt_cmpR op_gt (pe_callB b_len (by rfl) T.n_len PySem.boot_len (pa_cons (pv 7) pa_nil)) (C8.pe_gc rfl T.c_FACTORS) (nomark _))))) (pss_one (ps_ret pe_bl)) pss_nil)
      (pss_cons (ps_for PassesOwn.never rfl (pi_tup (pv 7)) (pg_name (i := 8) sc_is_add.nd rfl (by first | exact Or.inl rfl | exact Or.inr rfl)) (pss_one (ps_if (pt_not (pt_val (C8.pe_c c_is_factor hr (by first | decide | omega) rfl (pa_cons (pv 8) (pa_cons (pv 5) (pa_cons (pv 2) (pa_cons (pv 3) pa_nil))))))) (pss_one (ps_ret pe_bl)) pss_nil)))
      (pss_one (ps_ret pe_bl)))))), ?_⟩
    obtain ⟨t, co, fs, m, c, n, v, rfl, hR, ok, k⟩ := h
    obtain ⟨a, _, rfl, ha, w1, _, rfl, rfl, w2, _, rfl, rfl, w3, _, rfl, rfl, w4, _, rfl, ⟨b, vs, rfl, hb, hl⟩, rfl⟩ := hR
    obtain ⟨⟨t0, t1⟩, ⟨k0, k1⟩, hf3, hf⟩ := ok
    have hlen := hl.len
    rw [List.length_map] at hlen
    walk_at "rdN4"
    refine n_forT (fun i σ H' => ∃ u1 : Option V, σ = [some (.ref a), some (.int m), some (.int c), some (.int n), some (.str "add"), some (.int t), some (.int co), some (.ref b), u1] ∧ H' = H) hb ⟨_, rfl, rfl⟩ (fun i σ H' _ h => by obtain ⟨_, _, rfl⟩ := h; exact hb) ?_ ?_
    · rintro i x σ H' hx ⟨u1, rfl, rfl⟩
      obtain ⟨df, hdf, hfv⟩ := hl.at hx
      obtain ⟨fc, hfc, rfl⟩ := Option.map_eq_some_iff.mp (by rwa [List.getElem?_map] at hdf)
      walk_at "rdN4"
      refine ⟨fc, t, c, n, x, rfl, hfv, hf _ (List.mem_of_getElem? hfc), ?_⟩
      walk_at "rdN4"
      exact ⟨_, rfl, rfl⟩
    · rintro σ H' ⟨u1, rfl, rfl⟩
      walk_at "rdN4"
      exact k
theorem cal_is_look (T : Gs mg) (c_is_number : C8.Cal P w K mg base 2 "is_number" spIsNum []) (c_is_integer : C8.Cal P w K mg base 1 "is_integer" spIsInt []) (c_is_table : C8.Cal P w K mg base 3 "is_table" spTable []) (F : DefAt K mg "is_look" s_is_look) : C8.Cal P w K mg base 4 "is_look" spLook [] := by
  refine cal_of F sc_is_look bi_is_look (fun vs H Q E h => ?_) (fun f cdv A outer s H vs Q E hr h => ?_)
  · obtain ⟨t, s, tb, a, b, m, c, v, rfl, _⟩ := h
    rfl
  · refine ⟨_, (pss_cons (ps_asg (pv 0) (pg_tup rfl (pgs_cons (pg_name (i := 3) sc_is_look.nd rfl (by first | exact Or.inl rfl | exact Or.inr rfl)) (pgs_cons (pg_name (i := 4) sc_is_look.nd rfl (by first | exact Or.inl rfl | exact Or.inr rfl)) (pgs_cons (pg_name (i := 5) sc_is_look.nd rfl (by first | exact Or.inl rfl | exact Or.inr rfl)) (pgs_cons (pg_name (i := 6) sc_is_look.nd rfl (by first | exact Or.inl rfl | exact Or.inr rfl)) (pgs_cons (pg_name (i := 7) sc_is_look.nd rfl (by first | exact Or.inl rfl | exact Or.inr rfl)) (pgs_cons (pg_name (i := 8) sc_is_look.nd rfl (by first | exact Or.inl rfl | exact Or.inr rfl)) pgs_nil))))))))
      (pss_cons (ps_for PassesOwn.never rfl (pi_tup (pe_tup (pa_cons (pv 4) (pa_cons (pv 7) (pa_cons (pv 8) pa_nil))))) (pg_name (i := 9) sc_is_look.nd rfl (by first | exact Or.inl rfl | exact Or.inr rfl)) (pss_one (ps_if (pt_not (pt_val (C8.pe_c c_is_number hr (by first | decide | omega) rfl (pa_cons (pv 9) (pa_cons (pv 2) pa_nil))))) (pss_one (ps_ret pe_bl)) pss_nil)))
      (pss_cons (ps_if (PW.pt (pw_or (pt_cmpR op_eq (pv 4) (pv 7) (nomark _)) (pw_or (pt_cmpR op_eq (pv 4) (pv 8) (nomark _)) (pw_or (pt_cmpR op_eq (pv 7) (pv 8) (nomark _)) (pw_or1 (pt_not (pt_val (C8.pe_c c_is_integer hr (by first | decide | omega) rfl (pa_cons (pv 5) pa_nil))))))))) (pss_one (ps_ret pe_bl)) pss_nil)
      (pss_cons (ps_if (PW.pt (pw_and (pt_cmpR op_ne (pv 5) pe_int (nomark _)) (pw_and1 (pt_cmpR op_ne (pv 5) (pe_op op_sub (pv 1) pe_int) (nomark _))))) (pss_one (ps_ret pe_bl)) pss_nil)
      (pss_one (ps_ret (C8.pe_c c_is_table hr (by first | decide | omega) rfl (pa_cons (pv 6) (pa_cons (pv 1) pa_nil))))))))), ?_⟩
    obtain ⟨t, sg, tb, a, b, m, c, v, rfl, hR, lk, k⟩ := h
    obtain ⟨p, _, rfl, hp, w1, _, rfl, rfl, w2, _, rfl, rfl, w3, _, rfl, rfl, w4, _, rfl, hT, w5, _, rfl, rfl, w6, _, rfl, rfl, rfl⟩ := hR
    obtain ⟨t0, t1⟩ := lk.ht
    obtain ⟨a0, a1⟩ := lk.ha
    obtain ⟨b0, b1⟩ := lk.hb
    have hta := lk.hta
    have htb := lk.htb
    have hab := lk.hab
    walk_at "rdN4"
    refine n_tup (Nat.le_of_ble_eq_true rfl) fun q H1 nq s1 hq => ?_
    walk_at "rdN4"
    refine n_forT (fun i σ H' => ∃ u1 : Option V, σ = [some (.ref p), some (.int m), some (.int c), some (.str "table"), some (.int t), some (.int sg), some w4, some (.int a), some (.int b), u1] ∧ H' = H1) hq ⟨_, rfl, rfl⟩ (fun i σ H' _ h => by obtain ⟨_, _, rfl⟩ := h; exact hq) ?_ ?_
    · rintro i x σ H' hx ⟨u1, rfl, rfl⟩
      have hc : ∃ z : Int, x = .int z ∧ 0 ≤ z ∧ z < c := by
        rcases i with _ | _ | _ | i
        · exact ⟨t, by simpa using hx.symm, t0, t1⟩
        · exact ⟨a, by simpa using hx.symm, a0, a1⟩
        · exact ⟨b, by simpa using hx.symm, b0, b1⟩
        · simp at hx
      obtain ⟨z, rfl, z0, z1⟩ := hc
      walk_at "rdN4"
      exact ⟨_, rfl, rfl⟩
    · rintro σ H' ⟨u1, rfl, rfl⟩
      have kk := k H' s1
      have hT' := hT.same s1
      rcases lk.hs with e | e
      · subst e
        walk_at "rdN4"
        exact ⟨tb, m, w4, rfl, hT', lk.tab, lk.le, kk⟩
      · by_cases e2 : sg = 1
        · subst e2
          walk_at "rdN4"
          exact ⟨tb, m, w4, rfl, hT', lk.tab, lk.le, kk⟩
        · walk_at "rdN4"
          exact ⟨tb, m, w4, rfl, hT', lk.tab, lk.le, kk⟩
theorem cal_is_step (T : Gs mg) (c_is_number : C8.Cal P w K mg base 2 "is_number" spIsNum []) (c_inverse_of : C8.Cal P w K mg base 1 "inverse_of" spInv []) (c_is_add : C8.Cal P w K mg base 4 "is_add" spAdd []) (c_is_look : C8.Cal P w K mg base 4 "is_look" spLook []) (F : DefAt K mg "is_step" s_is_step) : C8.Cal P w K mg base 5 "is_step" spStep [] := by
  refine cal_of F sc_is_step bi_is_step (fun vs H Q E h => ?_) (fun f cdv A outer s H vs Q E hr h => ?_)
  · obtain ⟨s, m, c, n, v, rfl, _⟩ := h
    rfl
  · refine ⟨_, (pss_cons (ps_if (PW.pt (pw_or (pt_not (pt_val (pe_callB call_isi (by rfl) T.n_isinstance (by decide +kernel) (pa_cons (pv 0) (pa_cons (pe_bltn (v := .ty "tuple") rfl T.n_tuple (by decide +kernel) rfl) pa_nil))))) (pw_or1 (pt_cmpR op_lt (pe_callB b_len (by rfl) T.n_len PySem.boot_len (pa_cons (pv 0) pa_nil)) pe_int (nomark _))))) (pss_one (ps_ret pe_bl)) pss_nil)
      (pss_cons (ps_if (PW.pt (pw_and (pt_cmpR op_eq (pe_ix ix_seq (pv 0) pe_int (fun _ _ => rfl)) pe_str (nomark _)) (pw_and1 (pt_cmpR op_eq (pe_callB b_len (by rfl) T.n_len PySem.boot_len (pa_cons (pv 0) pa_nil)) pe_int (nomark _))))) (pss_one (ps_ret (C8.pe_c c_is_add hr (by first | decide | omega) rfl (pa_cons (pv 0) (pa_cons (pv 1) (pa_cons (pv 2) (pa_cons (pv 3) pa_nil))))))) pss_nil)
      (pss_cons (ps_if (PW.pt (pw_and (pt_cmpR op_eq (pe_ix ix_seq (pv 0) pe_int (fun _ _ => rfl)) pe_str (nomark _)) (pw_and1 (pt_cmpR op_eq (pe_callB b_len (by rfl) T.n_len PySem.boot_len (pa_cons (pv 0) pa_nil)) pe_int (nomark _))))) (pss_cons (ps_if (PW.pt (pw_or (pt_not (pt_val (C8.pe_c c_is_number hr (by first | decide | omega) rfl (pa_cons (pe_ix ix_seq (pv 0) pe_int (fun _ _ => rfl)) (pa_cons (pv 2) pa_nil))))) (pw_or1 (pt_not (pt_val (C8.pe_c c_is_number hr (by first | decide | omega) rfl (pa_cons (pe_ix ix_seq (pv 0) pe_int (fun _ _ => rfl)) (pa_cons (pv 1) pa_nil)))))))) (pss_one (ps_ret pe_bl)) pss_nil)
      (pss_one (ps_ret (pe_cmpR op_notN (C8.pe_c c_inverse_of hr (by first | decide | omega) rfl (pa_cons (pe_ix ix_seq (pv 0) pe_int (fun _ _ => rfl)) (pa_cons (pv 1) pa_nil))) pe_non (nomark _))))) pss_nil)
      (pss_cons (ps_if (PW.pt (pw_and (pt_cmpR op_eq (pe_ix ix_seq (pv 0) pe_int (fun _ _ => rfl)) pe_str (nomark _)) (pw_and1 (pt_cmpR op_eq (pe_callB b_len (by rfl) T.n_len PySem.boot_len (pa_cons (pv 0) pa_nil)) pe_int (nomark _))))) (pss_cons (ps_if (PW.pt (pw_or (pt_not (pt_val (C8.pe_c c_is_number hr (by first | decide | omega) rfl (pa_cons (pe_ix ix_seq (pv 0) pe_int (fun _ _ => rfl)) (pa_cons (pv 2) pa_nil))))) (pw_or1 (pt_not (pt_val (C8.pe_c c_is_number hr (by first | decide | omega) rfl (pa_cons (pe_ix ix_seq (pv 0) pe_int (fun _ _ => rfl)) (pa_cons (pv 2) pa_nil)))))))) (pss_one (ps_ret pe_bl)) pss_nil)
      (pss_one (ps_ret (pe_cmpR op_ne (pe_ix ix_seq (pv 0) pe_int (fun _ _ => rfl)) (pe_ix ix_seq (pv 0) pe_int (fun _ _ => rfl)) (nomark _))))) pss_nil)
      (pss_one (ps_ret (pe_and (pe_cmpR op_eq (pe_ix ix_seq (pv 0) pe_int (fun _ _ => rfl)) pe_str (nomark _)) (pe_and (pe_cmpR op_eq (pe_callB b_len (by rfl) T.n_len PySem.boot_len (pa_cons (pv 0) pa_nil)) pe_int (nomark _)) (pe_one (C8.pe_c c_is_look hr (by first | decide | omega) rfl (pa_cons (pv 0) (pa_cons (pv 1) (pa_cons (pv 2) pa_nil))))))))))))), ?_⟩
    obtain ⟨s, m, c, n, v, rfl, hR, ok, m2, m9, k⟩ := h
    have hR0 := hR
    cases s with
    | add t co fs =>
      obtain ⟨a, _, rfl, ha, w1, _, rfl, rfl, w2, _, rfl, rfl, w3, _, rfl, rfl, w4, _, rfl, hF, rfl⟩ := hR
      walk_at "rdN4"
      exact ⟨t, co, fs, m, c, n, _, rfl, hR0, ok, k H (Same.refl H)⟩
    | scale t co =>
      obtain ⟨a, _, rfl, ha, w1, _, rfl, rfl, w2, _, rfl, rfl, w3, _, rfl, rfl, rfl⟩ := hR
      obtain ⟨⟨t0, t1⟩, ⟨k0, k1⟩, hg⟩ := ok
      walk_at "rdN4"
      refine ⟨co, m, rfl, m2, m9, fun _ H' s' => ?_, fun z => absurd hg z⟩
      walk_at "rdN4"
      exact ⟨rfl, k H' s'⟩
    | swap a b =>
      obtain ⟨p, _, rfl, ha, w1, _, rfl, rfl, w2, _, rfl, rfl, w3, _, rfl, rfl, rfl⟩ := hR
      obtain ⟨⟨t0, t1⟩, ⟨k0, k1⟩, hg⟩ := ok
      walk_at "rdN4"
      rw [decide_eq_false hg]
      exact k H (Same.refl H)
    | table t sg tb a b =>
      obtain ⟨p, _, rfl, hp, w1, _, rfl, rfl, w2, _, rfl, rfl, w3, _, rfl, rfl, w4, _, rfl, hT, w5, _, rfl, rfl, w6, _, rfl, rfl, rfl⟩ := hR
      walk_at "rdN4"
      exact ⟨t, sg, tb, a, b, m, c, _, rfl, hR0, ok, k⟩
end
end Bf
local macro_rules | `(tactic| walk_at "pfN5") => `(tactic| first | decide +kernel | omega | assumption | rfl | (simp only [List.length_cons, List.length_nil]; omega))
local macro_rules | `(tactic| walk_at "rd1N5") => `(tactic| first
  | with_reducible refine Bf.r_seq ?_
  | with_reducible refine Bf.r_asg ?_
  | with_reducible refine Bf.r_var (by with_unfolding_all rfl) ?_
  | with_reducible refine Bf.r_c ?_
  | with_reducible refine Bf.r_name ?_
  | with_reducible refine Bf.r_ret ?_
  | with_reducible refine Bf.r_op ?_
  | with_reducible refine Bf.r_I0 ?_
  | ((with_reducible refine Bf.r_I ?c ?_); (case c => first | decide | (show (0 : Int) < _; omega) | (refine Or.inl ⟨?_, ?_⟩ <;> omega) | (refine Or.inr ⟨?_, ?_⟩ <;> omega) | (refine And.intro ?_ ?_ <;> omega)))
  | with_reducible refine Bf.r_ifS ?_
  | with_reducible refine Bf.r_test ?_
  | with_reducible refine Bf.r_isbl ?_
  | with_reducible refine Bf.r_eqI ?_
  | with_reducible refine Bf.r_neI ?_
  | with_reducible refine Bf.r_eqS ?_
  | with_reducible refine Bf.r_neS ?_
  | with_reducible refine Bf.r_cons ?_
  | with_reducible refine Bf.r_nil ?_
  | with_reducible refine Bf.r_CB ?_
  | with_reducible refine Bf.r_call ?_
  | with_reducible refine Bf.i_t ?_
  | with_reducible refine Bf.i_f ?_
  | with_reducible refine Bf.i_nt ?_
  | with_reducible refine Bf.i_nf ?_
  | with_reducible refine Bf.r_ixT (by assumption) (by with_unfolding_all rfl) ?_
  | with_reducible refine Bf.r_ixL (by assumption) (by with_unfolding_all rfl) ?_
  | with_reducible refine Bf.r_fld ?_
  | ((with_reducible refine Bf.r_fat (by assumption) ?c ?n (by with_unfolding_all rfl) ?_); (case c => assumption); (case n => assumption))
  | with_reducible refine Bf.r_par ?_
  | with_reducible refine Bf.r_two ?_
  | with_reducible refine Bf.r_aug (by with_unfolding_all rfl) ?_
  | with_reducible refine Bf.r_ip ?_
  | with_reducible refine Bf.r_app (by with_unfolding_all rfl) (by assumption) ?_
  | with_reducible refine Bf.r_next ?_
  | with_reducible refine Bf.r_cont ?_
  | with_reducible refine Bf.r_drop ?_
  | with_reducible refine Bf.r_and ?_
  | with_reducible refine Bf.r_or ?_
  | with_reducible refine Bf.r_not ?_
  | with_reducible refine Bf.r_andV ?_
  | with_reducible refine Bf.r_orV ?_
  | with_reducible refine Bf.r_notV ?_
  | with_reducible refine Bf.r_chain ?_
  | with_reducible refine Bf.r_B ?_
  | with_reducible refine Bf.r_ifE ?_
  | with_reducible refine Bf.r_un ?_
  | with_reducible refine Bf.r_U ?_
  | with_reducible refine Bf.r_tup ?_
  | with_reducible refine Bf.r_lst ?_
  | with_reducible refine Bf.r_lenT (by assumption) ?_
  | with_reducible refine Bf.r_lenL (by assumption) ?_
  | with_reducible refine Bf.r_int ?_
  | with_reducible refine Bf.r_max2 ?_
  | with_reducible refine Bf.r_min2 ?_
  | with_reducible refine Bf.isi_ Bf.ty_i Bf.kb_ii ?_
  | with_reducible refine Bf.isi_ Bf.ty_i Bf.kb_ib ?_
  | with_reducible refine Bf.isi_ Bf.ty_i Bf.kb_is ?_
  | with_reducible refine Bf.isi_ Bf.ty_i Bf.kb_it ?_
  | with_reducible refine Bf.isi_ Bf.ty_i Bf.kb_il ?_
  | with_reducible refine Bf.isi_ Bf.ty_s Bf.kb_si ?_
  | with_reducible refine Bf.isi_ Bf.ty_s Bf.kb_sb ?_
  | with_reducible refine Bf.isi_ Bf.ty_s Bf.kb_ss ?_
  | with_reducible refine Bf.isi_ Bf.ty_s Bf.kb_st ?_
  | with_reducible refine Bf.isi_ Bf.ty_s Bf.kb_sl ?_
  | with_reducible refine Bf.isi_ (Bf.ty_t (by assumption)) Bf.kb_tt ?_
  | with_reducible refine Bf.isi_ (Bf.ty_l (by assumption)) Bf.kb_ll ?_
  | with_reducible refine Bf.isi_ (Bf.ty_t (by assumption)) Bf.kb_tl ?_
  | with_reducible refine Bf.isi_ (Bf.ty_l (by assumption)) Bf.kb_lt ?_
  | with_reducible refine Bf.isi_ Bf.ty_b Bf.kb_bi ?_
  | with_reducible refine Bf.isi_ Bf.ty_b Bf.kb_bb ?_
  | with_reducible refine Bf.isi_ Bf.ty_b Bf.kb_bs ?_
  | with_reducible refine Bf.isi_ Bf.ty_b Bf.kb_bt ?_
  | with_reducible refine Bf.isi_ Bf.ty_b Bf.kb_bL ?_
  | with_reducible refine Bf.isi_ Bf.ty_n Bf.kb_ni ?_
  | with_reducible refine Bf.isi_ Bf.ty_n Bf.kb_nb ?_
  | with_reducible refine Bf.isi_ Bf.ty_n Bf.kb_ns ?_
  | with_reducible refine Bf.isi_ Bf.ty_n Bf.kb_nt ?_
  | with_reducible refine Bf.isi_ Bf.ty_n Bf.kb_nl ?_
  | with_reducible refine Bf.isi_ (Bf.ty_t (by assumption)) Bf.kb_ti ?_
  | with_reducible refine Bf.isi_ (Bf.ty_l (by assumption)) Bf.kb_li ?_
  | with_reducible refine Bf.isi_ (Bf.ty_t (by assumption)) Bf.kb_tb ?_
  | with_reducible refine Bf.isi_ (Bf.ty_l (by assumption)) Bf.kb_lb ?_
  | with_reducible refine Bf.isi_ (Bf.ty_t (by assumption)) Bf.kb_ts ?_
  | with_reducible refine Bf.isi_ (Bf.ty_l (by assumption)) Bf.kb_ls ?_
  | with_reducible refine Bf.r_gtup (by assumption) (by with_unfolding_all rfl) ?_
  | with_reducible refine Bf.r_gcons ?_
  | with_reducible refine Bf.r_gnil ?_
  | with_reducible refine Bf.r_gsub ?_
  | ((with_reducible refine Bf.n_num ?h ?_); (case h => first | assumption | (refine And.intro ?_ ?_ <;> omega)))
  | with_reducible refine Bf.n_isint ?_
  | with_reducible refine Bf.n_mixed ?_
  | with_reducible refine Bf.r_dget ?_
  | with_reducible refine Bf.n_dgetS (by assumption) (by with_unfolding_all rfl) ?_
  | with_reducible refine Bf.r_pcons ?_
  | with_reducible refine Bf.r_pnil ?_
  | with_reducible refine Bf.r_sl ?_
  | with_reducible refine Bf.r_nopart ?_
  | with_reducible refine Bf.r_part ?_
  | with_reducible refine Bf.r_isint ?_
  | with_reducible refine Bf.r_revL ?_
  | with_reducible refine Bf.r_sfld ?_
  | with_reducible refine Bf.r_meth ?_
  | with_reducible refine Bf.n_meth (by assumption) (by with_unfolding_all rfl) ?_
  | with_reducible refine Bf.r_make ?_
  | with_reducible refine Bf.r_turn ?_
  | with_reducible refine Bf.r_wipe (by with_unfolding_all rfl) ?_
  | with_reducible refine Bf.r_yes ?_
  | with_reducible refine Bf.r_tru ?_
  | with_reducible refine Bf.r_ext (by with_unfolding_all rfl) (by assumption) ?_
  | with_reducible refine Bf.r_glst (by assumption) (by with_unfolding_all rfl) ?_
  | with_reducible refine Bf.r_forR3 ?_
  | with_reducible refine Bf.r_lcR2 ?_
  | with_reducible refine Bf.r_lcL ?_
  | with_reducible refine Bf.r_lcT ?_
  | with_reducible refine Bf.r_lcR ?_
  | with_reducible refine Bf.r_forL ?_
  | with_reducible refine Bf.r_forZ ?_
  | with_reducible refine Bf.r_forT ?_
  | with_reducible refine Bf.r_forR ?_
  | with_reducible refine Bf.r_forR2 ?_
  | ((with_reducible refine Bf.i_d1 ?h ?_); (case h => walk_at "pfN5"))
  | ((with_reducible refine Bf.i_d0 ?h ?_); (case h => walk_at "pfN5"))
  | ((with_reducible refine Bf.i_n1 ?h ?_); (case h => walk_at "pfN5"))
  | ((with_reducible refine Bf.i_n0 ?h ?_); (case h => walk_at "pfN5")))
local macro_rules | `(tactic| walk_at "rdN5") => `(tactic| repeat walk_at "rd1N5")
namespace Bf
open PySem L2
abbrev s_inverse_step : Stmt := topS 20
theorem bi_inverse_step : ∀ (kV doc pm : Value) (an : Option Addr) (cdv ct : Value) (us : List Value), us.length = 2 → bindArgs (PySem.W.fnOf "inverse_step" "inverse_step" (defArgs s_inverse_step) (defBody s_inverse_step) (defScope s_inverse_step) .none kV doc pm an cdv ct) ⟨us, []⟩ = pure ((["step", "modulus"] : List Str).zip us) := fun _ _ _ _ _ _ us hl => match us, hl with | [_, _], _ => rfl
theorem sc_inverse_step : FnScope ["step", "modulus"] ["step", "modulus"] (defScope s_inverse_step) := C8.fnScope_by (by decide +kernel)
abbrev s_perform : Stmt := topS 21
theorem bi_perform : ∀ (kV doc pm : Value) (an : Option Addr) (cdv ct : Value) (us : List Value), us.length = 4 → bindArgs (PySem.W.fnOf "perform" "perform" (defArgs s_perform) (defBody s_perform) (defScope s_perform) .none kV doc pm an cdv ct) ⟨us, []⟩ = pure ((["step", "memory", "given", "modulus"] : List Str).zip us) := fun _ _ _ _ _ _ us hl => match us, hl with | [_, _, _, _], _ => rfl
theorem sc_perform : FnScope ["step", "memory", "given", "modulus", "total", "kind", "index", "kept", "value"] ["step", "memory", "given", "modulus"] (defScope s_perform) := C8.fnScope_by (by decide +kernel)
abbrev s_check_steps : Stmt := topS 22
theorem bi_check_steps : ∀ (kV doc pm : Value) (an : Option Addr) (cdv ct : Value) (us : List Value), us.length = 5 → bindArgs (PySem.W.fnOf "check_steps" "check_steps" (defArgs s_check_steps) (defBody s_check_steps) (defScope s_check_steps) .none kV doc pm an cdv ct) ⟨us, []⟩ = pure ((["steps", "modulus", "cells", "inputs", "most"] : List Str).zip us) := fun _ _ _ _ _ _ us hl => match us, hl with | [_, _, _, _, _], _ => rfl
theorem sc_check_steps : FnScope ["steps", "modulus", "cells", "inputs", "most", "looks", "step"] ["steps", "modulus", "cells", "inputs", "most"] (defScope s_check_steps) := C8.fnScope_by (by decide +kernel)
abbrev s_check_numbers : Stmt := topS 28
theorem bi_check_numbers : ∀ (kV doc pm : Value) (an : Option Addr) (cdv ct : Value) (us : List Value), us.length = 3 → bindArgs (PySem.W.fnOf "check_numbers" "check_numbers" (defArgs s_check_numbers) (defBody s_check_numbers) (defScope s_check_numbers) .none kV doc pm an cdv ct) ⟨us, []⟩ = pure ((["values", "many", "modulus"] : List Str).zip us) := fun _ _ _ _ _ _ us hl => match us, hl with | [_, _, _], _ => rfl
theorem sc_check_numbers : FnScope ["values", "many", "modulus", "value"] ["values", "many", "modulus"] (defScope s_check_numbers) := C8.fnScope_by (by decide +kernel)
def spInvStep : Sp := fun vs H Q _ => ∃ (s : Step) (m c n : Int) (v : V), vs = [v, .int m] ∧ Rp H s.d v ∧ s.ok m c n ∧ 2 ≤ m ∧ m ≤ 1000000000 ∧ ∀ v' H', Same H H' → Rp H' (s.inv m).d v' → Q v' H'
def spPerf : Sp := fun vs H Q _ => ∃ (s : Step) (m c n : Int) (v : V) (l g : Addr) (mem given : List Int), vs = [v, .ref l, .ref g, .int m] ∧ Rp H s.d v ∧ s.ok m c n ∧ 2 ≤ m ∧ m ≤ 1000000000 ∧ H l = some (.lst (mem.map V.int)) ∧ H g = some (.lst (given.map V.int)) ∧ Mem m c mem ∧ Mem m n given ∧
  ∀ H', Kp l H H' → H' l = some (.lst ((perf m given mem s).map V.int)) → Q .non H'
def spCheck : Sp := fun vs H Q _ => ∃ (ss : List Step) (m c n most : Int) (p : Addr) (ws : List V), vs = [.ref p, .int m, .int c, .int n, .int most] ∧ H p = some (.lst ws) ∧ RpL H (ss.map Step.d) ws ∧ (∀ s ∈ ss, s.ok m c n) ∧ 2 ≤ m ∧ m ≤ 1000000000 ∧ (ss.length : Int) ≤ most ∧ ((∃ s ∈ ss, s.isTable = true) → Pr m) ∧ ∀ H', Same H H' → Q .non H'
def spNums : Sp := fun vs H Q _ => ∃ (xs : List Int) (m c : Int) (p : Addr), vs = [.ref p, .int c, .int m] ∧ H p = some (.lst (xs.map V.int)) ∧ Mem m c xs ∧ Q .non H
theorem gt_V {l : List Int} {i : Int} (h0 : 0 ≤ i) (h1 : i < l.length) : atI (l.map V.int) i = some (.int (gt l i)) := at_nat h0 (by rw [List.getElem?_map, gt_at h0 h1]; rfl)
theorem set_V {l : List Int} {i : Nat} {x : Int} : (l.map V.int).set i (.int x) = (l.set i x).map V.int := by rw [List.map_set]
theorem tot_bd {m co : Int} {mem given : List Int} (hm : 0 < m) (h0 : 0 ≤ co) (h1 : co < m) : ∀ {fs : List Fac}, 0 ≤ tot m mem given co fs ∧ tot m mem given co fs < m := by
  intro fs
  unfold tot
  induction fs generalizing co with
  | nil => exact ⟨h0, h1⟩
  | cons f r ih => exact ih (Int.emod_nonneg _ (by omega)) (Int.emod_lt_of_pos _ hm)
theorem kind_at {m c n : Int} {s : Step} {H : Hp} {v : V} (h : Rp H s.d v) : ∃ (a : Addr) (xs : List V) (z : Str), v = .ref a ∧ H a = some (.tup xs) ∧ xs[0]? = some (.str z) ∧ decide (z = ("table" : Str)) = s.isTable := by
  cases s with
  | add t k fs =>
    obtain ⟨a, _, rfl, ha, w1, _, rfl, rfl, _⟩ := h
    exact ⟨a, _, _, rfl, ha, rfl, show decide (("add" : Str) = ("table" : Str)) = false by decide +kernel⟩
  | scale t k =>
    obtain ⟨a, _, rfl, ha, w1, _, rfl, rfl, _⟩ := h
    exact ⟨a, _, _, rfl, ha, rfl, show decide (("scale" : Str) = ("table" : Str)) = false by decide +kernel⟩
  | swap t k =>
    obtain ⟨a, _, rfl, ha, w1, _, rfl, rfl, _⟩ := h
    exact ⟨a, _, _, rfl, ha, rfl, show decide (("swap" : Str) = ("table" : Str)) = false by decide +kernel⟩
  | table t k tb b c =>
    obtain ⟨a, _, rfl, ha, w1, _, rfl, rfl, _⟩ := h
    exact ⟨a, _, _, rfl, ha, rfl, show decide (("table" : Str) = ("table" : Str)) = true by decide +kernel⟩
section
variable {P : Program} {w : World} {K : PySem.W.Frag} {mg : Str → Option Value} {base : Heap}
theorem cal_inverse_step (T : Gs mg) (c_inverse_of : C8.Cal P w K mg base 1 "inverse_of" spInv []) (F : DefAt K mg "inverse_step" s_inverse_step) : C8.Cal P w K mg base 2 "inverse_step" spInvStep [] := by
  refine cal_of F sc_inverse_step bi_inverse_step (fun vs H Q E h => ?_) (fun f cdv A outer s H vs Q E hr h => ?_)
  · obtain ⟨s, m, c, n, v, rfl, _⟩ := h
    rfl
  · refine ⟨_, (pss_cons (ps_if (pt_cmpR op_eq (pe_ix ix_seq (pv 0) pe_int (fun _ _ => rfl)) pe_str (nomark _)) (pss_one (ps_ret (pe_tup (pa_cons pe_str (pa_cons (pe_ix ix_seq (pv 0) pe_int (fun _ _ => rfl)) (pa_cons (pe_op op_mod (pe_un un_neg (pe_ix ix_seq (pv 0) pe_int (fun _ _ => rfl))) (pv 1)) (pa_cons (pe_ix ix_seq (pv 0) pe_int (fun _ _ => rfl)) pa_nil))))))) pss_nil)
      (pss_cons (ps_if (pt_cmpR op_eq (pe_ix ix_seq (pv 0) pe_int (fun _ _ => rfl)) pe_str (nomark _)) (pss_one (ps_ret (pe_tup (pa_cons pe_str (pa_cons (pe_ix ix_seq (pv 0) pe_int (fun _ _ => rfl)) (pa_cons (C8.pe_c c_inverse_of hr (by first | decide | omega) rfl (pa_cons (pe_ix ix_seq (pv 0) pe_int (fun _ _ => rfl)) (pa_cons (pv 1) pa_nil))) pa_nil)))))) pss_nil)
      (pss_cons (ps_if (pt_cmpR op_eq (pe_ix ix_seq (pv 0) pe_int (fun _ _ => rfl)) pe_str (nomark _)) (pss_one (ps_ret (pe_op op_catT (pe_tup (pa_cons pe_str (pa_cons (pe_ix ix_seq (pv 0) pe_int (fun _ _ => rfl)) (pa_cons (pe_op op_sub (pv 1) (pe_ix ix_seq (pv 0) pe_int (fun _ _ => rfl))) pa_nil)))) (pe_slice sl_tup (pv 0) (po_some pe_int) po_none)))) pss_nil)
      (pss_one (ps_ret (pv 0)))))), ?_⟩
    obtain ⟨s, m, c, n, v, rfl, hR, ok, m2, m9, k⟩ := h
    have hR0 := hR
    cases s with
    | add t co fs =>
      obtain ⟨a, _, rfl, ha, w1, _, rfl, rfl, w2, _, rfl, rfl, w3, _, rfl, rfl, w4, _, rfl, hF, rfl⟩ := hR
      walk_at "rdN5"
      refine n_tup (Nat.le_of_ble_eq_true rfl) fun q H1 nq s1 hq => ?_
      exact k _ _ s1 ⟨q, _, rfl, hq, _, _, rfl, rfl, _, _, rfl, rfl, _, _, rfl, rfl, _, _, rfl, hF.same s1, rfl⟩
    | scale t co =>
      obtain ⟨a, _, rfl, ha, w1, _, rfl, rfl, w2, _, rfl, rfl, w3, _, rfl, rfl, rfl⟩ := hR
      obtain ⟨⟨t0, t1⟩, ⟨k0, k1⟩, hg⟩ := ok
      walk_at "rdN5"
      refine ⟨co, m, rfl, m2, m9, fun _ H' s' => ?_, fun z => absurd hg z⟩
      walk_at "rdN5"
      refine n_tup (Nat.le_of_ble_eq_true rfl) fun q H1 nq s1 hq => ?_
      exact k _ _ (s'.trans s1) ⟨q, _, rfl, hq, _, _, rfl, rfl, _, _, rfl, rfl, _, _, rfl, rfl, rfl⟩
    | swap a b =>
      obtain ⟨p, _, rfl, ha, w1, _, rfl, rfl, w2, _, rfl, rfl, w3, _, rfl, rfl, rfl⟩ := hR
      walk_at "rdN5"
      exact k _ _ (Same.refl H) hR0
    | table t sg tb a b =>
      obtain ⟨p, _, rfl, hp, w1, _, rfl, rfl, w2, _, rfl, rfl, w3, _, rfl, rfl, w4, _, rfl, hT, w5, _, rfl, rfl, w6, _, rfl, rfl, rfl⟩ := hR
      walk_at "rdN5"
      refine n_tup (Nat.le_of_ble_eq_true rfl) fun q H1 nq s1 hq => ?_
      have hp1 := s1 _ _ hp
      walk_at "rdN5"
      refine n_slT hp1 (fun z => absurd (show (3 : Nat) = 0 from z.1) (by decide)) (cut_from (by decide)) fun q2 H2 nq2 s2 hq2 => ?_
      refine n_catT (s2 _ _ hq) hq2 (by simp) (by simp) (Nat.le_of_ble_eq_true rfl) fun q3 H3 nq3 s3 hq3 => ?_
      exact k _ _ (s1.trans (s2.trans s3)) ⟨q3, _, rfl, hq3, _, _, rfl, rfl, _, _, rfl, rfl, _, _, rfl, rfl, _, _, rfl, hT.same (s1.trans (s2.trans s3)), _, _, rfl, rfl, _, _, rfl, rfl, rfl⟩
theorem cal_check_numbers (T : Gs mg) (c_is_number : C8.Cal P w K mg base 2 "is_number" spIsNum []) (F : DefAt K mg "check_numbers" s_check_numbers) : C8.Cal P w K mg base 3 "check_numbers" spNums [] := by
  refine cal_of F sc_check_numbers bi_check_numbers (fun vs H Q E h => ?_) (fun f cdv A outer s H vs Q E hr h => ?_)
  · obtain ⟨s, m, c, n, rfl, _⟩ := h
    rfl
  · refine ⟨_, (pss_cons (ps_if (PW.pt (pw_or (pt_not (pt_val (pe_callB call_isi (by rfl) T.n_isinstance (by decide +kernel) (pa_cons (pv 0) (pa_cons (pe_bltn (v := .ty "list") rfl T.n_list (by decide +kernel) rfl) pa_nil))))) (pw_or1 (pt_cmpR op_ne (pe_callB b_len (by rfl) T.n_len PySem.boot_len (pa_cons (pv 0) pa_nil)) (pv 1) (nomark _))))) (pss_one (ps_never)) pss_nil)
      (pss_one (ps_for PassesOwn.never rfl (pi_list (pv 0)) (pg_name (i := 3) sc_check_numbers.nd rfl (by first | exact Or.inl rfl | exact Or.inr rfl)) (pss_one (ps_if (pt_not (pt_val (C8.pe_c c_is_number hr (by first | decide | omega) rfl (pa_cons (pv 3) (pa_cons (pv 2) pa_nil))))) (pss_one (ps_never)) pss_nil))))), ?_⟩
    obtain ⟨xs, m, c, p, rfl, hp, hm, k⟩ := h
    have hl : (((xs.map V.int).length : Nat) : Int) = c := by rw [List.length_map]; exact hm.1
    walk_at "rdN5"
    refine n_forL (fun i σ H' => ∃ u1 : Option V, σ = [some (.ref p), some (.int c), some (.int m), u1] ∧ H' = H) hp ⟨_, rfl, rfl⟩ (fun i σ H' _ h => by obtain ⟨_, _, rfl⟩ := h; exact SqL.of hp) ?_ ?_
    · rintro i x σ H' hx ⟨u1, rfl, rfl⟩
      obtain ⟨en, hen, rfl⟩ := map_at hx
      have hb := hm.2 _ (List.mem_of_getElem? hen)
      walk_at "rdN5"
      exact ⟨_, rfl, rfl⟩
    · rintro σ H' ⟨u1, rfl, rfl⟩
      walk_at "rdN5"
      exact k
theorem cal_check_steps (T : Gs mg) (c_is_prime : C8.Cal P w K mg base 1 "is_prime" spPrime []) (c_is_step : C8.Cal P w K mg base 5 "is_step" spStep []) (F : DefAt K mg "check_steps" s_check_steps) : C8.Cal P w K mg base 6 "check_steps" spCheck [] := by
  refine cal_of F sc_check_steps bi_check_steps (fun vs H Q E h => ?_) (fun f cdv A outer s H vs Q E hr h => ?_)
  · obtain ⟨ss, m, c, n, most, p, ws, rfl, _⟩ := h
    rfl
  · refine ⟨_, (pss_cons (ps_if (PW.pt (pw_or (pt_not (pt_val (pe_callB call_isi (by rfl) T.n_isinstance (by decide +kernel) (pa_cons (pv 0) (pa_cons (pe_bltn (v := .ty "list") rfl T.n_list (by decide +kernel) rfl) pa_nil))))) (pw_or1 (pt_cmpR op_gt (pe_callB b_len (by rfl) T.n_len PySem.boot_len (pa_cons (pv 0) pa_nil)) (pv 4) (nomark _))))) (pss_one (ps_never)) pss_nil)
      (pss_cons (ps_set (i := 5) sc_check_steps.nd rfl (by first | exact Or.inl rfl | exact Or.inr rfl) pe_bl)
      (pss_cons (ps_for PassesOwn.never rfl (pi_list (pv 0)) (pg_name (i := 6) sc_check_steps.nd rfl (by first | exact Or.inl rfl | exact Or.inr rfl)) (pss_cons (ps_if (pt_not (pt_val (C8.pe_c c_is_step hr (by first | decide | omega) rfl (pa_cons (pv 6) (pa_cons (pv 1) (pa_cons (pv 2) (pa_cons (pv 3) pa_nil))))))) (pss_one (ps_never)) pss_nil)
      (pss_one (ps_set (i := 5) sc_check_steps.nd rfl (by first | exact Or.inl rfl | exact Or.inr rfl) (pe_or (pv 5) (pe_one (pe_cmpR op_eq (pe_ix ix_seq (pv 6) pe_int (fun _ _ => rfl)) pe_str (nomark _))))))))
      (pss_one (ps_if (PW.pt (pw_and (pt_val (pv 5)) (pw_and1 (pt_not (pt_val (C8.pe_c c_is_prime hr (by first | decide | omega) rfl (pa_cons (pv 1) pa_nil))))))) (pss_one (ps_never)) pss_nil))))), ?_⟩
    obtain ⟨ss, m, c, n, most, p, ws, rfl, hp, hl, ok, m2, m9, hmost, hpr, k⟩ := h
    have hlen := hl.len
    rw [List.length_map] at hlen
    walk_at "rdN5"
    refine n_forL (fun i σ H' => ∃ (u1 : Option V), σ = [some (.ref p), some (.int m), some (.int c), some (.int n), some (.int most), some (.bl ((ss.take i).any Step.isTable)), u1] ∧ Same H H') hp ⟨_, rfl, Same.refl H⟩ (fun i σ H' _ h => by obtain ⟨_, _, s1⟩ := h; exact SqL.of (s1 _ _ hp)) ?_ ?_
    · rintro i x σ H' hx ⟨u1, rfl, s1⟩
      obtain ⟨df, hdf, hfv⟩ := hl.at hx
      obtain ⟨st, hst, rfl⟩ := Option.map_eq_some_iff.mp (by rwa [List.getElem?_map] at hdf)
      walk_at "rdN5"
      refine ⟨st, m, c, n, x, rfl, hfv.same s1, ok _ (List.mem_of_getElem? hst), m2, m9, fun H2 s2 => ?_⟩
      walk_at "rdN5"
      obtain ⟨a, xs, z, rfl, ha, h0, hz⟩ := kind_at (m := m) (c := c) (n := n) (hfv.same (s1.trans s2))
      have e : (ss.take (i + 1)).any Step.isTable = ((ss.take i).any Step.isTable || st.isTable) := by
        rw [take_snoc hst, List.any_append]
        simp
      by_cases hb : (ss.take i).any Step.isTable = true
      · rw [hb]
        walk_at "rdN5"
        exact ⟨_, by rw [e, hb]; rfl, s1.trans s2⟩
      · rw [Bool.not_eq_true] at hb
        rw [hb]
        walk_at "rdN5"
        refine r_ixT ha (at_nat (by decide) h0) ?_
        walk_at "rdN5"
        refine ⟨_, by rw [e, hb, hz]; rfl, s1.trans s2⟩
    · rintro σ H' ⟨u1, rfl, s1⟩
      rw [show ws.length = ss.length from hlen, List.take_length]
      by_cases hb : ss.any Step.isTable = true
      · rw [hb]
        walk_at "rdN5"
        refine ⟨m, rfl, m2, by omega, fun _ => ?_, fun z => absurd (hpr (by
          obtain ⟨s, h1, h2⟩ := List.any_eq_true.mp hb
          exact ⟨s, h1, h2⟩)) z⟩
        walk_at "rdN5"
        exact k _ s1
      · rw [Bool.not_eq_true] at hb
        rw [hb]
        walk_at "rdN5"
        exact k _ s1
theorem cal_perform (T : Gs mg) (c_interpolate : C8.Cal P w K mg base 3 "interpolate" spItp []) (F : DefAt K mg "perform" s_perform) : C8.Cal P w K mg base 4 "perform" spPerf [] := by
  refine cal_of F sc_perform bi_perform (fun vs H Q E h => ?_) (fun f cdv A outer s H vs Q E hr h => ?_)
  · obtain ⟨s, m, c, n, v, l, g, mem, given, rfl, _⟩ := h
    rfl
  · refine ⟨_, (pss_one (ps_if (pt_cmpR op_eq (pe_ix ix_seq (pv 0) pe_int (fun _ _ => rfl)) pe_str (nomark _)) (pss_cons (ps_set (i := 4) sc_perform.nd rfl (by first | exact Or.inl rfl | exact Or.inr rfl) (pe_ix ix_seq (pv 0) pe_int (fun _ _ => rfl)))
      (pss_cons (ps_for PassesOwn.never rfl (pi_tup (pe_ix ix_seq (pv 0) pe_int (fun _ _ => rfl))) (pg_tup rfl (pgs_cons (pg_name (i := 5) sc_perform.nd rfl (by first | exact Or.inl rfl | exact Or.inr rfl)) (pgs_cons (pg_name (i := 6) sc_perform.nd rfl (by first | exact Or.inl rfl | exact Or.inr rfl)) pgs_nil))) (pss_one (ps_set (i := 4) sc_perform.nd rfl (by first | exact Or.inl rfl | exact Or.inr rfl) (pe_op op_mod (pe_op op_mul (pv 4) (pe_ifExp (pt_cmpR op_eq (pv 5) pe_str (nomark _)) (pe_ix ix_seq (pv 1) (pv 6) (fun _ _ => rfl)) (pe_ix ix_seq (pv 2) (pv 6) (fun _ _ => rfl)))) (pv 3)))))
      (pss_one (ps_asg (pe_op op_mod (pe_op op_add (pe_ix ix_seq (pv 1) (pe_ix ix_seq (pv 0) pe_int (fun _ _ => rfl)) (fun _ _ => rfl)) (pv 4)) (pv 3)) (pg_sub (pv 1) (pe_ix ix_seq (pv 0) pe_int (fun _ _ => rfl)) set_list))))) (pss_one (ps_if (pt_cmpR op_eq (pe_ix ix_seq (pv 0) pe_int (fun _ _ => rfl)) pe_str (nomark _)) (pss_one (ps_asg (pe_op op_mod (pe_op op_mul (pe_ix ix_seq (pv 1) (pe_ix ix_seq (pv 0) pe_int (fun _ _ => rfl)) (fun _ _ => rfl)) (pe_ix ix_seq (pv 0) pe_int (fun _ _ => rfl))) (pv 3)) (pg_sub (pv 1) (pe_ix ix_seq (pv 0) pe_int (fun _ _ => rfl)) set_list))) (pss_one (ps_if (pt_cmpR op_eq (pe_ix ix_seq (pv 0) pe_int (fun _ _ => rfl)) pe_str (nomark _)) (pss_cons (ps_set (i := 7) sc_perform.nd rfl (by first | exact Or.inl rfl | exact Or.inr rfl) (pe_ix ix_seq (pv 1) (pe_ix ix_seq (pv 0) pe_int (fun _ _ => rfl)) (fun _ _ => rfl)))
      (pss_cons (ps_asg (pe_ix ix_seq (pv 1) (pe_ix ix_seq (pv 0) pe_int (fun _ _ => rfl)) (fun _ _ => rfl)) (pg_sub (pv 1) (pe_ix ix_seq (pv 0) pe_int (fun _ _ => rfl)) set_list))
      (pss_one (ps_asg (pv 7) (pg_sub (pv 1) (pe_ix ix_seq (pv 0) pe_int (fun _ _ => rfl)) set_list))))) (pss_cons (ps_set (i := 8) sc_perform.nd rfl (by first | exact Or.inl rfl | exact Or.inr rfl) (C8.pe_c c_interpolate hr (by first | decide | omega) rfl (pa_cons (pe_ix ix_seq (pv 0) pe_int (fun _ _ => rfl)) (pa_cons (pv 3) (pa_cons (pe_ix ix_seq (pv 1) (pe_ix ix_seq (pv 0) pe_int (fun _ _ => rfl)) (fun _ _ => rfl)) (pa_cons (pe_ix ix_seq (pv 1) (pe_ix ix_seq (pv 0) pe_int (fun _ _ => rfl)) (fun _ _ => rfl)) pa_nil))))))
      (pss_one (ps_asg (pe_op op_mod (pe_op op_add (pe_ix ix_seq (pv 1) (pe_ix ix_seq (pv 0) pe_int (fun _ _ => rfl)) (fun _ _ => rfl)) (pe_op op_mul (pe_ix ix_seq (pv 0) pe_int (fun _ _ => rfl)) (pv 8))) (pv 3)) (pg_sub (pv 1) (pe_ix ix_seq (pv 0) pe_int (fun _ _ => rfl)) set_list)))))))))), ?_⟩
    obtain ⟨s, m, c, n, v, l, g, mem, given, rfl, hR, ok, m2, m9, hl, hg, hM, hG, k⟩ := h
    have hR0 := hR
    have hM1 := hM.1
    have hG1 := hG.1
    have hML : ∀ {i : Int}, i < c → i < mem.length := fun h => by omega
    have hGL : ∀ {i : Int}, i < n → i < given.length := fun h => by omega
    cases s with
    | add t co fs =>
      obtain ⟨a, _, rfl, ha, w1, _, rfl, rfl, w2, _, rfl, rfl, w3, _, rfl, rfl, w4, _, rfl, ⟨b, vs, rfl, hb, hF⟩, rfl⟩ := hR
      obtain ⟨⟨t0, t1⟩, ⟨k0, k1⟩, hf3, hf⟩ := ok
      have hlen := hF.len
      rw [List.length_map] at hlen
      walk_at "rdN5"
      refine n_forT (fun i σ H' => ∃ u1 u2 u3 u4 : Option V, σ = [some (.ref a), some (.ref l), some (.ref g), some (.int m), some (.int (tot m mem given co (fs.take i))), u1, u2, u3, u4] ∧ H' = H) hb ⟨_, _, _, _, rfl, rfl⟩ (fun i σ H' _ h => by obtain ⟨_, _, _, _, _, rfl⟩ := h; exact hb) ?_ ?_
      · rintro i x σ H' hx ⟨u1, u2, u3, u4, rfl, rfl⟩
        obtain ⟨df, hdf, hfv⟩ := hF.at hx
        obtain ⟨fc, hfc, rfl⟩ := Option.map_eq_some_iff.mp (by rwa [List.getElem?_map] at hdf)
        have hok := hf _ (List.mem_of_getElem? hfc)
        have e : tot m mem given co (fs.take (i + 1)) = tot m mem given co (fs.take i) * facV mem given fc % m := foldl_take _ _ hfc
        obtain ⟨tb0, tb1⟩ := tot_bd (m := m) (co := co) (mem := mem) (given := given) (by omega) k0 k1 (fs := fs.take i)
        cases fc with
        | cell j =>
          obtain ⟨d, _, rfl, hd, w1, _, rfl, rfl, w2, _, rfl, rfl, rfl⟩ := hfv
          obtain ⟨⟨j0, j1⟩, j2⟩ := hok
          walk_at "rdN5"
          refine r_ixL hl (gt_V j0 (hML j1)) ?_
          walk_at "rdN5"
          exact ⟨_, _, _, _, by rw [e]; rfl, rfl⟩
        | inp j =>
          obtain ⟨d, _, rfl, hd, w1, _, rfl, rfl, w2, _, rfl, rfl, rfl⟩ := hfv
          obtain ⟨j0, j1⟩ := hok
          walk_at "rdN5"
          refine r_ixL hg (gt_V j0 (hGL j1)) ?_
          walk_at "rdN5"
          exact ⟨_, _, _, _, by rw [e]; rfl, rfl⟩
      · rintro σ H' ⟨u1, u2, u3, u4, rfl, rfl⟩
        rw [show vs.length = fs.length from hlen, List.take_length]
        walk_at "rdN5"
        refine r_ixL hl (gt_V t0 (hML t1)) ?_
        walk_at "rdN5"
        refine n_setL hl t0 (by rw [List.length_map]; exact hML t1) fun H2 k2 h2 => ?_
        walk_at "rdN5"
        exact k _ k2 (by rw [h2, set_V, perf_add])
    | scale t co =>
      obtain ⟨a, _, rfl, ha, w1, _, rfl, rfl, w2, _, rfl, rfl, w3, _, rfl, rfl, rfl⟩ := hR
      obtain ⟨⟨t0, t1⟩, ⟨k0, k1⟩, hgc⟩ := ok
      obtain ⟨gb0, gb1⟩ := gt_bd hM t0 t1
      walk_at "rdN5"
      refine r_ixL hl (gt_V t0 (hML t1)) ?_
      walk_at "rdN5"
      refine n_setL hl t0 (by rw [List.length_map]; exact hML t1) fun H2 k2 h2 => ?_
      walk_at "rdN5"
      exact k _ k2 (by rw [h2, set_V, perf_scale])
    | swap a b =>
      obtain ⟨p, _, rfl, ha, w1, _, rfl, rfl, w2, _, rfl, rfl, w3, _, rfl, rfl, rfl⟩ := hR
      obtain ⟨⟨a0, a1⟩, ⟨b0, b1⟩, hab⟩ := ok
      have hpl : p ≠ l := ne_of ha hl (by intro z; cases z)
      walk_at "rdN5"
      refine r_ixL hl (gt_V a0 (hML a1)) ?_
      walk_at "rdN5"
      refine r_ixL hl (gt_V b0 (hML b1)) ?_
      walk_at "rdN5"
      refine n_setL hl a0 (by rw [List.length_map]; exact hML a1) fun H2 k2 h2 => ?_
      have ha2 := k2 _ _ hpl ha
      walk_at "rdN5"
      refine n_setL h2 b0 (by rw [List.length_set, List.length_map]; exact hML b1) fun H3 k3 h3 => ?_
      walk_at "rdN5"
      exact k _ (k2.trans k3) (by rw [h3, set_V, set_V, perf_swap])
    | table t sg tb a b =>
      obtain ⟨p, _, rfl, hp, w1, _, rfl, rfl, w2, _, rfl, rfl, w3, _, rfl, rfl, w4, _, rfl, hT, w5, _, rfl, rfl, w6, _, rfl, rfl, rfl⟩ := hR
      obtain ⟨t0, t1⟩ := ok.ht
      obtain ⟨a0, a1⟩ := ok.ha
      obtain ⟨b0, b1⟩ := ok.hb
      walk_at "rdN5"
      refine r_ixL hl (gt_V a0 (hML a1)) ?_
      walk_at "rdN5"
      refine r_ixL hl (gt_V b0 (hML b1)) ?_
      walk_at "rdN5"
      refine ⟨tb, w4, m, _, _, rfl, hT, ok.sz, m2, m9, ok.un, ok.tab.sq, fun H1 s1 => ?_⟩
      replace hl := s1 _ _ hl
      replace hp := s1 _ _ hp
      have hsg : 0 ≤ sg ∧ sg < m := by rcases ok.hs with e | e <;> omega
      walk_at "rdN5"
      refine r_ixL hl (gt_V t0 (hML t1)) ?_
      walk_at "rdN5"
      refine n_setL hl t0 (by rw [List.length_map]; exact hML t1) fun H2 k2 h2 => ?_
      walk_at "rdN5"
      exact k _ ((Kp.of s1).trans k2) (by rw [h2, set_V, perf_table])
end
end Bf
/-! the draws: a list [numbers, place] -/
namespace Bf
open PySem L2
/-- where they lie; the numbers -/
structure DD where
  d : Addr
  l : Addr
  ns : List Int
def Drw (D : DD) (H : Hp) : Prop := (∃ k : Int, H D.d = some (.lst [.ref D.l, .int k]) ∧ 0 ≤ k) ∧ H D.l = some (.lst (D.ns.map V.int)) ∧ ∀ x ∈ D.ns, 0 ≤ x ∧ x < 1000000
theorem Drw.same {H H' : Hp} {D : DD} (h : Drw D H) (s : Same H H') : Drw D H' := by
  obtain ⟨⟨k, h1, h2⟩, h3, h4⟩ := h
  exact ⟨⟨k, s _ _ h1, h2⟩, s _ _ h3, h4⟩
theorem Drw.ne {D : DD} {q : Addr} {H : Hp} (h : Drw D H) (n : H q = none) : q ≠ D.d := fun e => by
  obtain ⟨⟨k, h1, _⟩, _⟩ := h
  rw [e, h1] at n
  cases n
theorem Drw.nel {D : DD} {q : Addr} {H : Hp} (h : Drw D H) (n : H q = none) : q ≠ D.l := fun e => by
  obtain ⟨_, h1, _⟩ := h
  rw [e, h1] at n
  cases n
theorem Drw.ld {D : DD} {H : Hp} (h : Drw D H) : D.l ≠ D.d := fun e => by
  obtain ⟨⟨k, h1, _⟩, h3, _⟩ := h
  rw [e, h1] at h3
  cases hn : D.ns with
  | nil => rw [hn] at h3; cases h3
  | cons x r => rw [hn] at h3; cases h3
/-- all but the draws is kept, and they are draws again -/
structure Ds (D : DD) (H H' : Hp) : Prop where
  kp : Kp D.d H H'
  dr : Drw D H'
theorem Ds.trans {D : DD} {H H1 H2 : Hp} (a : Ds D H H1) (b : Ds D H1 H2) : Ds D H H2 := ⟨a.kp.trans b.kp, b.dr⟩
theorem Ds.same {D : DD} {H H1 H2 : Hp} (a : Ds D H H1) (s : Same H1 H2) : Ds D H H2 := ⟨a.kp.trans (Kp.of s), a.dr.same s⟩
theorem Ds.of {D : DD} {H H1 : Hp} (a : Drw D H) (s : Same H H1) : Ds D H H1 := ⟨Kp.of s, a.same s⟩
theorem Ds.refl {D : DD} {H : Hp} (a : Drw D H) : Ds D H H := ⟨Kp.refl D.d H, a⟩
theorem Ds.tk {D : DD} {H H' : Hp} (h : Drw D H) (a : Ds D H H') : TK H H' := by
  obtain ⟨⟨k, h1, _⟩, _⟩ := h
  exact TK.kp h1 a.kp
/-- an object that is new since the draws were there -/
theorem Ds.new {D : DD} {q : Addr} {H H1 H2 : Hp} {o : HO} (h : Drw D H) (n : H q = none) (e : H1 q = some o) (a : Ds D H1 H2) : H2 q = some o := a.kp _ _ (h.ne n) e
/-- the draws, when an object at a new address has changed -/
theorem Ds.kpn {D : DD} {q : Addr} {H H1 H2 : Hp} (h : Drw D H) (n : H q = none) (a : Ds D H H1) (k : Kp q H1 H2) : Ds D H H2 := by
  refine ⟨fun b o hb e => k _ _ (ne_of_none e n) (a.kp _ _ hb e), ?_⟩
  obtain ⟨⟨j, h1, h2⟩, h3, h4⟩ := a.dr
  exact ⟨⟨j, k _ _ (h.ne n).symm h1, h2⟩, k _ _ (h.nel n).symm h3, h4⟩
/-- a dict, an instance, a list that is no part of the draws -/
theorem Ds.kept {D : DD} {q : Addr} {H H' : Hp} {o : HO} (a : Ds D H H') (e : H q = some o) (ne : q ≠ D.d) : H' q = some o := a.kp _ _ ne e
def mixed (n k : Int) : Int := ((n * 48271 + k * 69621 + 12345) % 2147483647 * ((n * 48271 + k * 69621 + 12345) % 2147483647 / 65536 + 3) + k) % 2147483647
theorem mixed_bd (n k : Int) : 0 ≤ mixed n k ∧ mixed n k < 2147483647 := ⟨Int.emod_nonneg _ (by decide), Int.emod_lt_of_pos _ (by decide)⟩
def spMixed : Sp := fun vs H Q _ => ∃ n k : Int, vs = [.int n, .int k] ∧ Q (.int (mixed n k)) H
theorem n_mixed {n k : Int} {H : Hp} {Q : VK} {E : XK} (h : Q (.int (mixed n k)) H) : spMixed ([.int n, .int k] ++ []) H Q E := ⟨n, k, rfl, h⟩
def spDraw : Sp := fun vs H Q _ => ∃ D : DD, vs = [.ref D.d] ∧ Drw D H ∧ ∀ (v : Int) H', 0 ≤ v → v < 1000000 → Ds D H H' → Q (.int v) H'
def spLarge : Sp := fun vs H Q _ => ∃ (D : DD) (b : Int), vs = [.ref D.d, .int b] ∧ Drw D H ∧ 0 < b ∧ ∀ (v : Int) H', 0 ≤ v → v < b → Ds D H H' → Q (.int v) H'
end Bf
/-! drawn numbers, factors, steps: plain mathematics and promises -/
namespace Bf
open PySem L2
theorem n_pick {K : PySem.W.Frag} {H : Hp} {Q : VK} {p : Addr} {ns : List Int} {i : Int} (h : H p = some (.lst (ns.map V.int))) (h0 : 0 ≤ i) (h1 : i < ns.length) (k : ∀ x, x ∈ ns → Q (.int x) H) : rIx K (.ref p) (.int i) H Q := by
  have e : i.toNat < ns.length := by omega
  exact r_ixL h (at_nat h0 (by rw [List.getElem?_map, List.getElem?_eq_getElem e]; rfl)) (k _ (List.getElem_mem e))
/-! ### primes -/
theorem pr_small {n : Int} (h : (List.range n.toNat).all (fun d => decide (d < 2) || decide (n.toNat < d * d) || decide (n.toNat % d ≠ 0)) = true) (h0 : 0 ≤ n) : Pr n := by
  intro d h2 hdd hz
  have hd : d ≤ n := by
    have : d * 1 ≤ d * d := Int.mul_le_mul_of_nonneg_left (by omega) (by omega)
    omega
  have hlt : d.toNat < n.toNat := by
    have : d * 2 ≤ d * d := Int.mul_le_mul_of_nonneg_left (by omega) (by omega)
    omega
  have := List.all_eq_true.mp h d.toNat (List.mem_range.mpr hlt)
  simp only [Bool.or_eq_true, decide_eq_true_eq] at this
  rcases this with (q | q) | q
  · omega
  · have e : ((d.toNat * d.toNat : Nat) : Int) = d * d := by rw [Int.natCast_mul, Int.toNat_of_nonneg (by omega)]
    omega
  · apply q
    have e : ((n.toNat % d.toNat : Nat) : Int) = n % d := by rw [Int.natCast_emod, Int.toNat_of_nonneg h0, Int.toNat_of_nonneg (by omega)]
    omega
def trial (n : Nat) : Nat → Bool
  | 0 => true
  | k + 1 => n % (k + 2) != 0 && trial n k
theorem trial_ok {n : Nat} : ∀ {k : Nat}, trial n k = true → ∀ d, 2 ≤ d → d < k + 2 → n % d ≠ 0
  | 0, _, d, h2, hd => by omega
  | k + 1, h, d, h2, hd => by
    unfold trial at h
    rw [Bool.and_eq_true, bne_iff_ne] at h
    by_cases e : d = k + 2
    · rw [e]; exact h.1
    · exact trial_ok h.2 d h2 (by omega)
theorem pr_trial {n k : Nat} (h : trial n k = true) (hk : n < (k + 2) * (k + 2)) : Pr (n : Int) := by
  intro d h2 hdd hz
  have hd : d < (k : Int) + 2 := by
    apply Int.lt_of_not_ge
    intro hge
    have : ((k : Int) + 2) * ((k : Int) + 2) ≤ d * d := Int.mul_le_mul hge hge (by omega) (by omega)
    have e : (((k + 2) * (k + 2) : Nat) : Int) = ((k : Int) + 2) * ((k : Int) + 2) := by rw [Int.natCast_mul]; rfl
    omega
  apply trial_ok h d.toNat (by omega) (by omega)
  have e : ((n % d.toNat : Nat) : Int) = n % d := by rw [Int.natCast_emod, Int.toNat_of_nonneg (by omega)]
  omega
set_option maxRecDepth 1000000 in
theorem pr_big : Pr 999999937 := pr_trial (n := 999999937) (k := 31621) (by decide +kernel) (by decide)
theorem pr_list {x : Int} (h : x ∈ [2, 3, 5, 7, 11, 13, 101, 999999937]) : Pr x ∧ 2 ≤ x ∧ x ≤ 1000000000 := by
  simp only [List.mem_cons, List.not_mem_nil, or_false] at h
  rcases h with e | e | e | e | e | e | e | e <;> subst e
  · exact ⟨pr_trial (n := 2) (k := 0) (by decide) (by decide), by decide, by decide⟩
  · exact ⟨pr_trial (n := 3) (k := 0) (by decide) (by decide), by decide, by decide⟩
  · exact ⟨pr_trial (n := 5) (k := 1) (by decide) (by decide), by decide, by decide⟩
  · exact ⟨pr_trial (n := 7) (k := 1) (by decide) (by decide), by decide, by decide⟩
  · exact ⟨pr_trial (n := 11) (k := 2) (by decide) (by decide), by decide, by decide⟩
  · exact ⟨pr_trial (n := 13) (k := 2) (by decide) (by decide), by decide, by decide⟩
  · exact ⟨pr_trial (n := 101) (k := 9) (by decide) (by decide), by decide, by decide⟩
  · exact ⟨pr_big, by decide, by decide⟩
theorem pr_units {m : Int} (hm : 2 ≤ m) (hp : Pr m) {K : Nat} (hK : (K : Int) ≤ m) : Units m K := by
  intro d h1 hd
  have g1 : ((Int.gcd d m : Nat) : Int) ∣ (d : Int) := Int.gcd_dvd_left ..
  have g2 : ((Int.gcd d m : Nat) : Int) ∣ m := Int.gcd_dvd_right ..
  have le : ((Int.gcd d m : Nat) : Int) ≤ d := Int.le_of_dvd (by omega) g1
  have pos : 0 < Int.gcd d m := Int.gcd_pos_of_ne_zero_right _ (by omega)
  apply Nat.le_antisymm _ pos
  apply Nat.le_of_not_lt
  intro hgt
  obtain ⟨q, hq⟩ := g2
  have hq2 : 2 ≤ q := by
    apply Int.le_of_not_gt
    intro hlt
    have : q ≤ 0 ∨ q = 1 := by omega
    rcases this with z | z
    · have : ((Int.gcd d m : Nat) : Int) * q ≤ 0 := Int.mul_nonpos_of_nonneg_of_nonpos (by omega) z
      omega
    · subst z
      omega
  rcases Int.le_total ((Int.gcd d m : Nat) : Int) q with h | h
  · exact hp _ (by omega) (by
      have := Int.mul_le_mul_of_nonneg_left h (show (0 : Int) ≤ ((Int.gcd d m : Nat) : Int) by omega)
      omega) (dvd_mod.mpr ⟨q, hq⟩)
  · exact hp q hq2 (by
      have := Int.mul_le_mul_of_nonneg_right h (show (0 : Int) ≤ q by omega)
      omega) (dvd_mod.mpr ⟨_, by rw [Int.mul_comm]; exact hq⟩)
theorem unit_last {m : Int} (hm : 2 ≤ m) : Int.gcd (m - 1) m = 1 := by
  have i : IsInv m (m - 1) (m - 1) := ⟨by omega, by omega, by
    have e : (m - 1) * (m - 1) = 1 + m * (m - 2) := by
      simp only [Int.sub_mul, Int.mul_sub]
      omega
    rw [e, Int.add_mul_emod_self_left]
    exact Int.emod_eq_of_lt (by omega) (by omega)⟩
  exact inv_gcd i
/-- another place of c -/
theorem other_place {t r c : Int} (t0 : 0 ≤ t) (t1 : t < c) (r0 : 0 ≤ r) (r1 : r < c - 1) : 0 ≤ (t + 1 + r) % c ∧ (t + 1 + r) % c < c ∧ (t + 1 + r) % c ≠ t := by
  refine ⟨Int.emod_nonneg _ (by omega), Int.emod_lt_of_pos _ (by omega), ?_⟩
  by_cases h : t + 1 + r < c
  · rw [Int.emod_eq_of_lt (by omega) h]
    omega
  · have e : t + 1 + r = (t + 1 + r - c) + c * 1 := by omega
    rw [e, Int.add_mul_emod_self_left, Int.emod_eq_of_lt (by omega) (by omega)]
    omega
theorem shift_ne {t u v c : Int} (t0 : 0 ≤ t) (t1 : t < c) (u0 : 0 ≤ u) (uv : u < v) (vc : v < c) : (t + u) % c ≠ (t + v) % c := by
  have f : ∀ w, 0 ≤ w → w < c → (t + w) % c = if t + w < c then t + w else t + w - c := fun w w0 w1 => by
    by_cases h : t + w < c
    · rw [if_pos h, Int.emod_eq_of_lt (by omega) h]
    · rw [if_neg h]
      have e : t + w = (t + w - c) + c * 1 := by omega
      rw [e, Int.add_mul_emod_self_left, Int.emod_eq_of_lt (by omega) (by omega)]
      omega
  rw [f u u0 (by omega), f v (by omega) vc]
  split <;> split <;> omega
theorem mod_bd (a : Int) {b : Int} (h : 0 < b) : 0 ≤ a % b ∧ a % b < b := ⟨Int.emod_nonneg _ (by omega), Int.emod_lt_of_pos _ h⟩
/-! ### promises -/
def spModulus : Sp := fun vs H Q _ => ∃ D : DD, vs = [.ref D.d] ∧ Drw D H ∧ ∀ (v : Int) H', 2 ≤ v → v ≤ 1000000000 → Ds D H H' → Q (.int v) H'
def spNumber : Sp := fun vs H Q _ => ∃ (D : DD) (m : Int), vs = [.ref D.d, .int m] ∧ Drw D H ∧ 2 ≤ m ∧ ∀ (v : Int) H', 0 ≤ v → v < m → Ds D H H' → Q (.int v) H'
def spGcd : Sp := fun vs H Q _ => ∃ a b : Int, vs = [.int a, .int b] ∧ 0 ≤ a ∧ 0 ≤ b ∧ ∀ r : Int, (r = 1 → Int.gcd a b = 1) → Q (.int r) H
def spUnit : Sp := fun vs H Q _ => ∃ (D : DD) (m : Int), vs = [.ref D.d, .int m] ∧ Drw D H ∧ 2 ≤ m ∧ ∀ (v : Int) H', 0 ≤ v → v < m → Int.gcd v m = 1 → Ds D H H' → Q (.int v) H'
def spPrimeD : Sp := fun vs H Q _ => ∃ D : DD, vs = [.ref D.d] ∧ Drw D H ∧ ∀ (v : Int) H', Pr v → 2 ≤ v → v ≤ 1000000000 → Ds D H H' → Q (.int v) H'
def spTableD : Sp := fun vs H Q _ => ∃ (D : DD) (m : Int), vs = [.ref D.d, .int m] ∧ Drw D H ∧ 2 ≤ m ∧ ∀ (tb : List (List Int)) (v : V) H', IsTab m tb → tb.length ≤ 4 → (tb.length : Int) ≤ m → Rp H' (tabD tb) v → Ds D H H' → Q v H'
def spFactorD : Sp := fun vs H Q _ => ∃ (D : DD) (t c n : Int), vs = [.ref D.d, .int t, .int c, .int n] ∧ Drw D H ∧ (0 ≤ t ∧ t < c) ∧ 0 ≤ n ∧ (1 < c ∨ 0 < n) ∧ ∀ (f : Fac) (v : V) H', f.ok t c n → Rp H' f.d v → Ds D H H' → Q v H'
def spStepD : Sp := fun vs H Q _ => ∃ (D : DD) (m c n : Int) (pr : Bool), vs = [.ref D.d, .int m, .int c, .int n, .bl pr] ∧ Drw D H ∧ 2 ≤ m ∧ m ≤ 1000000000 ∧ 1 ≤ c ∧ 0 ≤ n ∧ (pr = true → Pr m) ∧ ∀ (s : Step) (v : V) H', s.ok m c n → (s.isTable = true → pr = true) → Rp H' s.d v → Ds D H H' → Q v H'
end Bf
/-! the drawn program as a dict -/
namespace Bf
open PySem L2
def Mdl (H : Hp) (p : Addr) (m c n : Int) (ss : List Step) : Prop := ∃ (q : Addr) (ws : List V), H p = some (.dK [(.inr "modulus", .int m), (.inr "cells", .int c), (.inr "inputs", .int n), (.inr "steps", .ref q)]) ∧ H q = some (.lst ws) ∧ RpL H (ss.map Step.d) ws
theorem Mdl.same {H H' : Hp} {p : Addr} {m c n : Int} {ss : List Step} (h : Mdl H p m c n ss) (s : Same H H') : Mdl H' p m c n ss := by
  obtain ⟨q, ws, h1, h2, h3⟩ := h
  exact ⟨q, ws, s _ _ h1, s _ _ h2, h3.same s⟩
theorem step_ref {H : Hp} {s : Step} {v : V} (h : Rp H s.d v) : ∃ a, v = .ref a := by
  cases s <;> (obtain ⟨a, _, e, _⟩ := h; exact ⟨a, e⟩)
/-- a list of steps is not where the draws are -/
theorem steps_ne {D : DD} {H : Hp} {q : Addr} {ss : List Step} {ws : List V} (dr : Drw D H) (h : H q = some (.lst ws)) (hl : RpL H (ss.map Step.d) ws) : q ≠ D.d := fun e => by
  obtain ⟨⟨k, h1, _⟩, _⟩ := dr
  rw [e, h1] at h
  cases h
  obtain ⟨d, h1, h2⟩ := hl.at (i := 1) (v := .int k) rfl
  rw [List.getElem?_map] at h1
  obtain ⟨s, _, rfl⟩ := Option.map_eq_some_iff.mp h1
  obtain ⟨a, e⟩ := step_ref h2
  cases e
theorem ints_ne {D : DD} {H : Hp} {q : Addr} {xs : List Int} (dr : Drw D H) (h : H q = some (.lst (xs.map V.int))) : q ≠ D.d := fun e => by
  obtain ⟨⟨k, h1, _⟩, _⟩ := dr
  rw [e, h1] at h
  cases xs with
  | nil => cases h
  | cons x r => cases h
theorem Mdl.ds {D : DD} {H H' : Hp} {p : Addr} {m c n : Int} {ss : List Step} (h : Mdl H p m c n ss) (dr : Drw D H) (s : Ds D H H') : Mdl H' p m c n ss := by
  obtain ⟨q, ws, h1, h2, h3⟩ := h
  refine ⟨q, ws, s.kp _ _ (fun e => ?_) h1, s.kp _ _ (steps_ne dr h2 h3) h2, h3.tk (Ds.tk dr s) (steps_flat ss)⟩
  obtain ⟨⟨k, h4, _⟩, _⟩ := dr
  rw [e, h4] at h1
  cases h1
theorem ints_ds {D : DD} {H H' : Hp} {q : Addr} {xs : List Int} (dr : Drw D H) (s : Ds D H H') (h : H q = some (.lst (xs.map V.int))) : H' q = some (.lst (xs.map V.int)) := s.kp _ _ (ints_ne dr h) h
structure Vp (m c n : Int) (ss : List Step) : Prop where
  m2 : 2 ≤ m
  m9 : m ≤ 1000000000
  c1 : 1 ≤ c
  c9 : c ≤ 60
  n1 : 0 ≤ n
  n9 : n ≤ 60
  le : ss.length ≤ 20000
  ok : ∀ s ∈ ss, s.ok m c n
  pr : (∃ s ∈ ss, s.isTable = true) → Pr m
theorem Vp.inverse {m c n : Int} {ss : List Step} (h : Vp m c n ss) : Vp m c n (Bf.inverse m ss) :=
  { h with
    le := by rw [inverse_len]; exact h.le
    ok := inverse_ok h.m2 h.ok
    pr := fun ⟨s, h1, h2⟩ => h.pr (by
      unfold Bf.inverse at h1
      rw [List.mem_reverse] at h1
      obtain ⟨x, hx, rfl⟩ := List.mem_map.mp h1
      exact ⟨x, hx, by rwa [Step.inv_table] at h2⟩) }
theorem Vp.take {m c n : Int} {ss : List Step} (h : Vp m c n ss) (k : Nat) : Vp m c n (ss.take k) :=
  { h with
    le := by
      have := h.le
      rw [List.length_take]
      omega
    ok := fun s hs => h.ok s (List.mem_of_mem_take hs)
    pr := fun ⟨s, h1, h2⟩ => h.pr ⟨s, List.mem_of_mem_take h1, h2⟩ }
def spProgramD : Sp := fun vs H Q _ => ∃ (D : DD) (most : Int), vs = [.ref D.d, .int most] ∧ Drw D H ∧ 0 ≤ most ∧ most ≤ 100 ∧ ∀ (p : Addr) (m c n : Int) (ss : List Step) H', Vp m c n ss → (ss.length : Int) ≤ most → Mdl H' p m c n ss → Ds D H H' → Q (.ref p) H'
def spMemory : Sp := fun vs H Q _ => ∃ (D : DD) (p : Addr) (m c n : Int) (ss : List Step), vs = [.ref D.d, .ref p] ∧ Drw D H ∧ Mdl H p m c n ss ∧ Vp m c n ss ∧ ∀ (q : Addr) (xs : List Int) H', H q = none → Ds D H H' → H' q = some (.lst (xs.map V.int)) → Mem m c xs → Q (.ref q) H'
def spGiven : Sp := fun vs H Q _ => ∃ (D : DD) (p : Addr) (m c n : Int) (ss : List Step), vs = [.ref D.d, .ref p] ∧ Drw D H ∧ Mdl H p m c n ss ∧ Vp m c n ss ∧ ∀ (q : Addr) (xs : List Int) H', H q = none → Ds D H H' → H' q = some (.lst (xs.map V.int)) → Mem m n xs → Q (.ref q) H'
/-! ### equality -/
mutual
def Dt.wid : Dt → Nat
  | .t ls => max ls.length (Dt.wids ls)
  | .l ls => max ls.length (Dt.wids ls)
  | _ => 0
def Dt.wids : List Dt → Nat
  | [] => 0
  | d :: r => max d.wid (Dt.wids r)
end
theorem wids_mem {k : Nat} : ∀ {ds : List Dt} {d : Dt} {i : Nat}, Dt.wids ds ≤ k → ds[i]? = some d → d.wid ≤ k
  | [], _, _, _, h => by simp at h
  | x :: r, d, 0, hk, h => by
    simp at h
    subst h
    rw [Dt.wids] at hk
    omega
  | x :: r, d, i + 1, hk, h => by
    rw [Dt.wids] at hk
    exact wids_mem (ds := r) (i := i) (by omega) (by simpa using h)
theorem wids_map {α : Type} {f : α → Dt} {k : Nat} : ∀ {l : List α}, (∀ x ∈ l, (f x).wid ≤ k) → Dt.wids (l.map f) ≤ k
  | [], _ => Nat.zero_le _
  | x :: r, h => by
    rw [List.map_cons, Dt.wids]
    have h1 := h x List.mem_cons_self
    have h2 := wids_map (f := f) (l := r) fun y hy => h y (List.mem_cons_of_mem _ hy)
    omega
theorem deps_map {α : Type} {f : α → Dt} {k : Nat} : ∀ {l : List α}, (∀ x ∈ l, (f x).dep ≤ k) → Dt.deps (l.map f) ≤ k
  | [], _ => Nat.zero_le _
  | x :: r, h => by
    rw [List.map_cons, Dt.deps]
    have h1 := h x List.mem_cons_self
    have h2 := deps_map (f := f) (l := r) fun y hy => h y (List.mem_cons_of_mem _ hy)
    omega
theorem step_dep : ∀ s : Step, s.d.dep ≤ 3
  | .add t k fs => by
    have h := deps_map (f := Fac.d) (k := 1) (l := fs) fun f _ => by cases f <;> exact Nat.le_refl _
    show (max _ (max _ (max _ (max (Dt.deps (fs.map Fac.d) + 1) _)))) + 1 ≤ 3
    simp only [Dt.dep, Dt.deps]
    omega
  | .scale t k => Nat.le_of_ble_eq_true rfl
  | .swap a b => Nat.le_of_ble_eq_true rfl
  | .table t s tb a b => by
    have h : Dt.deps (tb.map fun r => Dt.t (r.map .i)) ≤ 1 := deps_map fun r _ => by
      have := deps_map (f := Dt.i) (k := 0) (l := r) fun x _ => Nat.le_refl _
      show Dt.deps (r.map .i) + 1 ≤ 1
      omega
    show (max _ (max _ (max _ (max (Dt.deps (tb.map fun r => Dt.t (r.map .i)) + 1) _)))) + 1 ≤ 3
    simp only [Dt.dep, Dt.deps]
    omega
theorem ints_wid (l : List Int) : Dt.wids (l.map Dt.i) ≤ 0 := wids_map fun _ _ => Nat.le_refl _
theorem step_wid {m c n : Int} : ∀ {s : Step}, s.ok m c n → s.d.wid ≤ 1000000
  | .add t k fs, h => by
    have h1 := wids_map (f := Fac.d) (k := 2) (l := fs) fun f _ => by cases f <;> exact Nat.le_refl _
    have h2 := h.2.2.1
    show max 4 (max _ (max _ (max _ (max (max (fs.map Fac.d).length (Dt.wids (fs.map Fac.d))) _)))) ≤ _
    simp only [Dt.wid, Dt.wids, List.length_map]
    omega
  | .scale t k, _ => by show max 3 _ ≤ _; simp only [Dt.wid, Dt.wids]; omega
  | .swap a b, _ => by show max 3 _ ≤ _; simp only [Dt.wid, Dt.wids]; omega
  | .table t s tb a b, h => by
    have hsz := h.sz
    have h1 : Dt.wids (tb.map fun r => Dt.t (r.map .i)) ≤ 1000000 := wids_map fun r hr => by
      have := ints_wid r
      have := h.tab.sq r hr
      show max (r.map Dt.i).length (Dt.wids (r.map .i)) ≤ _
      rw [List.length_map]
      omega
    show max 6 (max _ (max _ (max _ (max (max (tb.map _).length (Dt.wids (tb.map fun r => Dt.t (r.map .i)))) _)))) ≤ _
    simp only [Dt.wid, Dt.wids, List.length_map]
    omega
def spEq (k : Nat) : Sp := fun vs H Q _ => ∃ (d : Dt) (a b : V), vs = [a, b] ∧ Rp H d a ∧ Rp H d b ∧ d.dep ≤ k ∧ d.wid ≤ 1000000 ∧ Q (.bl true) H
def spAllEq (k : Nat) : Sp := fun vs H Q _ => ∃ (ds : List Dt) (p q : Addr) (as bs : List V), vs = [.ref p, .ref q] ∧ (H p = some (.lst as) ∨ H p = some (.tup as)) ∧ (H q = some (.lst bs) ∨ H q = some (.tup bs)) ∧ RpL H ds as ∧ RpL H ds bs ∧ Dt.deps ds < k ∧ ds.length ≤ 1000000 ∧ Dt.wids ds ≤ 1000000 ∧ Q (.bl true) H
theorem deps_mem {k : Nat} : ∀ {ds : List Dt} {d : Dt} {i : Nat}, Dt.deps ds ≤ k → ds[i]? = some d → d.dep ≤ k
  | [], _, _, _, h => by simp at h
  | x :: r, d, 0, hk, h => by
    simp at h
    subst h
    rw [Dt.deps] at hk
    omega
  | x :: r, d, i + 1, hk, h => by
    rw [Dt.deps] at hk
    exact deps_mem (ds := r) (i := i) (by omega) (by simpa using h)
theorem n_eq {k : Nat} {d : Dt} {a b : V} {H : Hp} {Q : VK} {E : XK} (ra : Rp H d a) (rb : Rp H d b) (hd : d.dep ≤ k) (hw : d.wid ≤ 1000000) (q : Q (.bl true) H) : spEq k ([a, b] ++ []) H Q E := ⟨d, a, b, rfl, ra, rb, hd, hw, q⟩
end Bf
local macro_rules | `(tactic| walk_at "pfN6") => `(tactic| first | decide +kernel | omega | assumption | rfl | (simp only [List.length_cons, List.length_nil]; omega))
local macro_rules | `(tactic| walk_at "rd1N6") => `(tactic| first
  | with_reducible refine Bf.r_seq ?_
  | with_reducible refine Bf.r_asg ?_
  | with_reducible refine Bf.r_var (by with_unfolding_all rfl) ?_
  | with_reducible refine Bf.r_c ?_
  | with_reducible refine Bf.r_name ?_
  | with_reducible refine Bf.r_ret ?_
  | with_reducible refine Bf.r_op ?_
  | with_reducible refine Bf.r_I0 ?_
  | ((with_reducible refine Bf.r_I ?c ?_); (case c => first | decide | (show (0 : Int) < _; omega) | (refine Or.inl ⟨?_, ?_⟩ <;> omega) | (refine Or.inr ⟨?_, ?_⟩ <;> omega) | (refine And.intro ?_ ?_ <;> omega)))
  | with_reducible refine Bf.r_ifS ?_
  | with_reducible refine Bf.r_test ?_
  | with_reducible refine Bf.r_isbl ?_
  | with_reducible refine Bf.r_eqI ?_
  | with_reducible refine Bf.r_neI ?_
  | with_reducible refine Bf.r_eqS ?_
  | with_reducible refine Bf.r_neS ?_
  | with_reducible refine Bf.r_cons ?_
  | with_reducible refine Bf.r_nil ?_
  | with_reducible refine Bf.r_CB ?_
  | with_reducible refine Bf.r_call ?_
  | with_reducible refine Bf.i_t ?_
  | with_reducible refine Bf.i_f ?_
  | with_reducible refine Bf.i_nt ?_
  | with_reducible refine Bf.i_nf ?_
  | with_reducible refine Bf.r_ixT (by assumption) (by with_unfolding_all rfl) ?_
  | with_reducible refine Bf.r_ixL (by assumption) (by with_unfolding_all rfl) ?_
  | with_reducible refine Bf.r_fld ?_
  | ((with_reducible refine Bf.r_fat (by assumption) ?c ?n (by with_unfolding_all rfl) ?_); (case c => assumption); (case n => assumption))
  | with_reducible refine Bf.r_par ?_
  | with_reducible refine Bf.r_two ?_
  | with_reducible refine Bf.r_aug (by with_unfolding_all rfl) ?_
  | with_reducible refine Bf.r_ip ?_
  | with_reducible refine Bf.r_app (by with_unfolding_all rfl) (by assumption) ?_
  | with_reducible refine Bf.r_next ?_
  | with_reducible refine Bf.r_cont ?_
  | with_reducible refine Bf.r_drop ?_
  | with_reducible refine Bf.r_and ?_
  | with_reducible refine Bf.r_or ?_
  | with_reducible refine Bf.r_not ?_
  | with_reducible refine Bf.r_andV ?_
  | with_reducible refine Bf.r_orV ?_
  | with_reducible refine Bf.r_notV ?_
  | with_reducible refine Bf.r_chain ?_
  | with_reducible refine Bf.r_B ?_
  | with_reducible refine Bf.r_ifE ?_
  | with_reducible refine Bf.r_un ?_
  | with_reducible refine Bf.r_U ?_
  | with_reducible refine Bf.r_tup ?_
  | with_reducible refine Bf.r_lst ?_
  | with_reducible refine Bf.r_lenT (by assumption) ?_
  | with_reducible refine Bf.r_lenL (by assumption) ?_
  | with_reducible refine Bf.r_int ?_
  | with_reducible refine Bf.r_max2 ?_
  | with_reducible refine Bf.r_min2 ?_
  | with_reducible refine Bf.isi_ Bf.ty_i Bf.kb_ii ?_
  | with_reducible refine Bf.isi_ Bf.ty_i Bf.kb_ib ?_
  | with_reducible refine Bf.isi_ Bf.ty_i Bf.kb_is ?_
  | with_reducible refine Bf.isi_ Bf.ty_i Bf.kb_it ?_
  | with_reducible refine Bf.isi_ Bf.ty_i Bf.kb_il ?_
  | with_reducible refine Bf.isi_ Bf.ty_s Bf.kb_si ?_
  | with_reducible refine Bf.isi_ Bf.ty_s Bf.kb_sb ?_
  | with_reducible refine Bf.isi_ Bf.ty_s Bf.kb_ss ?_
  | with_reducible refine Bf.isi_ Bf.ty_s Bf.kb_st ?_
  | with_reducible refine Bf.isi_ Bf.ty_s Bf.kb_sl ?_
  | with_reducible refine Bf.isi_ (Bf.ty_t (by assumption)) Bf.kb_tt ?_
  | with_reducible refine Bf.isi_ (Bf.ty_l (by assumption)) Bf.kb_ll ?_
  | with_reducible refine Bf.isi_ (Bf.ty_t (by assumption)) Bf.kb_tl ?_
  | with_reducible refine Bf.isi_ (Bf.ty_l (by assumption)) Bf.kb_lt ?_
  | with_reducible refine Bf.isi_ Bf.ty_b Bf.kb_bi ?_
  | with_reducible refine Bf.isi_ Bf.ty_b Bf.kb_bb ?_
  | with_reducible refine Bf.isi_ Bf.ty_b Bf.kb_bs ?_
  | with_reducible refine Bf.isi_ Bf.ty_b Bf.kb_bt ?_
  | with_reducible refine Bf.isi_ Bf.ty_b Bf.kb_bL ?_
  | with_reducible refine Bf.isi_ Bf.ty_n Bf.kb_ni ?_
  | with_reducible refine Bf.isi_ Bf.ty_n Bf.kb_nb ?_
  | with_reducible refine Bf.isi_ Bf.ty_n Bf.kb_ns ?_
  | with_reducible refine Bf.isi_ Bf.ty_n Bf.kb_nt ?_
  | with_reducible refine Bf.isi_ Bf.ty_n Bf.kb_nl ?_
  | with_reducible refine Bf.isi_ (Bf.ty_t (by assumption)) Bf.kb_ti ?_
  | with_reducible refine Bf.isi_ (Bf.ty_l (by assumption)) Bf.kb_li ?_
  | with_reducible refine Bf.isi_ (Bf.ty_t (by assumption)) Bf.kb_tb ?_
  | with_reducible refine Bf.isi_ (Bf.ty_l (by assumption)) Bf.kb_lb ?_
  | with_reducible refine Bf.isi_ (Bf.ty_t (by assumption)) Bf.kb_ts ?_
  | with_reducible refine Bf.isi_ (Bf.ty_l (by assumption)) Bf.kb_ls ?_
  | with_reducible refine Bf.r_gtup (by assumption) (by with_unfolding_all rfl) ?_
  | with_reducible refine Bf.r_gcons ?_
  | with_reducible refine Bf.r_gnil ?_
  | with_reducible refine Bf.r_gsub ?_
  | ((with_reducible refine Bf.n_num ?h ?_); (case h => first | assumption | (refine And.intro ?_ ?_ <;> omega)))
  | with_reducible refine Bf.n_isint ?_
  | with_reducible refine Bf.n_mixed ?_
  | with_reducible refine Bf.r_dget ?_
  | with_reducible refine Bf.n_dgetS (by assumption) (by with_unfolding_all rfl) ?_
  | with_reducible refine Bf.r_pcons ?_
  | with_reducible refine Bf.r_pnil ?_
  | with_reducible refine Bf.r_sl ?_
  | with_reducible refine Bf.r_nopart ?_
  | with_reducible refine Bf.r_part ?_
  | with_reducible refine Bf.r_isint ?_
  | with_reducible refine Bf.r_revL ?_
  | with_reducible refine Bf.r_sfld ?_
  | with_reducible refine Bf.r_meth ?_
  | with_reducible refine Bf.n_meth (by assumption) (by with_unfolding_all rfl) ?_
  | with_reducible refine Bf.r_make ?_
  | with_reducible refine Bf.r_turn ?_
  | with_reducible refine Bf.r_wipe (by with_unfolding_all rfl) ?_
  | with_reducible refine Bf.r_yes ?_
  | with_reducible refine Bf.r_tru ?_
  | with_reducible refine Bf.r_ext (by with_unfolding_all rfl) (by assumption) ?_
  | with_reducible refine Bf.r_glst (by assumption) (by with_unfolding_all rfl) ?_
  | with_reducible refine Bf.r_forR3 ?_
  | with_reducible refine Bf.r_lcR2 ?_
  | with_reducible refine Bf.r_lcL ?_
  | with_reducible refine Bf.r_lcT ?_
  | with_reducible refine Bf.r_lcR ?_
  | with_reducible refine Bf.r_forL ?_
  | with_reducible refine Bf.r_forZ ?_
  | with_reducible refine Bf.r_forT ?_
  | with_reducible refine Bf.r_forR ?_
  | with_reducible refine Bf.r_forR2 ?_
  | ((with_reducible refine Bf.i_d1 ?h ?_); (case h => walk_at "pfN6"))
  | ((with_reducible refine Bf.i_d0 ?h ?_); (case h => walk_at "pfN6"))
  | ((with_reducible refine Bf.i_n1 ?h ?_); (case h => walk_at "pfN6"))
  | ((with_reducible refine Bf.i_n0 ?h ?_); (case h => walk_at "pfN6")))
local macro_rules | `(tactic| walk_at "rdN6") => `(tactic| repeat walk_at "rd1N6")
namespace Bf
open PySem L2
abbrev s_Program___init__ : Stmt := inClass (topS 29) 0
theorem bi_Program___init__ : ∀ (kV doc pm : Value) (an : Option Addr) (cdv ct : Value) (us : List Value), us.length = 5 → bindArgs (PySem.W.fnOf "__init__" "Program.__init__" (defArgs s_Program___init__) (defBody s_Program___init__) (defScope s_Program___init__) .none kV doc pm an cdv ct) ⟨us, []⟩ = pure ((["self", "modulus", "cells", "inputs", "steps"] : List Str).zip us) := fun _ _ _ _ _ _ us hl => match us, hl with | [_, _, _, _, _], _ => rfl
theorem sc_Program___init__ : FnScope ["self", "modulus", "cells", "inputs", "steps"] ["self", "modulus", "cells", "inputs", "steps"] (defScope s_Program___init__) := C8.fnScope_by (by decide +kernel)
abbrev s_Program___len__ : Stmt := inClass (topS 29) 1
theorem bi_Program___len__ : ∀ (kV doc pm : Value) (an : Option Addr) (cdv ct : Value) (us : List Value), us.length = 1 → bindArgs (PySem.W.fnOf "__len__" "Program.__len__" (defArgs s_Program___len__) (defBody s_Program___len__) (defScope s_Program___len__) .none kV doc pm an cdv ct) ⟨us, []⟩ = pure ((["self"] : List Str).zip us) := fun _ _ _ _ _ _ us hl => match us, hl with | [_], _ => rfl
theorem sc_Program___len__ : FnScope ["self"] ["self"] (defScope s_Program___len__) := C8.fnScope_by (by decide +kernel)
abbrev s_Program___neg__ : Stmt := inClass (topS 29) 3
theorem bi_Program___neg__ : ∀ (kV doc pm : Value) (an : Option Addr) (cdv ct : Value) (us : List Value), us.length = 1 → bindArgs (PySem.W.fnOf "__neg__" "Program.__neg__" (defArgs s_Program___neg__) (defBody s_Program___neg__) (defScope s_Program___neg__) .none kV doc pm an cdv ct) ⟨us, []⟩ = pure ((["self"] : List Str).zip us) := fun _ _ _ _ _ _ us hl => match us, hl with | [_], _ => rfl
theorem sc_Program___neg__ : FnScope ["self", "steps", "step"] ["self"] (defScope s_Program___neg__) := C8.fnScope_by (by decide +kernel)
abbrev s_Program_run : Stmt := inClass (topS 29) 4
theorem bi_Program_run : ∀ (kV doc pm : Value) (an : Option Addr) (cdv ct : Value) (us : List Value), us.length = 3 → bindArgs (PySem.W.fnOf "run" "Program.run" (defArgs s_Program_run) (defBody s_Program_run) (defScope s_Program_run) .none kV doc pm an cdv ct) ⟨us, []⟩ = pure ((["self", "memory", "given"] : List Str).zip us) := fun _ _ _ _ _ _ us hl => match us, hl with | [_, _, _], _ => rfl
theorem sc_Program_run : FnScope ["self", "memory", "given", "cells", "step"] ["self", "memory", "given"] (defScope s_Program_run) := C8.fnScope_by (by decide +kernel)
abbrev s_Program_part : Stmt := inClass (topS 29) 5
theorem bi_Program_part : ∀ (kV doc pm : Value) (an : Option Addr) (cdv ct : Value) (us : List Value), us.length = 2 → bindArgs (PySem.W.fnOf "part" "Program.part" (defArgs s_Program_part) (defBody s_Program_part) (defScope s_Program_part) .none kV doc pm an cdv ct) ⟨us, []⟩ = pure ((["self", "n"] : List Str).zip us) := fun _ _ _ _ _ _ us hl => match us, hl with | [_, _], _ => rfl
theorem sc_Program_part : FnScope ["self", "n"] ["self", "n"] (defScope s_Program_part) := C8.fnScope_by (by decide +kernel)
abbrev s_Program_called_back : Stmt := inClass (topS 29) 6
theorem bi_Program_called_back : ∀ (kV doc pm : Value) (an : Option Addr) (cdv ct : Value) (us : List Value), us.length = 2 → bindArgs (PySem.W.fnOf "called_back" "Program.called_back" (defArgs s_Program_called_back) (defBody s_Program_called_back) (defScope s_Program_called_back) .none kV doc pm an cdv ct) ⟨us, []⟩ = pure ((["self", "n"] : List Str).zip us) := fun _ _ _ _ _ _ us hl => match us, hl with | [_, _], _ => rfl
theorem sc_Program_called_back : FnScope ["self", "n"] ["self", "n"] (defScope s_Program_called_back) := C8.fnScope_by (by decide +kernel)
/-- the program at a: its fields, its steps in a list of its own -/
def Prg (C : Addr) (H : Hp) (a : Addr) (m c n : Int) (ss : List Step) : Prop := ∃ dx q vs, H a = some (.ins C dx [("modulus", .int m), ("cells", .int c), ("inputs", .int n), ("steps", .ref q)]) ∧ H q = some (.lst vs) ∧ RpL H (ss.map Step.d) vs
theorem Prg.same {C : Addr} {H H' : Hp} {a : Addr} {m c n : Int} {ss : List Step} (h : Prg C H a m c n ss) (s : Same H H') : Prg C H' a m c n ss := by
  obtain ⟨dx, q, vs, h1, h2, h3⟩ := h
  exact ⟨dx, q, vs, s _ _ h1, s _ _ h2, h3.same s⟩
theorem Prg.kp {C : Addr} {H H' : Hp} {a d : Addr} {xs : List V} {m c n : Int} {ss : List Step} (h : Prg C H a m c n ss) (hd : H d = some (.lst xs)) (k : Kp d H H') (hq : ∀ q dx, H a = some (.ins C dx [("modulus", .int m), ("cells", .int c), ("inputs", .int n), ("steps", .ref q)]) → q ≠ d) : Prg C H' a m c n ss := by
  obtain ⟨dx, q, vs, h1, h2, h3⟩ := h
  exact ⟨dx, q, vs, k _ _ (ne_of h1 hd (by intro z; cases z)) h1, k _ _ (hq q dx h1) h2, h3.tk (TK.kp hd k) (steps_flat ss)⟩
structure PgC (K : PySem.W.Frag) (C : Addr) : Prop where
  cls : Cls K C
  mo : NoAttr K C "modulus"
  ce : NoAttr K C "cells"
  inp : NoAttr K C "inputs"
  st : NoAttr K C "steps"
/-- a method of the class at C, of no default -/
structure MetAt (K : PySem.W.Frag) (C : Addr) (m qual : Str) (st : Stmt) : Prop where
  ex : ∃ (f : Addr) (fd : FuncData), FunD K m qual (defArgs st) (defBody st) (defScope st) [] [] f fd ∧ Meth K C m f
structure MakAt (K : PySem.W.Frag) (mg : Str → Option Value) (x : Str) (C : Addr) (qual : Str) (st : Stmt) : Prop where
  ex : ∃ (f : Addr) (fd : FuncData), FunD K "__init__" qual (defArgs st) (defBody st) (defScope st) [] [] f fd ∧ Mk K C f ∧ mg x = some (.ref C)
def spInit (C : Addr) : Sp := fun vs H Q _ => ∃ (x p : Addr) (dx : Addr) (m c n : Int) (ss : List Step) (ws : List V), vs = [.ref x, .int m, .int c, .int n, .ref p] ∧ H x = some (.ins C dx []) ∧ H p = some (.lst ws) ∧ RpL H (ss.map Step.d) ws ∧ Vp m c n ss ∧
  ∀ H', Kp x H H' → Prg C H' x m c n ss → Q .non H'
def spLen (C : Addr) : Sp := fun vs H Q _ => ∃ (x : Addr) (m c n : Int) (ss : List Step), vs = [.ref x] ∧ Prg C H x m c n ss ∧ Q (.int ss.length) H
def spNeg (C : Addr) : Sp := fun vs H Q _ => ∃ (x : Addr) (m c n : Int) (ss : List Step), vs = [.ref x] ∧ Prg C H x m c n ss ∧ Vp m c n ss ∧ ∀ y H', Same H H' → Prg C H' y m c n (Bf.inverse m ss) → Q (.ref y) H'
def spPart (C : Addr) : Sp := fun vs H Q _ => ∃ (x : Addr) (m c n k : Int) (ss : List Step), vs = [.ref x, .int k] ∧ Prg C H x m c n ss ∧ Vp m c n ss ∧ (0 ≤ k ∧ k ≤ ss.length) ∧ ∀ y H', Same H H' → Prg C H' y m c n (ss.take k.toNat) → Q (.ref y) H'
def spBack (C : Addr) : Sp := fun vs H Q _ => ∃ (x : Addr) (m c n k : Int) (ss : List Step), vs = [.ref x, .int k] ∧ Prg C H x m c n ss ∧ Vp m c n ss ∧ (0 ≤ k ∧ k ≤ ss.length) ∧ ∀ y H', Same H H' → Prg C H' y m c n (Bf.inverse m (ss.take k.toNat)) → Q (.ref y) H'
def spRun (C : Addr) : Sp := fun vs H Q _ => ∃ (x l g : Addr) (m c n : Int) (ss : List Step) (mem given : List Int), vs = [.ref x, .ref l, .ref g] ∧ Prg C H x m c n ss ∧ Vp m c n ss ∧ H l = some (.lst (mem.map V.int)) ∧ H g = some (.lst (given.map V.int)) ∧ Mem m c mem ∧ Mem m n given ∧
  ∀ q H', H q = none → Same H H' → H' q = some (.lst ((runs m given mem ss).map V.int)) → Q (.ref q) H'
section
variable {P : Program} {w : World} {K : PySem.W.Frag} {mg : Str → Option Value} {base : Heap}
theorem met_of {m qual : Str} {C : Addr} {st : Stmt} {N ps : List Str} {k : Nat} {sp : Sp} (G : PgC K C) (F : MetAt K C m qual st) (S : FnScope N ps (defScope st))
    (b : ∀ (kV doc pm : Value) (an : Option Addr) (cdv ct : Value) (us : List Value), us.length = ps.length → bindArgs (PySem.W.fnOf m qual (defArgs st) (defBody st) (defScope st) .none kV doc pm an cdv ct) ⟨us, []⟩ = pure (ps.zip us))
    (len : ∀ vs H Q E, sp vs H Q E → vs.length = ps.length)
    (hbody : ∀ (f : Addr) (cdv : Value) (A : Around) (outer : List Env) (s : Shared) (H : Hp) (vs : List V) (Q : VK) (E : XK), Room k (A.deeper (PyProof.Rows.envOfC qual (defScope st) s.heap.objs.size f cdv)) → sp vs H Q E →
      ∃ t, PSs (cxOf CX0 P w K mg base N qual (defScope st) f cdv A outer s H E).nox (defBody st) t ∧ t ⟨fun _ H' => Q .non H', Q, fun _ _ => False, fun _ _ => False⟩ (start N vs) H) : C8.Met P w K mg base (k + 1) C m sp [] := by
  obtain ⟨f, fd, D, me⟩ := F.ex
  refine ⟨f, fd, ps, [], G.cls, me, FunD.ok D S len fun cdv A outer s H vs Q E hr h => ?_, FunD.bindsN D b, .nil⟩
  obtain ⟨t, h1, h2⟩ := hbody f cdv A outer s H vs Q E hr h
  exact ⟨t, h1.nox, h2⟩
theorem mak_of {x qual : Str} {C : Addr} {st : Stmt} {N ps : List Str} {k : Nat} {sp : Sp} (F : MakAt K mg x C qual st) (S : FnScope N ps (defScope st))
    (b : ∀ (kV doc pm : Value) (an : Option Addr) (cdv ct : Value) (us : List Value), us.length = ps.length → bindArgs (PySem.W.fnOf "__init__" qual (defArgs st) (defBody st) (defScope st) .none kV doc pm an cdv ct) ⟨us, []⟩ = pure (ps.zip us))
    (len : ∀ vs H Q E, sp vs H Q E → vs.length = ps.length)
    (hbody : ∀ (f : Addr) (cdv : Value) (A : Around) (outer : List Env) (s : Shared) (H : Hp) (vs : List V) (Q : VK) (E : XK), Room k (A.deeper (PyProof.Rows.envOfC qual (defScope st) s.heap.objs.size f cdv)) → sp vs H Q E →
      ∃ t, PSs (cxOf CX0 P w K mg base N qual (defScope st) f cdv A outer s H E).nox (defBody st) t ∧ t ⟨fun _ H' => Q .non H', Q, fun _ _ => False, fun _ _ => False⟩ (start N vs) H) : C8.Mak P w K mg base (k + 1) x C sp [] := by
  obtain ⟨f, fd, D, me, hm⟩ := F.ex
  refine ⟨f, fd, ps, [], me, FunD.ok D S len fun cdv A outer s H vs Q E hr h => ?_, hm, FunD.bindsN D b, .nil⟩
  obtain ⟨t, h1, h2⟩ := hbody f cdv A outer s H vs Q E hr h
  exact ⟨t, h1.nox, h2⟩
variable {C : Addr}
theorem mak_Program (T : Gs mg) (G : PgC K C) (c_is_integer : C8.Cal P w K mg base 1 "is_integer" spIsInt []) (c_check_steps : C8.Cal P w K mg base 6 "check_steps" spCheck []) (F : MakAt K mg "Program" C "Program.__init__" s_Program___init__) : C8.Mak P w K mg base 7 "Program" C (spInit C) [] := by
  refine mak_of F sc_Program___init__ bi_Program___init__ (fun vs H Q E h => ?_) (fun f cdv A outer s H vs Q E hr h => ?_)
  · obtain ⟨x, p, dx, m, c, n, ss, ws, rfl, _⟩ := h
    rfl
  · refine ⟨_, (pss_cons (ps_if (PW.pt (pw_or (pt_not (pt_val (C8.pe_c c_is_integer hr (by first | decide | omega) rfl (pa_cons (pv 1) pa_nil)))) (pw_or1 (pt_not (pt_chain op_le op_le pe_int (pv 1) (C8.pe_gc rfl T.c_MODULUS)))))) (pss_one (ps_never)) pss_nil)
      (pss_cons (ps_if (PW.pt (pw_or (pt_not (pt_val (C8.pe_c c_is_integer hr (by first | decide | omega) rfl (pa_cons (pv 2) pa_nil)))) (pw_or1 (pt_not (pt_chain op_le op_le pe_int (pv 2) (C8.pe_gc rfl T.c_CELLS)))))) (pss_one (ps_never)) pss_nil)
      (pss_cons (ps_if (PW.pt (pw_or (pt_not (pt_val (C8.pe_c c_is_integer hr (by first | decide | omega) rfl (pa_cons (pv 3) pa_nil)))) (pw_or1 (pt_not (pt_chain op_le op_le pe_int (pv 3) (C8.pe_gc rfl T.c_INPUTS)))))) (pss_one (ps_never)) pss_nil)
      (pss_cons (ps_expr (C8.pe_c c_check_steps hr (by first | decide | omega) rfl (pa_cons (pv 4) (pa_cons (pv 1) (pa_cons (pv 2) (pa_cons (pv 3) (pa_cons (C8.pe_gc rfl T.c_STEPS) pa_nil)))))))
      (pss_cons (ps_fld (pv 0) (pv 1) rfl)
      (pss_cons (ps_fld (pv 0) (pv 2) rfl)
      (pss_cons (ps_fld (pv 0) (pv 3) rfl)
      (pss_one (ps_fld (pv 0) (pe_callTy b_list (by rfl) T.n_list (by decide +kernel) (pa_cons (pv 4) pa_nil)) rfl))))))))), ?_⟩
    obtain ⟨x, p, dx, m, c, n, ss, ws, rfl, hx, hp, hl, vp, k⟩ := h
    have m2 := vp.m2
    have m9 := vp.m9
    have c1 := vp.c1
    have c9 := vp.c9
    have n1 := vp.n1
    have n9 := vp.n9
    walk_at "rdN6"
    refine ⟨ss, m, c, n, _, p, ws, rfl, hp, hl, vp.ok, m2, m9, by have := vp.le; omega, vp.pr, fun H1 s1 => ?_⟩
    walk_at "rdN6"
    refine n_sfld (s1 _ _ hx) G.cls G.mo (by decide) fun H2 k2 h2 => ?_
    walk_at "rdN6"
    refine n_sfld h2 G.cls G.ce (Nat.le_of_ble_eq_true rfl) fun H3 k3 h3 => ?_
    replace h3 : H3 x = some (.ins C dx [("modulus", .int m), ("cells", .int c)]) := by with_unfolding_all exact h3
    walk_at "rdN6"
    refine n_sfld h3 G.cls G.inp (Nat.le_of_ble_eq_true rfl) fun H4 k4 h4 => ?_
    replace h4 : H4 x = some (.ins C dx [("modulus", .int m), ("cells", .int c), ("inputs", .int n)]) := by with_unfolding_all exact h4
    walk_at "rdN6"
    have kk : Kp x H H4 := ((Kp.of s1).trans (k2.trans k3)).trans k4
    have hpx : p ≠ x := ne_of hp hx (by intro z; cases z)
    have hp4 := kk _ _ hpx hp
    have hl4 := hl.tk (TK.kpi hx kk) (steps_flat ss)
    refine n_listL hp4 fun q H5 nq s5 hq => ?_
    walk_at "rdN6"
    refine n_sfld (s5 _ _ h4) G.cls G.st (Nat.le_of_ble_eq_true rfl) fun H6 k6 h6 => ?_
    replace h6 : H6 x = some (.ins C dx [("modulus", .int m), ("cells", .int c), ("inputs", .int n), ("steps", .ref q)]) := by with_unfolding_all exact h6
    walk_at "rdN6"
    have hxq : q ≠ x := fun e => by rw [e, h4] at nq; cases nq
    exact k _ (kk.trans ((Kp.of s5).trans k6)) ⟨dx, q, ws, h6, k6 _ _ hxq hq, (hl4.same s5).tk (TK.kpi (s5 _ _ h4) k6) (steps_flat ss)⟩
theorem n_mk {vs : List V} {H : Hp} {Q : VK} {p : Addr} {m c n : Int} {ss : List Step} {ws : List V} (e : vs = [.int m, .int c, .int n, .ref p]) (hp : H p = some (.lst ws)) (hl : RpL H (ss.map Step.d) ws) (vp : Vp m c n ss)
    (k : ∀ x H', H x = none → Same H H' → Prg C H' x m c n ss → Q (.ref x) H') : rMake C (spInit C) [] C8.E0 vs H Q :=
  n_make fun x dx H1 nx s1 hx => ⟨x, p, dx, m, c, n, ss, ws, by subst e; rfl, hx, s1 _ _ hp, hl.same s1, vp, fun H2 k2 pr => ⟨rfl, k x H2 nx (same_kp nx s1 k2) pr⟩⟩
theorem met_len (T : Gs mg) (G : PgC K C) (F : MetAt K C "__len__" "Program.__len__" s_Program___len__) : C8.Met P w K mg base 1 C "__len__" (spLen C) [] := by
  refine met_of G F sc_Program___len__ bi_Program___len__ (fun vs H Q E h => ?_) (fun f cdv A outer s H vs Q E hr h => ?_)
  · obtain ⟨x, m, c, n, ss, rfl, _⟩ := h
    rfl
  · refine ⟨_, (pss_one (ps_ret (pe_callB b_len (by rfl) T.n_len PySem.boot_len (pa_cons (pe_fld (pv 0) rfl) pa_nil)))), ?_⟩
    obtain ⟨x, m, c, n, ss, rfl, ⟨dx, q, ws, hx, hq, hl⟩, k⟩ := h
    have hlen := hl.len
    rw [List.length_map] at hlen
    have g1 := G.cls
    have g2 := G.st
    walk_at "rdN6"
    rw [hlen]
    exact k
theorem met_part (T : Gs mg) (G : PgC K C) (c_is_integer : C8.Cal P w K mg base 1 "is_integer" spIsInt []) (c_Program : C8.Mak P w K mg base 7 "Program" C (spInit C) []) (F : MetAt K C "part" "Program.part" s_Program_part) : C8.Met P w K mg base 9 C "part" (spPart C) [] := by
  refine met_of G F sc_Program_part bi_Program_part (fun vs H Q E h => ?_) (fun f cdv A outer s H vs Q E hr h => ?_)
  · obtain ⟨x, m, c, n, k, ss, rfl, _⟩ := h
    rfl
  · refine ⟨_, (pss_cons (ps_if (PW.pt (pw_or (pt_not (pt_val (C8.pe_c c_is_integer hr (by first | decide | omega) rfl (pa_cons (pv 1) pa_nil)))) (pw_or1 (pt_not (pt_chain op_le op_le pe_int (pv 1) (pe_callB b_len (by rfl) T.n_len PySem.boot_len (pa_cons (pe_fld (pv 0) rfl) pa_nil))))))) (pss_one (ps_never)) pss_nil)
      (pss_one (ps_ret (C8.pe_mk c_Program hr (by first | decide | omega) rfl (pa_cons (pe_fld (pv 0) rfl) (pa_cons (pe_fld (pv 0) rfl) (pa_cons (pe_fld (pv 0) rfl) (pa_cons (pe_slice sl_list (pe_fld (pv 0) rfl) po_none (po_some (pv 1))) pa_nil)))))))), ?_⟩
    obtain ⟨x, m, c, n, kk, ss, rfl, ⟨dx, q, ws, hx, hq, hl⟩, vp, ⟨k0, k1⟩, k⟩ := h
    have hlen := hl.len
    rw [List.length_map] at hlen
    have g1 := G.cls
    have g2 := G.st
    have g3 := G.mo
    have g4 := G.ce
    have g5 := G.inp
    rw [← hlen] at k1
    walk_at "rdN6"
    refine n_slL hq (cut_to k0) fun r H1 nr s1 hr1 => ?_
    replace hx := s1 _ _ hx
    walk_at "rdN6"
    refine n_mk rfl hr1 ?_ (vp.take _) fun y H2 ny s2 pr => k y H2 (s1.trans s2) pr
    rw [List.map_take]
    exact (hl.take _).same s1
theorem met_neg (T : Gs mg) (G : PgC K C) (c_inverse_step : C8.Cal P w K mg base 2 "inverse_step" spInvStep []) (c_Program : C8.Mak P w K mg base 7 "Program" C (spInit C) []) (F : MetAt K C "__neg__" "Program.__neg__" s_Program___neg__) : C8.Met P w K mg base 9 C "__neg__" (spNeg C) [] := by
  refine met_of G F sc_Program___neg__ bi_Program___neg__ (fun vs H Q E h => ?_) (fun f cdv A outer s H vs Q E hr h => ?_)
  · obtain ⟨x, m, c, n, ss, rfl, _⟩ := h
    rfl
  · refine ⟨_, (pss_cons (ps_setLc (i := 1) (own := [("step", 2)]) (g := gName 2) (tt := tYes) rfl sc_Program___neg__.nd rfl rfl (sw_true rfl rfl rfl (by decide +kernel)) (pi_list (pe_fld (pv 0) rfl)) (blkOk_by (by first | decide +kernel | kernel_rfl)) (fun _ _ _ _ _ => pg_name (i := 2) sc_Program___neg__.nd rfl (by first | exact Or.inl rfl | exact Or.inr rfl)) (fun _ _ _ _ _ => pts_nil) (fun _ _ _ _ _ => (C8.pe_c c_inverse_step hr (by first | decide | omega) rfl (pa_cons (pv 2) (pa_cons (pe_fldK (K := K) rfl (pv 0) rfl) pa_nil)))))
      (pss_one (ps_ret (C8.pe_mk c_Program hr (by first | decide | omega) rfl (pa_cons (pe_fld (pv 0) rfl) (pa_cons (pe_fld (pv 0) rfl) (pa_cons (pe_fld (pv 0) rfl) (pa_cons (pe_revL (pv 1)) pa_nil)))))))), ?_⟩
    obtain ⟨x, m, c, n, ss, rfl, ⟨dx, q, ws, hx, hq, hl⟩, vp, k⟩ := h
    have hlen := hl.len
    rw [List.length_map] at hlen
    have g1 := G.cls
    have g2 := G.st
    have g3 := G.mo
    have g4 := G.ce
    have g5 := G.inp
    walk_at "rdN6"
    refine n_lcL hq fun D H0 nD s0 hD => ⟨fun i H' => ∃ acc, Same H H' ∧ H' D = some (.lst acc) ∧ RpL H' ((ss.take i).map fun s => (s.inv m).d) acc, ⟨[], s0, hD, rfl⟩, fun i H' h => ?_, fun i y H' hy h => ?_, fun H' h => ?_⟩
    · obtain ⟨acc, s1, _⟩ := h
      exact s1 _ _ hq
    · obtain ⟨acc, s1, hacc, hra⟩ := h
      obtain ⟨df, hdf, hfv⟩ := hl.at hy
      obtain ⟨st, hst, rfl⟩ := Option.map_eq_some_iff.mp (by rwa [List.getElem?_map] at hdf)
      have hx1 := s1 _ _ hx
      walk_at "rdN6"
      refine ⟨st, m, c, n, y, rfl, hfv.same s1, vp.ok _ (List.mem_of_getElem? hst), vp.m2, vp.m9, fun v' H2 s2 hv' => ?_⟩
      have hal := hra.len
      refine n_acc (s2 _ _ hacc) (by
        rw [hal, List.length_map, List.length_take]
        have := vp.le
        have : sizeLine = 2 ^ 24 := rfl
        omega) fun H3 k3 h3 => ⟨_, same_kp nD (s1.trans s2) k3, h3, ?_⟩
      rw [take_snoc hst, List.map_append]
      have fl := flats_map (f := fun s : Step => (s.inv m).d) (fun s => step_flat _) (ss.take i ++ [st])
      rw [List.map_append] at fl
      exact ((hra.same s2).snoc hv').tk (TK.kp (s2 _ _ hacc) k3) fl
    · obtain ⟨acc, s1, hacc, hra⟩ := h
      rw [show ws.length = ss.length from hlen, List.take_length] at hra
      replace hx := s1 _ _ hx
      walk_at "rdN6"
      refine n_revL hacc fun r H1 nr s2 hr1 => ?_
      refine n_mk rfl hr1 ?_ vp.inverse fun y H2 ny s3 pr => k y H2 (s1.trans (s2.trans s3)) pr
      unfold Bf.inverse
      rw [List.map_reverse, List.map_map]
      exact (hra.rev).same s2
theorem met_back (T : Gs mg) (G : PgC K C) (m_part : C8.Met P w K mg base 9 C "part" (spPart C) []) (m___neg__ : C8.Met P w K mg base 9 C "__neg__" (spNeg C) []) (F : MetAt K C "called_back" "Program.called_back" s_Program_called_back) : C8.Met P w K mg base 10 C "called_back" (spBack C) [] := by
  refine met_of G F sc_Program_called_back bi_Program_called_back (fun vs H Q E h => ?_) (fun f cdv A outer s H vs Q E hr h => ?_)
  · obtain ⟨x, m, c, n, k, ss, rfl, _⟩ := h
    rfl
  · refine ⟨_, (pss_one (ps_ret (pe_un (un_own m___neg__ hr (by decide)) (C8.pe_mt m_part hr (by first | decide | omega) (pv 0) (pa_cons (pv 1) pa_nil))))), ?_⟩
    obtain ⟨x, m, c, n, kk, ss, rfl, pr, vp, ⟨k0, k1⟩, k⟩ := h
    have pr0 := pr
    obtain ⟨dx, q, ws, hx, hq, hl⟩ := pr
    walk_at "rdN6"
    refine ⟨x, m, c, n, kk, ss, rfl, pr0, vp, ⟨k0, k1⟩, fun y H1 s1 pr1 => ?_⟩
    have pr2 := pr1
    obtain ⟨dx1, q1, ws1, hx1, _⟩ := pr1
    exact ⟨y, dx1, _, rfl, hx1, y, m, c, n, _, rfl, pr2, vp.take _, fun z H2 s2 pr3 => k z H2 (s1.trans s2) pr3⟩
theorem met_run (T : Gs mg) (G : PgC K C) (c_check_numbers : C8.Cal P w K mg base 3 "check_numbers" spNums []) (c_perform : C8.Cal P w K mg base 4 "perform" spPerf []) (F : MetAt K C "run" "Program.run" s_Program_run) : C8.Met P w K mg base 5 C "run" (spRun C) [] := by
  refine met_of G F sc_Program_run bi_Program_run (fun vs H Q E h => ?_) (fun f cdv A outer s H vs Q E hr h => ?_)
  · obtain ⟨x, l, g, m, c, n, ss, mem, given, rfl, _⟩ := h
    rfl
  · refine ⟨_, (pss_cons (ps_expr (C8.pe_c c_check_numbers hr (by first | decide | omega) rfl (pa_cons (pv 1) (pa_cons (pe_fld (pv 0) rfl) (pa_cons (pe_fld (pv 0) rfl) pa_nil)))))
      (pss_cons (ps_expr (C8.pe_c c_check_numbers hr (by first | decide | omega) rfl (pa_cons (pv 2) (pa_cons (pe_fld (pv 0) rfl) (pa_cons (pe_fld (pv 0) rfl) pa_nil)))))
      (pss_cons (ps_set (i := 3) sc_Program_run.nd rfl (by first | exact Or.inl rfl | exact Or.inr rfl) (pe_callTy b_list (by rfl) T.n_list (by decide +kernel) (pa_cons (pv 1) pa_nil)))
      (pss_cons (ps_for PassesOwn.never rfl (pi_list (pe_fld (pv 0) rfl)) (pg_name (i := 4) sc_Program_run.nd rfl (by first | exact Or.inl rfl | exact Or.inr rfl)) (pss_one (ps_expr (C8.pe_c c_perform hr (by first | decide | omega) rfl (pa_cons (pv 4) (pa_cons (pv 3) (pa_cons (pv 2) (pa_cons (pe_fld (pv 0) rfl) pa_nil))))))))
      (pss_one (ps_ret (pv 3))))))), ?_⟩
    obtain ⟨x, l, g, m, c, n, ss, mem, given, rfl, ⟨dx, q, ws, hx, hq, hl⟩, vp, hm, hg, hM, hG, k⟩ := h
    have hlen := hl.len
    rw [List.length_map] at hlen
    have g1 := G.cls
    have g2 := G.st
    have g3 := G.mo
    have g4 := G.ce
    have g5 := G.inp
    walk_at "rdN6"
    refine ⟨mem, m, c, l, rfl, hm, hM, ?_⟩
    walk_at "rdN6"
    refine ⟨given, m, n, g, rfl, hg, hG, ?_⟩
    walk_at "rdN6"
    refine n_listL hm fun r H1 nr s1 hr1 => ?_
    have hx0 := hx
    replace hx := s1 _ _ hx
    walk_at "rdN6"
    refine n_forL (fun i σ H' => ∃ u1 : Option V, σ = [some (.ref x), some (.ref l), some (.ref g), some (.ref r), u1] ∧ Same H H' ∧ H' r = some (.lst ((runs m given mem (ss.take i)).map V.int))) (s1 _ _ hq) ⟨_, rfl, s1, hr1⟩ (fun i σ H' _ h => by obtain ⟨_, _, s2, _⟩ := h; exact SqL.of (s2 _ _ hq)) ?_ ?_
    · rintro i y σ H' hy ⟨u1, rfl, s2, hr2⟩
      have hx2 : H' x = some (.ins C dx [("modulus", .int m), ("cells", .int c), ("inputs", .int n), ("steps", .ref q)]) := s2 _ _ hx0
      obtain ⟨df, hdf, hfv⟩ := hl.at hy
      obtain ⟨st, hst, rfl⟩ := Option.map_eq_some_iff.mp (by rwa [List.getElem?_map] at hdf)
      have hok := vp.ok _ (List.mem_of_getElem? hst)
      walk_at "rdN6"
      refine ⟨st, m, c, n, y, r, g, runs m given mem (ss.take i), given, rfl, hfv.same s2, hok, vp.m2, vp.m9, hr2, s2 _ _ hg, runs_mem vp.m2 hM (fun s hs => vp.ok s (List.mem_of_mem_take hs)), hG, fun H3 k3 h3 => ?_⟩
      walk_at "rdN6"
      refine ⟨_, rfl, same_kp nr s2 k3, ?_⟩
      have e : runs m given mem (ss.take (i + 1)) = perf m given (runs m given mem (ss.take i)) st := foldl_take _ _ hst
      rw [h3, e]
    · rintro σ H' ⟨u1, rfl, s2, hr2⟩
      rw [show ws.length = ss.length from hlen, List.take_length] at hr2
      walk_at "rdN6"
      exact k r H' nr s2 hr2
end
end Bf
/-! the program's methods, as the law calls them -/
namespace Bf
open PySem L2
theorem Prg.ds {C : Addr} {D : DD} {H H' : Hp} {x : Addr} {m c n : Int} {ss : List Step} (h : Prg C H x m c n ss) (dr : Drw D H) (s : Ds D H H') : Prg C H' x m c n ss := by
  obtain ⟨dx, q, ws, h1, h2, h3⟩ := h
  refine ⟨dx, q, ws, s.kp _ _ (fun e => ?_) h1, s.kp _ _ (steps_ne dr h2 h3) h2, h3.tk (Ds.tk dr s) (steps_flat ss)⟩
  obtain ⟨⟨k, h4, _⟩, _⟩ := dr
  rw [e, h4] at h1
  cases h1
section
variable {K : PySem.W.Frag} {C : Addr} {σ : St} {H : Hp} {Q : VK} {x la lg : Addr} {m c n : Int} {ss : List Step} {mem given : List Int} {i j g : Nat}
theorem n_methP {nm : Str} {sp : Sp} {ts : TA} {E : XK} (pr : Prg C H x m c n ss) (l : ∀ q, List.lookup nm [("modulus", V.int m), ("cells", .int c), ("inputs", .int n), ("steps", .ref q)] = none) (k : ts σ H fun vs H2 => sp (.ref x :: (vs ++ [])) H2 Q E) : rMeth C nm sp [] E ts σ (.ref x) H Q := by
  obtain ⟨dx, q, ws, h1, h2, h3⟩ := pr
  exact n_meth h1 (l q) k
theorem n_run (pr : Prg C H x m c n ss) (vp : Vp m c n ss) (ha : σ[j]? = some (some (.ref la))) (hb : σ[g]? = some (some (.ref lg))) (hla : H la = some (.lst (mem.map V.int))) (hlg : H lg = some (.lst (given.map V.int))) (hM : Mem m c mem) (hG : Mem m n given)
    (k : ∀ q H', Same H H' → H' q = some (.lst ((runs m given mem ss).map V.int)) → Mem m c (runs m given mem ss) → Q (.ref q) H') :
    rMeth C "run" (spRun C) [] C8.E0 (tCons (tCB (rListOf K) (tCons (tVar j) tNil)) (tCons (tCB (rListOf K) (tCons (tVar g) tNil)) tNil)) σ (.ref x) H Q := by
  refine n_methP pr (fun _ => by with_unfolding_all rfl) ?_
  refine r_cons (r_CB (r_cons (r_var ha (r_nil (n_listL hla fun l1 H1 n1 s1 h1 => ?_)))))
  refine r_cons (r_CB (r_cons (r_var hb (r_nil (n_listL (s1 _ _ hlg) fun l2 H2 n2 s2 h2 => ?_)))))
  exact r_nil ⟨x, l1, l2, m, c, n, ss, mem, given, rfl, pr.same (s1.trans s2), vp, s2 _ _ h1, h2, hM, hG, fun q H3 nq s3 hq => k q H3 (s1.trans (s2.trans s3)) hq (runs_mem vp.m2 hM vp.ok)⟩
theorem n_neg (pr : Prg C H x m c n ss) (vp : Vp m c n ss) (k : ∀ y H', Same H H' → Prg C H' y m c n (Bf.inverse m ss) → Q (.ref y) H') : rNegO C (spNeg C) (.ref x) H Q := by
  have pr0 := pr
  obtain ⟨dx, q, ws, h1, h2, h3⟩ := pr
  exact ⟨x, dx, _, rfl, h1, x, m, c, n, ss, rfl, pr0, vp, k⟩
theorem n_part {v : Int} (pr : Prg C H x m c n ss) (vp : Vp m c n ss) (ha : σ[j]? = some (some (.int v))) (h0 : 0 ≤ v ∧ v ≤ ss.length) (k : ∀ y H', Same H H' → Prg C H' y m c n (ss.take v.toNat) → Q (.ref y) H') : rMeth C "part" (spPart C) [] C8.E0 (tCons (tVar j) tNil) σ (.ref x) H Q := by
  refine n_methP pr (fun _ => by with_unfolding_all rfl) ?_
  exact r_cons (r_var ha (r_nil ⟨x, m, c, n, v, ss, rfl, pr, vp, h0, k⟩))
theorem n_back {v : Int} (pr : Prg C H x m c n ss) (vp : Vp m c n ss) (ha : σ[j]? = some (some (.int v))) (h0 : 0 ≤ v ∧ v ≤ ss.length) (k : ∀ y H', Same H H' → Prg C H' y m c n (Bf.inverse m (ss.take v.toNat)) → Q (.ref y) H') : rMeth C "called_back" (spBack C) [] C8.E0 (tCons (tVar j) tNil) σ (.ref x) H Q := by
  refine n_methP pr (fun _ => by with_unfolding_all rfl) ?_
  exact r_cons (r_var ha (r_nil ⟨x, m, c, n, v, ss, rfl, pr, vp, h0, k⟩))
theorem n_lenP (pr : Prg C H x m c n ss) (hl : ss.length ≤ 1000000) (k : Q (.int ss.length) H) : rLenO C (spLen C) [.ref x] H Q := by
  have pr0 := pr
  obtain ⟨dx, q, ws, h1, h2, h3⟩ := pr
  exact ⟨x, dx, _, rfl, h1, x, m, c, n, ss, rfl, pr0, ss.length, rfl, by omega, k⟩
theorem n_steps {P : V → Prop} (G : PgC K C) (pr : Prg C H x m c n ss) (k : ∀ q ws, H q = some (.lst ws) → RpL H (ss.map Step.d) ws → P (.ref q)) :
    ∃ a' C' dx fs w, V.ref x = .ref a' ∧ H a' = some (.ins C' dx fs) ∧ Cls K C' ∧ NoAttr K C' "steps" ∧ fs.lookup ("steps" : Str) = some w ∧ P w := by
  obtain ⟨dx, q, ws, h1, h2, h3⟩ := pr
  exact ⟨x, C, dx, _, .ref q, rfl, h1, G.cls, G.st, by with_unfolding_all rfl, k q ws h2 h3⟩
theorem steps_wid {l : List Step} (h : ∀ s ∈ l, s.ok m c n) (hl : l.length ≤ 1000000) : (Dt.l (l.map Step.d)).wid ≤ 1000000 := by
  have h1 := wids_map (f := Step.d) (k := 1000000) (l := l) fun s hs => step_wid (h s hs)
  show max (l.map Step.d).length _ ≤ _
  rw [List.length_map]
  omega
theorem steps_dep {l : List Step} : (Dt.l (l.map Step.d)).dep ≤ 4 := by
  have h1 := deps_map (f := Step.d) (k := 3) (l := l) fun s hs => step_dep s
  show Dt.deps _ + 1 ≤ 4
  omega
theorem n_eqI {a b : Addr} {xs : List Int} {E : XK} (ha : H a = some (.lst (xs.map V.int))) (hb : H b = some (.lst (xs.map V.int))) (hl : xs.length ≤ 1000000) (q : Q (.bl true) H) : spEq 4 ([.ref a, .ref b] ++ []) H Q E := by
  refine n_eq (d := .l (xs.map .i)) ⟨a, _, rfl, ha, RpL.ints xs⟩ ⟨b, _, rfl, hb, RpL.ints xs⟩ ?_ ?_ q
  · have := deps_map (f := Dt.i) (k := 0) (l := xs) fun x _ => Nat.le_refl _
    show Dt.deps _ + 1 ≤ 4
    omega
  · have := ints_wid xs
    show max (xs.map Dt.i).length _ ≤ _
    rw [List.length_map]
    omega
theorem n_eqP {a b : Addr} {us ws : List V} {E : XK} (vp : Vp m c n ss) (ha : H a = some (.lst us)) (hb : H b = some (.lst ws)) (h1 : RpL H (ss.map Step.d) us) (h2 : RpL H (ss.map Step.d) ws) (q : Q (.bl true) H) : spEq 4 ([.ref a, .ref b] ++ []) H Q E :=
  n_eq (d := .l (ss.map Step.d)) ⟨a, _, rfl, ha, h1⟩ ⟨b, _, rfl, hb, h2⟩ steps_dep (steps_wid vp.ok (by have := vp.le; omega)) q
end
end Bf
local macro_rules | `(tactic| walk_at "pfL1") => `(tactic| first | decide +kernel | omega | assumption | rfl | (simp only [List.length_cons, List.length_nil]; omega))
local macro_rules | `(tactic| walk_at "rd1L1") => `(tactic| first
  | with_reducible refine Bf.r_seq ?_
  | with_reducible refine Bf.r_asg ?_
  | with_reducible refine Bf.r_var (by with_unfolding_all rfl) ?_
  | with_reducible refine Bf.r_c ?_
  | with_reducible refine Bf.r_name ?_
  | with_reducible refine Bf.r_ret ?_
  | with_reducible refine Bf.r_op ?_
  | with_reducible refine Bf.r_I0 ?_
  | ((with_reducible refine Bf.r_I ?c ?_); (case c => first | decide | (show (0 : Int) < _; omega) | (refine Or.inl ⟨?_, ?_⟩ <;> omega) | (refine Or.inr ⟨?_, ?_⟩ <;> omega) | (refine And.intro ?_ ?_ <;> omega)))
  | with_reducible refine Bf.r_ifS ?_
  | with_reducible refine Bf.r_test ?_
  | with_reducible refine Bf.r_isbl ?_
  | with_reducible refine Bf.r_eqI ?_
  | with_reducible refine Bf.r_neI ?_
  | with_reducible refine Bf.r_eqS ?_
  | with_reducible refine Bf.r_neS ?_
  | with_reducible refine Bf.r_cons ?_
  | with_reducible refine Bf.r_nil ?_
  | with_reducible refine Bf.r_CB ?_
  | with_reducible refine Bf.r_call ?_
  | with_reducible refine Bf.i_t ?_
  | with_reducible refine Bf.i_f ?_
  | with_reducible refine Bf.i_nt ?_
  | with_reducible refine Bf.i_nf ?_
  | with_reducible refine Bf.r_ixT (by assumption) (by with_unfolding_all rfl) ?_
  | with_reducible refine Bf.r_ixL (by assumption) (by with_unfolding_all rfl) ?_
  | with_reducible refine Bf.r_fld ?_
  | ((with_reducible refine Bf.r_fat (by assumption) ?c ?n (by with_unfolding_all rfl) ?_); (case c => assumption); (case n => assumption))
  | with_reducible refine Bf.r_par ?_
  | with_reducible refine Bf.r_two ?_
  | with_reducible refine Bf.r_aug (by with_unfolding_all rfl) ?_
  | with_reducible refine Bf.r_ip ?_
  | with_reducible refine Bf.r_app (by with_unfolding_all rfl) (by assumption) ?_
  | with_reducible refine Bf.r_next ?_
  | with_reducible refine Bf.r_cont ?_
  | with_reducible refine Bf.r_drop ?_
  | with_reducible refine Bf.r_and ?_
  | with_reducible refine Bf.r_or ?_
  | with_reducible refine Bf.r_not ?_
  | with_reducible refine Bf.r_andV ?_
  | with_reducible refine Bf.r_orV ?_
  | with_reducible refine Bf.r_notV ?_
  | with_reducible refine Bf.r_chain ?_
  | with_reducible refine Bf.r_B ?_
  | with_reducible refine Bf.r_ifE ?_
  | with_reducible refine Bf.r_un ?_
  | with_reducible refine Bf.r_U ?_
  | with_reducible refine Bf.r_tup ?_
  | with_reducible refine Bf.r_lst ?_
  | with_reducible refine Bf.r_lenT (by assumption) ?_
  | with_reducible refine Bf.r_lenL (by assumption) ?_
  | with_reducible refine Bf.r_int ?_
  | with_reducible refine Bf.r_max2 ?_
  | with_reducible refine Bf.r_min2 ?_
  | with_reducible refine Bf.isi_ Bf.ty_i Bf.kb_ii ?_
  | with_reducible refine Bf.isi_ Bf.ty_i Bf.kb_ib ?_
  | with_reducible refine Bf.isi_ Bf.ty_i Bf.kb_is ?_
  | with_reducible refine Bf.isi_ Bf.ty_i Bf.kb_it ?_
  | with_reducible refine Bf.isi_ Bf.ty_i Bf.kb_il ?_
  | with_reducible refine Bf.isi_ Bf.ty_s Bf.kb_si ?_
  | with_reducible refine Bf.isi_ Bf.ty_s Bf.kb_sb ?_
  | with_reducible refine Bf.isi_ Bf.ty_s Bf.kb_ss ?_
  | with_reducible refine Bf.isi_ Bf.ty_s Bf.kb_st ?_
  | with_reducible refine Bf.isi_ Bf.ty_s Bf.kb_sl ?_
  | with_reducible refine Bf.isi_ (Bf.ty_t (by assumption)) Bf.kb_tt ?_
  | with_reducible refine Bf.isi_ (Bf.ty_l (by assumption)) Bf.kb_ll ?_
  | with_reducible refine Bf.isi_ (Bf.ty_t (by assumption)) Bf.kb_tl ?_
  | with_reducible refine Bf.isi_ (Bf.ty_l (by assumption)) Bf.kb_lt ?_
  | with_reducible refine Bf.isi_ Bf.ty_b Bf.kb_bi ?_
  | with_reducible refine Bf.isi_ Bf.ty_b Bf.kb_bb ?_
  | with_reducible refine Bf.isi_ Bf.ty_b Bf.kb_bs ?_
  | with_reducible refine Bf.isi_ Bf.ty_b Bf.kb_bt ?_
  | with_reducible refine Bf.isi_ Bf.ty_b Bf.kb_bL ?_
  | with_reducible refine Bf.isi_ Bf.ty_n Bf.kb_ni ?_
  | with_reducible refine Bf.isi_ Bf.ty_n Bf.kb_nb ?_
  | with_reducible refine Bf.isi_ Bf.ty_n Bf.kb_ns ?_
  | with_reducible refine Bf.isi_ Bf.ty_n Bf.kb_nt ?_
  | with_reducible refine Bf.isi_ Bf.ty_n Bf.kb_nl ?_
  | with_reducible refine Bf.isi_ (Bf.ty_t (by assumption)) Bf.kb_ti ?_
  | with_reducible refine Bf.isi_ (Bf.ty_l (by assumption)) Bf.kb_li ?_
  | with_reducible refine Bf.isi_ (Bf.ty_t (by assumption)) Bf.kb_tb ?_
  | with_reducible refine Bf.isi_ (Bf.ty_l (by assumption)) Bf.kb_lb ?_
  | with_reducible refine Bf.isi_ (Bf.ty_t (by assumption)) Bf.kb_ts ?_
  | with_reducible refine Bf.isi_ (Bf.ty_l (by assumption)) Bf.kb_ls ?_
  | with_reducible refine Bf.r_gtup (by assumption) (by with_unfolding_all rfl) ?_
  | with_reducible refine Bf.r_gcons ?_
  | with_reducible refine Bf.r_gnil ?_
  | with_reducible refine Bf.r_gsub ?_
  | ((with_reducible refine Bf.n_num ?h ?_); (case h => first | assumption | (refine And.intro ?_ ?_ <;> omega)))
  | with_reducible refine Bf.n_isint ?_
  | with_reducible refine Bf.n_mixed ?_
  | with_reducible refine Bf.r_dget ?_
  | with_reducible refine Bf.n_dgetS (by assumption) (by with_unfolding_all rfl) ?_
  | with_reducible refine Bf.r_pcons ?_
  | with_reducible refine Bf.r_pnil ?_
  | with_reducible refine Bf.r_sl ?_
  | with_reducible refine Bf.r_nopart ?_
  | with_reducible refine Bf.r_part ?_
  | with_reducible refine Bf.r_isint ?_
  | with_reducible refine Bf.r_revL ?_
  | with_reducible refine Bf.r_sfld ?_
  | with_reducible refine Bf.r_meth ?_
  | with_reducible refine Bf.n_meth (by assumption) (by with_unfolding_all rfl) ?_
  | with_reducible refine Bf.r_make ?_
  | with_reducible refine Bf.r_turn ?_
  | with_reducible refine Bf.r_wipe (by with_unfolding_all rfl) ?_
  | with_reducible refine Bf.r_yes ?_
  | with_reducible refine Bf.r_tru ?_
  | with_reducible refine Bf.r_ext (by with_unfolding_all rfl) (by assumption) ?_
  | with_reducible refine Bf.r_glst (by assumption) (by with_unfolding_all rfl) ?_
  | with_reducible refine Bf.r_forR3 ?_
  | with_reducible refine Bf.r_lcR2 ?_
  | with_reducible refine Bf.r_lcL ?_
  | with_reducible refine Bf.r_lcT ?_
  | with_reducible refine Bf.r_lcR ?_
  | with_reducible refine Bf.r_forL ?_
  | with_reducible refine Bf.r_forZ ?_
  | with_reducible refine Bf.r_forT ?_
  | with_reducible refine Bf.r_forR ?_
  | with_reducible refine Bf.r_forR2 ?_
  | ((with_reducible refine Bf.i_d1 ?h ?_); (case h => walk_at "pfL1"))
  | ((with_reducible refine Bf.i_d0 ?h ?_); (case h => walk_at "pfL1"))
  | ((with_reducible refine Bf.i_n1 ?h ?_); (case h => walk_at "pfL1"))
  | ((with_reducible refine Bf.i_n0 ?h ?_); (case h => walk_at "pfL1")))
local macro_rules | `(tactic| walk_at "rdL1") => `(tactic| repeat walk_at "rd1L1")
namespace Bf
open PySem L2
abbrev s__law_mixed : Stmt := topS 43
theorem bi__law_mixed : ∀ (kV doc pm : Value) (an : Option Addr) (cdv ct : Value) (us : List Value), us.length = 2 → bindArgs (PySem.W.fnOf "_law_mixed" "_law_mixed" (defArgs s__law_mixed) (defBody s__law_mixed) (defScope s__law_mixed) .none kV doc pm an cdv ct) ⟨us, []⟩ = pure ((["_law_number", "_law_k"] : List Str).zip us) := fun _ _ _ _ _ _ us hl => match us, hl with | [_, _], _ => rfl
theorem sc__law_mixed : FnScope ["_law_number", "_law_k", "_law_step"] ["_law_number", "_law_k"] (defScope s__law_mixed) := C8.fnScope_by (by decide +kernel)
abbrev s__law_numbers : Stmt := topS 44
theorem bi__law_numbers : ∀ (kV doc pm : Value) (an : Option Addr) (cdv ct : Value) (us : List Value), us.length = 1 → bindArgs (PySem.W.fnOf "_law_numbers" "_law_numbers" (defArgs s__law_numbers) (defBody s__law_numbers) (defScope s__law_numbers) .none kV doc pm an cdv ct) ⟨us, []⟩ = pure ((["_law_script"] : List Str).zip us) := fun _ _ _ _ _ _ us hl => match us, hl with | [_], _ => rfl
theorem sc__law_numbers : FnScope ["_law_script", "_law_numbers_here", "_law_cell", "_law_rest", "_law_k"] ["_law_script"] (defScope s__law_numbers) := C8.fnScope_by (by decide +kernel)
abbrev s__law_draw : Stmt := topS 45
theorem bi__law_draw : ∀ (kV doc pm : Value) (an : Option Addr) (cdv ct : Value) (us : List Value), us.length = 1 → bindArgs (PySem.W.fnOf "_law_draw" "_law_draw" (defArgs s__law_draw) (defBody s__law_draw) (defScope s__law_draw) .none kV doc pm an cdv ct) ⟨us, []⟩ = pure ((["_law_draws"] : List Str).zip us) := fun _ _ _ _ _ _ us hl => match us, hl with | [_], _ => rfl
theorem sc__law_draw : FnScope ["_law_draws", "_law_at", "_law_first"] ["_law_draws"] (defScope s__law_draw) := C8.fnScope_by (by decide +kernel)
def spNumbers (K : PySem.W.Frag) : Sp := fun vs H Q _ => ∃ (xs : List Int) (p : Addr), vs = [.ref p] ∧ SqL K H p (xs.map V.int) ∧ xs.length ≤ 100 ∧ ∀ (q : Addr) (ns : List Int) (H' : Hp), H q = none → Same H H' → H' q = some (.lst (ns.map V.int)) → (∀ x ∈ ns, 0 ≤ x ∧ x < 1000000) → Q (.ref q) H'
section
variable {P : Program} {w : World} {K : PySem.W.Frag} {mg : Str → Option Value} {base : Heap}
theorem cal__law_mixed (T : Gs mg) (F : DefAt K mg "_law_mixed" s__law_mixed) : C8.Cal P w K mg base 1 "_law_mixed" spMixed [] := by
  refine cal_of F sc__law_mixed bi__law_mixed (fun vs H Q E h => ?_) (fun f cdv A outer s H vs Q E hr h => ?_)
  · obtain ⟨n, k, rfl, _⟩ := h
    rfl
  · refine ⟨_, (pss_cons (ps_set (i := 2) sc__law_mixed.nd rfl (by first | exact Or.inl rfl | exact Or.inr rfl) (pe_op op_mod (pe_op op_add (pe_op op_add (pe_op op_mul (pv 0) pe_int) (pe_op op_mul (pv 1) pe_int)) pe_int) pe_int))
      (pss_one (ps_ret (pe_op op_mod (pe_op op_add (pe_op op_mul (pv 2) (pe_op op_add (pe_op op_fdivN (pv 2) pe_int) pe_int)) (pv 1)) pe_int)))), ?_⟩
    obtain ⟨n, k, rfl, h⟩ := h
    have hb : 0 ≤ (n * 48271 + k * 69621 + 12345) % 2147483647 ∧ (n * 48271 + k * 69621 + 12345) % 2147483647 < 2147483647 := ⟨Int.emod_nonneg _ (by decide), Int.emod_lt_of_pos _ (by decide)⟩
    walk_at "rdL1"
    rw [Int.fdiv_eq_ediv_of_nonneg _ (by decide)]
    exact h
theorem cal__law_draw (T : Gs mg) (c__law_mixed : C8.Cal P w K mg base 1 "_law_mixed" spMixed []) (F : DefAt K mg "_law_draw" s__law_draw) : C8.Cal P w K mg base 2 "_law_draw" spDraw [] := by
  refine cal_of F sc__law_draw bi__law_draw (fun vs H Q E h => ?_) (fun f cdv A outer s H vs Q E hr h => ?_)
  · obtain ⟨D, rfl, _⟩ := h
    rfl
  · refine ⟨_, (pss_cons (ps_set (i := 1) sc__law_draw.nd rfl (by first | exact Or.inl rfl | exact Or.inr rfl) (pe_ix ix_seq (pv 0) pe_int (fun _ _ => rfl)))
      (pss_cons (ps_asg (pe_op op_add (pv 1) pe_int) (pg_sub (pv 0) pe_int set_list))
      (pss_cons (ps_if (pt_cmpR op_lt (pv 1) (pe_callB b_len (by rfl) T.n_len PySem.boot_len (pa_cons (pe_ix ix_seq (pv 0) pe_int (fun _ _ => rfl)) pa_nil)) (nomark _)) (pss_one (ps_ret (pe_ix ix_seq (pe_ix ix_seq (pv 0) pe_int (fun _ _ => rfl)) (pv 1) (fun _ _ => rfl)))) pss_nil)
      (pss_cons (ps_set (i := 2) sc__law_draw.nd rfl (by first | exact Or.inl rfl | exact Or.inr rfl) (pe_op op_add pe_int (pv 1)))
      (pss_cons (ps_if (pt_cmpR op_gt (pe_callB b_len (by rfl) T.n_len PySem.boot_len (pa_cons (pe_ix ix_seq (pv 0) pe_int (fun _ _ => rfl)) pa_nil)) pe_int (nomark _)) (pss_one (ps_set (i := 2) sc__law_draw.nd rfl (by first | exact Or.inl rfl | exact Or.inr rfl) (pe_op op_add (pv 2) (pe_op op_mul pe_int (pe_ix ix_seq (pe_ix ix_seq (pv 0) pe_int (fun _ _ => rfl)) pe_int (fun _ _ => rfl)))))) pss_nil)
      (pss_one (ps_ret (pe_op op_mod (C8.pe_c c__law_mixed hr (by first | decide | omega) rfl (pa_cons (C8.pe_c c__law_mixed hr (by first | decide | omega) rfl (pa_cons (pv 2) (pa_cons (pv 1) pa_nil))) (pa_cons pe_int pa_nil))) pe_int)))))))), ?_⟩
    obtain ⟨D, rfl, dr, k⟩ := h
    have dr0 := dr
    obtain ⟨⟨at_, h1, h2⟩, h3, h4⟩ := dr
    walk_at "rdL1"
    refine n_setL h1 (by decide) (by simp) fun H1 k1 hd1 => ?_
    have hl1 := k1 _ _ dr0.ld h3
    replace hd1 : H1 D.d = some (.lst [.ref D.l, .int (at_ + 1)]) := hd1
    have ds : Ds D H H1 := ⟨k1, ⟨_, hd1, by omega⟩, hl1, h4⟩
    walk_at "rdL1"
    refine i_d2 (fun c1 => ?_) (fun c1 => ?_)
    · walk_at "rdL1"
      rw [List.length_map] at c1
      have e1 : at_.toNat < D.ns.length := by omega
      refine r_ixL hl1 (at_nat h2 (by rw [List.getElem?_map, List.getElem?_eq_getElem e1]; rfl)) ?_
      have hb := h4 _ (List.getElem_mem e1)
      exact k _ _ hb.1 hb.2 ds
    · have fin : ∀ z : Int, 0 ≤ z % 1000000 ∧ z % 1000000 < 1000000 := fun z => ⟨Int.emod_nonneg _ (by decide), Int.emod_lt_of_pos _ (by decide)⟩
      walk_at "rdL1"
      refine i_d2 (fun c2 => ?_) (fun c2 => ?_)
      · rw [List.length_map] at c2
        walk_at "rdL1"
        refine r_ixL hl1 (at_nat (by decide) (by rw [List.getElem?_map, List.getElem?_eq_getElem (show (0 : Int).toNat < _ by show 0 < _; omega)]; rfl)) ?_
        walk_at "rdL1"
        exact k _ _ (fin _).1 (fin _).2 ds
      · walk_at "rdL1"
        exact k _ _ (fin _).1 (fin _).2 ds
theorem cal__law_numbers (T : Gs mg) (c__law_mixed : C8.Cal P w K mg base 1 "_law_mixed" spMixed []) (F : DefAt K mg "_law_numbers" s__law_numbers) : C8.Cal P w K mg base 2 "_law_numbers" (spNumbers K) [] := by
  refine cal_of F sc__law_numbers bi__law_numbers (fun vs H Q E h => ?_) (fun f cdv A outer s H vs Q E hr h => ?_)
  · obtain ⟨xs, p, rfl, _⟩ := h
    rfl
  · refine ⟨_, (pss_cons (ps_set (i := 1) sc__law_numbers.nd rfl (by first | exact Or.inl rfl | exact Or.inr rfl) (pe_lst pa_nil))
      (pss_cons (ps_for PassesOwn.never rfl (pi_list (pv 0)) (pg_name (i := 2) sc__law_numbers.nd rfl (by first | exact Or.inl rfl | exact Or.inr rfl)) (pss_one (ps_if (pt_cmpR op_ge (pv 2) (pe_op op_pow pe_int pe_int) (nomark _)) (pss_cons (ps_set (i := 3) sc__law_numbers.nd rfl (by first | exact Or.inl rfl | exact Or.inr rfl) (pv 2))
      (pss_one (ps_for PassesOwn.never rfl (pi_range1 rfl T.n_range (pa_cons pe_int pa_nil)) (pg_name (i := 4) sc__law_numbers.nd rfl (by first | exact Or.inl rfl | exact Or.inr rfl)) (pss_one (ps_if (pt_cmpR op_gt (pv 3) pe_int (nomark _)) (pss_cons (ps_expr (pe_bm PySem.F.plainAttrs_list PySem.F.slot_list_append PySem.F.type_list_append mt_append (pv 1) (pa_cons (pe_op op_mod (pv 3) pe_int) pa_nil)))
      (pss_one (ps_set (i := 3) sc__law_numbers.nd rfl (by first | exact Or.inl rfl | exact Or.inr rfl) (pe_op op_fdivN (pv 3) pe_int)))) pss_nil))))) (pss_cons (ps_expr (pe_bm PySem.F.plainAttrs_list PySem.F.slot_list_append PySem.F.type_list_append mt_append (pv 1) (pa_cons (pe_op op_mod (pv 2) pe_int) pa_nil)))
      (pss_one (ps_for PassesOwn.never rfl (pi_range1 rfl T.n_range (pa_cons pe_int pa_nil)) (pg_name (i := 4) sc__law_numbers.nd rfl (by first | exact Or.inl rfl | exact Or.inr rfl)) (pss_one (ps_expr (pe_bm PySem.F.plainAttrs_list PySem.F.slot_list_append PySem.F.type_list_append mt_append (pv 1) (pa_cons (pe_op op_mod (C8.pe_c c__law_mixed hr (by first | decide | omega) rfl (pa_cons (C8.pe_c c__law_mixed hr (by first | decide | omega) rfl (pa_cons (pe_op op_mod (pv 2) pe_int) (pa_cons (pv 4) pa_nil))) (pa_cons (pe_op op_add (pv 4) pe_int) pa_nil))) pe_int) pa_nil))))))))))
      (pss_one (ps_ret (pv 1))))), ?_⟩
    obtain ⟨xs, p, rfl, hp, hlen, k⟩ := h
    walk_at "rdL1"
    refine n_lst (by decide) fun q H1 nq s1 hq => ?_
    walk_at "rdL1"
    refine n_forSL (fun i σ H' => ∃ (u1 u2 u3 : Option V) (ns : List Int), σ = [some (.ref p), some (.ref q), u1, u2, u3] ∧ Same H H' ∧ H' q = some (.lst (ns.map V.int)) ∧ ns.length ≤ i * 60 ∧ ∀ x ∈ ns, 0 ≤ x ∧ x < 1000000) (sql_same hp s1) ⟨_, _, _, [], rfl, s1, hq, by simp, by simp⟩ (fun i σ H' _ h => by obtain ⟨_, _, _, _, _, s2, _⟩ := h; exact sql_same hp s2) ?_ ?_
    · rintro i x σ H' hx ⟨u1, u2, u3, ns, rfl, s2, hq2, hl2, hb2⟩
      obtain ⟨cell, hcell, rfl⟩ := map_at hx
      have hi : i < 100 := by
        have := (List.getElem?_eq_some_iff.mp hcell).1
        omega
      have fin : ∀ z : Int, 0 ≤ z % 1000000 ∧ z % 1000000 < 1000000 := fun z => ⟨Int.emod_nonneg _ (by decide), Int.emod_lt_of_pos _ (by decide)⟩
      have snoc : ∀ (ms : List Int) (z : Int), (∀ x ∈ ms, 0 ≤ x ∧ x < 1000000) → ∀ x ∈ ms ++ [z % 1000000], 0 ≤ x ∧ x < 1000000 := fun ms z h x hx => by
        rcases List.mem_append.mp hx with q | q
        · exact h x q
        · rw [List.mem_singleton.mp q]
          exact fin z
      have hsz : sizeLine = 2 ^ 24 := rfl
      walk_at "rdL1"
      refine i_d2 (fun hc => ?_) (fun hc => ?_)
      · walk_at "rdL1"
        refine n_forR (fun j σ H2 => ∃ (u3 : Option V) (rest : Int) (ms : List Int), σ = [some (.ref p), some (.ref q), some (.int cell), some (.int rest), u3] ∧ Same H H2 ∧ H2 q = some (.lst (ms.map V.int)) ∧ ms.length ≤ i * 60 + j ∧ ∀ x ∈ ms, 0 ≤ x ∧ x < 1000000) (by decide) ⟨_, _, ns, rfl, s2, hq2, hl2, hb2⟩ ?_ ?_
        · rintro j σ H2 hj ⟨u3, rest, ms, rfl, s3, hq3, hl3, hb3⟩
          have hj' : j < 60 := hj
          walk_at "rdL1"
          refine i_d2 (fun hc => ?_) (fun hc => ?_)
          · walk_at "rdL1"
            refine n_app hq3 (by rw [List.length_map]; omega) fun H4 k4 hq4 => ?_
            walk_at "rdL1"
            exact ⟨_, _, ms ++ [rest % 1000000], rfl, same_kp nq s3 k4, by rw [hq4, List.map_append]; rfl, by rw [List.length_append]; simp; omega, snoc _ _ hb3⟩
          · walk_at "rdL1"
            exact ⟨_, _, ms, rfl, s3, hq3, by omega, hb3⟩
        · rintro σ H2 ⟨u3, rest, ms, rfl, s3, hq3, hl3, hb3⟩
          exact ⟨_, _, _, ms, rfl, s3, hq3, by have : (60 : Int).toNat = 60 := rfl; omega, hb3⟩
      · walk_at "rdL1"
        refine n_app hq2 (by rw [List.length_map]; omega) fun H2 k2 hq3 => ?_
        have s3 := same_kp nq s2 k2
        walk_at "rdL1"
        refine n_forR (fun j σ H2 => ∃ (u2 u3 : Option V) (ms : List Int), σ = [some (.ref p), some (.ref q), some (.int cell), u2, u3] ∧ Same H H2 ∧ H2 q = some (.lst (ms.map V.int)) ∧ ms.length ≤ i * 60 + 1 + j ∧ ∀ x ∈ ms, 0 ≤ x ∧ x < 1000000) (by decide) ⟨_, _, ns ++ [cell % 1000000], rfl, s3, by rw [hq3, List.map_append]; rfl, by rw [List.length_append]; simp; omega, snoc _ _ hb2⟩ ?_ ?_
        · rintro j σ H3 hj ⟨u2, u3, ms, rfl, s4, hq4, hl4, hb4⟩
          have hj' : j < 5 := hj
          walk_at "rdL1"
          refine n_app hq4 (by rw [List.length_map]; omega) fun H5 k5 hq5 => ?_
          walk_at "rdL1"
          exact ⟨_, _, _, rfl, same_kp nq s4 k5, by rw [hq5, ← List.map_singleton, ← List.map_append], by rw [List.length_append]; simp; omega, snoc _ _ hb4⟩
        · rintro σ H3 ⟨u2, u3, ms, rfl, s4, hq4, hl4, hb4⟩
          exact ⟨_, _, _, ms, rfl, s4, hq4, by have : (5 : Int).toNat = 5 := rfl; omega, hb4⟩
    · rintro σ H' ⟨u1, u2, u3, ns, rfl, s2, hq2, hl2, hb2⟩
      walk_at "rdL1"
      exact k q ns H' nq s2 hq2 hb2
end
end Bf
local macro_rules | `(tactic| walk_at "pfL5") => `(tactic| first | decide +kernel | omega | assumption | rfl | (simp only [List.length_cons, List.length_nil]; omega))
local macro_rules | `(tactic| walk_at "rd1L5") => `(tactic| first
  | with_reducible refine Bf.r_seq ?_
  | with_reducible refine Bf.r_asg ?_
  | with_reducible refine Bf.r_var (by with_unfolding_all rfl) ?_
  | with_reducible refine Bf.r_c ?_
  | with_reducible refine Bf.r_name ?_
  | with_reducible refine Bf.r_ret ?_
  | with_reducible refine Bf.r_op ?_
  | with_reducible refine Bf.r_I0 ?_
  | ((with_reducible refine Bf.r_I ?c ?_); (case c => first | decide | (show (0 : Int) < _; omega) | (refine Or.inl ⟨?_, ?_⟩ <;> omega) | (refine Or.inr ⟨?_, ?_⟩ <;> omega) | (refine And.intro ?_ ?_ <;> omega)))
  | with_reducible refine Bf.r_ifS ?_
  | with_reducible refine Bf.r_test ?_
  | with_reducible refine Bf.r_isbl ?_
  | with_reducible refine Bf.r_eqI ?_
  | with_reducible refine Bf.r_neI ?_
  | with_reducible refine Bf.r_eqS ?_
  | with_reducible refine Bf.r_neS ?_
  | with_reducible refine Bf.r_cons ?_
  | with_reducible refine Bf.r_nil ?_
  | with_reducible refine Bf.r_CB ?_
  | with_reducible refine Bf.r_call ?_
  | with_reducible refine Bf.i_t ?_
  | with_reducible refine Bf.i_f ?_
  | with_reducible refine Bf.i_nt ?_
  | with_reducible refine Bf.i_nf ?_
  | with_reducible refine Bf.r_ixT (by assumption) (by with_unfolding_all rfl) ?_
  | with_reducible refine Bf.r_ixL (by assumption) (by with_unfolding_all rfl) ?_
  | with_reducible refine Bf.r_fld ?_
  | ((with_reducible refine Bf.r_fat (by assumption) ?c ?n (by with_unfolding_all rfl) ?_); (case c => assumption); (case n => assumption))
  | with_reducible refine Bf.r_par ?_
  | with_reducible refine Bf.r_two ?_
  | with_reducible refine Bf.r_aug (by with_unfolding_all rfl) ?_
  | with_reducible refine Bf.r_ip ?_
  | with_reducible refine Bf.r_app (by with_unfolding_all rfl) (by assumption) ?_
  | with_reducible refine Bf.r_next ?_
  | with_reducible refine Bf.r_cont ?_
  | with_reducible refine Bf.r_drop ?_
  | with_reducible refine Bf.r_and ?_
  | with_reducible refine Bf.r_or ?_
  | with_reducible refine Bf.r_not ?_
  | with_reducible refine Bf.r_andV ?_
  | with_reducible refine Bf.r_orV ?_
  | with_reducible refine Bf.r_notV ?_
  | with_reducible refine Bf.r_chain ?_
  | with_reducible refine Bf.r_B ?_
  | with_reducible refine Bf.r_ifE ?_
  | with_reducible refine Bf.r_un ?_
  | with_reducible refine Bf.r_U ?_
  | with_reducible refine Bf.r_tup ?_
  | with_reducible refine Bf.r_lst ?_
  | with_reducible refine Bf.r_lenT (by assumption) ?_
  | with_reducible refine Bf.r_lenL (by assumption) ?_
  | with_reducible refine Bf.r_int ?_
  | with_reducible refine Bf.r_max2 ?_
  | with_reducible refine Bf.r_min2 ?_
  | with_reducible refine Bf.isi_ Bf.ty_i Bf.kb_ii ?_
  | with_reducible refine Bf.isi_ Bf.ty_i Bf.kb_ib ?_
  | with_reducible refine Bf.isi_ Bf.ty_i Bf.kb_is ?_
  | with_reducible refine Bf.isi_ Bf.ty_i Bf.kb_it ?_
  | with_reducible refine Bf.isi_ Bf.ty_i Bf.kb_il ?_
  | with_reducible refine Bf.isi_ Bf.ty_s Bf.kb_si ?_
  | with_reducible refine Bf.isi_ Bf.ty_s Bf.kb_sb ?_
  | with_reducible refine Bf.isi_ Bf.ty_s Bf.kb_ss ?_
  | with_reducible refine Bf.isi_ Bf.ty_s Bf.kb_st ?_
  | with_reducible refine Bf.isi_ Bf.ty_s Bf.kb_sl ?_
  | with_reducible refine Bf.isi_ (Bf.ty_t (by assumption)) Bf.kb_tt ?_
  | with_reducible refine Bf.isi_ (Bf.ty_l (by assumption)) Bf.kb_ll ?_
  | with_reducible refine Bf.isi_ (Bf.ty_t (by assumption)) Bf.kb_tl ?_
  | with_reducible refine Bf.isi_ (Bf.ty_l (by assumption)) Bf.kb_lt ?_
  | with_reducible refine Bf.isi_ Bf.ty_b Bf.kb_bi ?_
  | with_reducible refine Bf.isi_ Bf.ty_b Bf.kb_bb ?_
  | with_reducible refine Bf.isi_ Bf.ty_b Bf.kb_bs ?_
  | with_reducible refine Bf.isi_ Bf.ty_b Bf.kb_bt ?_
  | with_reducible refine Bf.isi_ Bf.ty_b Bf.kb_bL ?_
  | with_reducible refine Bf.isi_ Bf.ty_n Bf.kb_ni ?_
  | with_reducible refine Bf.isi_ Bf.ty_n Bf.kb_nb ?_
  | with_reducible refine Bf.isi_ Bf.ty_n Bf.kb_ns ?_
  | with_reducible refine Bf.isi_ Bf.ty_n Bf.kb_nt ?_
  | with_reducible refine Bf.isi_ Bf.ty_n Bf.kb_nl ?_
  | with_reducible refine Bf.isi_ (Bf.ty_t (by assumption)) Bf.kb_ti ?_
  | with_reducible refine Bf.isi_ (Bf.ty_l (by assumption)) Bf.kb_li ?_
  | with_reducible refine Bf.isi_ (Bf.ty_t (by assumption)) Bf.kb_tb ?_
  | with_reducible refine Bf.isi_ (Bf.ty_l (by assumption)) Bf.kb_lb ?_
  | with_reducible refine Bf.isi_ (Bf.ty_t (by assumption)) Bf.kb_ts ?_
  | with_reducible refine Bf.isi_ (Bf.ty_l (by assumption)) Bf.kb_ls ?_
  | with_reducible refine Bf.r_gtup (by assumption) (by with_unfolding_all rfl) ?_
  | with_reducible refine Bf.r_gcons ?_
  | with_reducible refine Bf.r_gnil ?_
  | with_reducible refine Bf.r_gsub ?_
  | ((with_reducible refine Bf.n_num ?h ?_); (case h => first | assumption | (refine And.intro ?_ ?_ <;> omega)))
  | with_reducible refine Bf.n_isint ?_
  | with_reducible refine Bf.n_mixed ?_
  | with_reducible refine Bf.r_dget ?_
  | with_reducible refine Bf.n_dgetS (by assumption) (by with_unfolding_all rfl) ?_
  | with_reducible refine Bf.r_pcons ?_
  | with_reducible refine Bf.r_pnil ?_
  | with_reducible refine Bf.r_sl ?_
  | with_reducible refine Bf.r_nopart ?_
  | with_reducible refine Bf.r_part ?_
  | with_reducible refine Bf.r_isint ?_
  | with_reducible refine Bf.r_revL ?_
  | with_reducible refine Bf.r_sfld ?_
  | with_reducible refine Bf.r_meth ?_
  | with_reducible refine Bf.n_meth (by assumption) (by with_unfolding_all rfl) ?_
  | with_reducible refine Bf.r_make ?_
  | with_reducible refine Bf.r_turn ?_
  | with_reducible refine Bf.r_wipe (by with_unfolding_all rfl) ?_
  | with_reducible refine Bf.r_yes ?_
  | with_reducible refine Bf.r_tru ?_
  | with_reducible refine Bf.r_ext (by with_unfolding_all rfl) (by assumption) ?_
  | with_reducible refine Bf.r_glst (by assumption) (by with_unfolding_all rfl) ?_
  | with_reducible refine Bf.r_forR3 ?_
  | with_reducible refine Bf.r_lcR2 ?_
  | with_reducible refine Bf.r_lcL ?_
  | with_reducible refine Bf.r_lcT ?_
  | with_reducible refine Bf.r_lcR ?_
  | with_reducible refine Bf.r_forL ?_
  | with_reducible refine Bf.r_forZ ?_
  | with_reducible refine Bf.r_forT ?_
  | with_reducible refine Bf.r_forR ?_
  | with_reducible refine Bf.r_forR2 ?_
  | ((with_reducible refine Bf.i_d1 ?h ?_); (case h => walk_at "pfL5"))
  | ((with_reducible refine Bf.i_d0 ?h ?_); (case h => walk_at "pfL5"))
  | ((with_reducible refine Bf.i_n1 ?h ?_); (case h => walk_at "pfL5"))
  | ((with_reducible refine Bf.i_n0 ?h ?_); (case h => walk_at "pfL5")))
local macro_rules | `(tactic| walk_at "rdL5") => `(tactic| repeat walk_at "rd1L5")
namespace Bf
open PySem L2
abbrev s__law_equal : Stmt := topS 46
theorem bi__law_equal : ∀ (kV doc pm : Value) (an : Option Addr) (cdv ct : Value) (us : List Value), us.length = 2 → bindArgs (PySem.W.fnOf "_law_equal" "_law_equal" (defArgs s__law_equal) (defBody s__law_equal) (defScope s__law_equal) .none kV doc pm an cdv ct) ⟨us, []⟩ = pure ((["_law_actual", "_law_due"] : List Str).zip us) := fun _ _ _ _ _ _ us hl => match us, hl with | [_, _], _ => rfl
theorem sc__law_equal : FnScope ["_law_actual", "_law_due"] ["_law_actual", "_law_due"] (defScope s__law_equal) := C8.fnScope_by (by decide +kernel)
abbrev s__law_all_equal : Stmt := topS 47
theorem bi__law_all_equal : ∀ (kV doc pm : Value) (an : Option Addr) (cdv ct : Value) (us : List Value), us.length = 2 → bindArgs (PySem.W.fnOf "_law_all_equal" "_law_all_equal" (defArgs s__law_all_equal) (defBody s__law_all_equal) (defScope s__law_all_equal) .none kV doc pm an cdv ct) ⟨us, []⟩ = pure ((["_law_actual", "_law_due"] : List Str).zip us) := fun _ _ _ _ _ _ us hl => match us, hl with | [_, _], _ => rfl
theorem sc__law_all_equal : FnScope ["_law_actual", "_law_due", "_law_k"] ["_law_actual", "_law_due"] (defScope s__law_all_equal) := C8.fnScope_by (by decide +kernel)
theorem q_self {z : Str} {H : Hp} {Q : VK} (k : Q (.bl true) H) : Q (.bl (decide (z = z))) H := by rw [decide_eq_true rfl]; exact k
section
variable {P : Program} {w : World} {K : PySem.W.Frag} {mg : Str → Option Value} {base : Heap}
theorem cal_all0 (T : Gs mg) (F : DefAt K mg "_law_all_equal" s__law_all_equal) : C8.Cal P w K mg base 1 "_law_all_equal" (spAllEq 0) [] := by
  refine cal_of F sc__law_all_equal bi__law_all_equal (fun vs H Q E h => ?_) (fun f cdv A outer s H vs Q E hr h => ?_)
  · obtain ⟨ds, p, q, as, bs, rfl, _⟩ := h
    rfl
  · obtain ⟨ds, p, q, as, bs, rfl, _, _, _, _, hd, _⟩ := h
    exact absurd hd (Nat.not_lt_zero _)
theorem cal_allS (T : Gs mg) {k : Nat} (c__law_equal : C8.Cal P w K mg base (2 * k + 2) "_law_equal" (spEq k) []) (F : DefAt K mg "_law_all_equal" s__law_all_equal) : C8.Cal P w K mg base (2 * k + 3) "_law_all_equal" (spAllEq (k + 1)) [] := by
  refine cal_of F sc__law_all_equal bi__law_all_equal (fun vs H Q E h => ?_) (fun f cdv A outer s H vs Q E hr h => ?_)
  · obtain ⟨ds, p, q, as, bs, rfl, _⟩ := h
    rfl
  · refine ⟨_, (pss_cons (ps_for PassesOwn.never rfl (pi_range1 rfl T.n_range (pa_cons (pe_callB b_len (by rfl) T.n_len PySem.boot_len (pa_cons (pv 1) pa_nil)) pa_nil)) (pg_name (i := 2) sc__law_all_equal.nd rfl (by first | exact Or.inl rfl | exact Or.inr rfl)) (pss_one (ps_if (pt_not (pt_val (C8.pe_c c__law_equal hr (by first | decide | omega) rfl (pa_cons (pe_ix ix_seq (pv 0) (pv 2) (fun _ _ => rfl)) (pa_cons (pe_ix ix_seq (pv 1) (pv 2) (fun _ _ => rfl)) pa_nil))))) (pss_one (ps_ret pe_bl)) pss_nil)))
      (pss_one (ps_ret pe_bl))), ?_⟩
    obtain ⟨ds, p, q, as, bs, rfl, hp, hq, hra, hrb, hd, hsz, hw, kk⟩ := h
    have hal := hra.len
    have hbl := hrb.len
    have hz : sizeLine = 2 ^ 24 := rfl
    have lenq : ∀ {K : PySem.W.Frag} {Q : VK}, Q (.int bs.length) H → rLen K [.ref q] H Q := fun h => by
      rcases hq with e | e
      · exact r_lenL e h
      · exact r_lenT e h
    have ixp : ∀ {K : PySem.W.Frag} {Q : VK} {i : Nat} {v : V}, as[i]? = some v → Q v H → rIx K (.ref p) (.int i) H Q := fun h1 h2 => by
      rcases hp with e | e
      · exact r_ixL e (atI_nat h1) h2
      · exact r_ixT e (atI_nat h1) h2
    have ixq : ∀ {K : PySem.W.Frag} {Q : VK} {i : Nat} {v : V}, bs[i]? = some v → Q v H → rIx K (.ref q) (.int i) H Q := fun h1 h2 => by
      rcases hq with e | e
      · exact r_ixL e (atI_nat h1) h2
      · exact r_ixT e (atI_nat h1) h2
    walk_at "rdL5"
    refine lenq ?_
    walk_at "rdL5"
    refine n_forR (fun i σ H' => ∃ u1 : Option V, σ = [some (.ref p), some (.ref q), u1] ∧ H' = H) (by omega) ⟨_, rfl, rfl⟩ ?_ ?_
    · rintro i σ H' hi ⟨u1, rfl, rfl⟩
      have hi' : i < ds.length := by omega
      have hdi : ds[i]? = some ds[i] := List.getElem?_eq_getElem hi'
      obtain ⟨a, ha, ra⟩ := hra.get hdi
      obtain ⟨b, hb, rb⟩ := hrb.get hdi
      walk_at "rdL5"
      refine ixp ha ?_
      walk_at "rdL5"
      refine ixq hb ?_
      walk_at "rdL5"
      refine ⟨ds[i], a, b, rfl, ra, rb, deps_mem (by omega) hdi, wids_mem hw hdi, ?_⟩
      walk_at "rdL5"
      exact ⟨_, rfl, rfl⟩
    · rintro σ H' ⟨u1, rfl, rfl⟩
      walk_at "rdL5"
      exact kk
theorem cal_eqS (T : Gs mg) {k : Nat} (c__law_all_equal : C8.Cal P w K mg base (2 * k + 1) "_law_all_equal" (spAllEq k) []) (F : DefAt K mg "_law_equal" s__law_equal) : C8.Cal P w K mg base (2 * k + 2) "_law_equal" (spEq k) [] := by
  refine cal_of F sc__law_equal bi__law_equal (fun vs H Q E h => ?_) (fun f cdv A outer s H vs Q E hr h => ?_)
  · obtain ⟨d, a, b, rfl, _⟩ := h
    rfl
  · refine ⟨_, (pss_cons (ps_if (pt_val (pe_callB call_isi (by rfl) T.n_isinstance (by decide +kernel) (pa_cons (pv 1) (pa_cons (pe_bltn (v := .ty "list") rfl T.n_list (by decide +kernel) rfl) pa_nil)))) (pss_cons (ps_if (PW.pt (pw_or (pt_not (pt_val (pe_callB call_isi (by rfl) T.n_isinstance (by decide +kernel) (pa_cons (pv 0) (pa_cons (pe_bltn (v := .ty "list") rfl T.n_list (by decide +kernel) rfl) pa_nil))))) (pw_or1 (pt_cmpR op_ne (pe_callB b_len (by rfl) T.n_len PySem.boot_len (pa_cons (pv 0) pa_nil)) (pe_callB b_len (by rfl) T.n_len PySem.boot_len (pa_cons (pv 1) pa_nil)) (nomark _))))) (pss_one (ps_ret pe_bl)) pss_nil)
      (pss_one (ps_ret (C8.pe_c c__law_all_equal hr (by first | decide | omega) rfl (pa_cons (pv 0) (pa_cons (pv 1) pa_nil)))))) pss_nil)
      (pss_cons (ps_if (pt_val (pe_callB call_isi (by rfl) T.n_isinstance (by decide +kernel) (pa_cons (pv 1) (pa_cons (pe_bltn (v := .ty "tuple") rfl T.n_tuple (by decide +kernel) rfl) pa_nil)))) (pss_cons (ps_if (PW.pt (pw_or (pt_not (pt_val (pe_callB call_isi (by rfl) T.n_isinstance (by decide +kernel) (pa_cons (pv 0) (pa_cons (pe_bltn (v := .ty "tuple") rfl T.n_tuple (by decide +kernel) rfl) pa_nil))))) (pw_or1 (pt_cmpR op_ne (pe_callB b_len (by rfl) T.n_len PySem.boot_len (pa_cons (pv 0) pa_nil)) (pe_callB b_len (by rfl) T.n_len PySem.boot_len (pa_cons (pv 1) pa_nil)) (nomark _))))) (pss_one (ps_ret pe_bl)) pss_nil)
      (pss_one (ps_ret (C8.pe_c c__law_all_equal hr (by first | decide | omega) rfl (pa_cons (pv 0) (pa_cons (pv 1) pa_nil)))))) pss_nil)
      (pss_cons (ps_if (pt_val (pe_callB call_isi (by rfl) T.n_isinstance (by decide +kernel) (pa_cons (pv 1) (pa_cons (pe_bltn (v := .ty "bool") rfl T.n_bool (by decide +kernel) rfl) pa_nil)))) (pss_one (ps_ret (pe_and (pe_callB call_isi (by rfl) T.n_isinstance (by decide +kernel) (pa_cons (pv 0) (pa_cons (pe_bltn (v := .ty "bool") rfl T.n_bool (by decide +kernel) rfl) pa_nil))) (pe_one (pe_cmpR op_eq (pv 0) (pv 1) (nomark _)))))) pss_nil)
      (pss_cons (ps_if (pt_val (pe_callB call_isi (by rfl) T.n_isinstance (by decide +kernel) (pa_cons (pv 1) (pa_cons (pe_bltn (v := .ty "int") rfl T.n_int (by decide +kernel) rfl) pa_nil)))) (pss_one (ps_ret (pe_and (pe_callB call_isi (by rfl) T.n_isinstance (by decide +kernel) (pa_cons (pv 0) (pa_cons (pe_bltn (v := .ty "int") rfl T.n_int (by decide +kernel) rfl) pa_nil))) (pe_and (pe_not (pe_callB call_isi (by rfl) T.n_isinstance (by decide +kernel) (pa_cons (pv 0) (pa_cons (pe_bltn (v := .ty "bool") rfl T.n_bool (by decide +kernel) rfl) pa_nil)))) (pe_one (pe_cmpR op_eq (pv 0) (pv 1) (nomark _))))))) pss_nil)
      (pss_cons (ps_if (pt_val (pe_callB call_isi (by rfl) T.n_isinstance (by decide +kernel) (pa_cons (pv 1) (pa_cons (pe_bltn (v := .ty "str") rfl T.n_str (by decide +kernel) rfl) pa_nil)))) (pss_one (ps_ret (pe_and (pe_callB call_isi (by rfl) T.n_isinstance (by decide +kernel) (pa_cons (pv 0) (pa_cons (pe_bltn (v := .ty "str") rfl T.n_str (by decide +kernel) rfl) pa_nil))) (pe_one (pe_cmpR op_eq (pv 0) (pv 1) (nomark _)))))) pss_nil)
      (pss_one (ps_ret (pe_cmpR op_isN (pv 0) pe_non (nomark _))))))))), ?_⟩
    obtain ⟨d, a, b, rfl, ha, hb, hd, hw, kk⟩ := h
    cases d with
    | i n =>
      cases (show a = _ from ha)
      cases (show b = _ from hb)
      walk_at "rdL5"
      rw [decide_eq_true (rfl : n = n)]
      exact kk
    | s z =>
      cases (show a = _ from ha)
      cases (show b = _ from hb)
      walk_at "rdL5"
      exact q_self kk
    | b z =>
      cases (show a = _ from ha)
      cases (show b = _ from hb)
      walk_at "rdL5"
      exact ⟨rfl, by rw [decide_eq_true (rfl : V.bl z = V.bl z)]; exact kk⟩
    | non =>
      cases (show a = _ from ha)
      cases (show b = _ from hb)
      walk_at "rdL5"
      exact ⟨rfl, by rw [decide_eq_true (rfl : V.non = V.non)]; exact kk⟩
    | t ds =>
      obtain ⟨p, as, rfl, hp, hra⟩ := ha
      obtain ⟨q, bs, rfl, hq, hrb⟩ := hb
      have hal := hra.len
      have hbl := hrb.len
      have hlen : (as.length : Int) = bs.length := by omega
      walk_at "rdL5"
      have h1 : Dt.deps ds + 1 ≤ k := hd
      have h2 : max ds.length (Dt.wids ds) ≤ 1000000 := hw
      exact ⟨ds, p, q, as, bs, rfl, .inr hp, .inr hq, hra, hrb, by omega, by omega, by omega, kk⟩
    | l ds =>
      obtain ⟨p, as, rfl, hp, hra⟩ := ha
      obtain ⟨q, bs, rfl, hq, hrb⟩ := hb
      have hal := hra.len
      have hbl := hrb.len
      have hlen : (as.length : Int) = bs.length := by omega
      walk_at "rdL5"
      have h1 : Dt.deps ds + 1 ≤ k := hd
      have h2 : max ds.length (Dt.wids ds) ≤ 1000000 := hw
      exact ⟨ds, p, q, as, bs, rfl, .inl hp, .inl hq, hra, hrb, by omega, by omega, by omega, kk⟩
theorem cal_both (T : Gs mg) (F : DefAt K mg "_law_equal" s__law_equal) (F2 : DefAt K mg "_law_all_equal" s__law_all_equal) : ∀ k, C8.Cal P w K mg base (2 * k + 1) "_law_all_equal" (spAllEq k) []
  | 0 => cal_all0 T F2
  | k + 1 => cal_allS T (cal_eqS T (cal_both T F F2 k) F) F2
theorem cal__law_equal (T : Gs mg) (F : DefAt K mg "_law_equal" s__law_equal) (F2 : DefAt K mg "_law_all_equal" s__law_all_equal) (k : Nat) : C8.Cal P w K mg base (2 * k + 2) "_law_equal" (spEq k) [] := cal_eqS T (cal_both T F F2 k) F
end
end Bf
/-! trees: data, rows, the listing machine, costs -/
namespace Bf
open PySem
inductive Tr where
  | leaf (v : Int) | node (tb : List (List Int)) (l r : Tr)
def Tr.d : Tr → Dt
  | .leaf v => .t [.s "leaf", .i v]
  | .node tb l r => .t [.s "node", tabD tb, l.d, r.d]
def Tr.size : Tr → Nat
  | .leaf _ => 1
  | .node _ l r => l.size + r.size + 1
def Tr.dep : Tr → Nat
  | .leaf _ => 1
  | .node _ l r => max l.dep r.dep + 1
def Tr.cost (p : Nat) : Tr → Nat
  | .leaf _ => 1
  | .node _ l r => (p - 1) * (2 * (l.cost p + r.cost p) + 5)
def Tr.ok (K : Nat) : Tr → Prop
  | .leaf v => 0 ≤ v ∧ v < K
  | .node tb l r => IsTab K tb ∧ tb.length = K ∧ l.ok K ∧ r.ok K
theorem Tr.flat : ∀ t : Tr, t.d.flat = true
  | .leaf _ => rfl
  | .node tb l r => by
    show Dt.flats [.s "node", tabD tb, l.d, r.d] = true
    simp only [Dt.flats, Dt.flat, tab_flat, l.flat, r.flat, Bool.and_true]
theorem Tr.size_pos : ∀ t : Tr, 1 ≤ t.size
  | .leaf _ => Nat.le_refl _
  | .node _ l r => by unfold Tr.size; omega
theorem Tr.cost_pos {p : Nat} (hp : 2 ≤ p) : ∀ t : Tr, 1 ≤ t.cost p
  | .leaf _ => Nat.le_refl _
  | .node _ l r => by
    show 1 ≤ (p - 1) * (2 * (l.cost p + r.cost p) + 5)
    exact Nat.mul_pos (by omega) (by omega)
/-! ### rows -/
structure Row where
  t : Tr
  l : Int
  r : Int
def Row.d (x : Row) : Dt := .t [x.t.d, .i x.l, .i x.r]
theorem Row.flat (x : Row) : x.d.flat = true := by
  show Dt.flats [x.t.d, .i x.l, .i x.r] = true
  simp only [Dt.flats, Dt.flat, x.t.flat, Bool.and_true]
def Has (rows : List Row) (i : Nat) (t : Tr) : Prop := ∃ x, rows[i]? = some x ∧ x.t = t
def RowOk (K : Nat) (rows : List Row) (i : Nat) (x : Row) : Prop := x.t.ok K ∧ match x.t with
  | .leaf _ => x.l = -1 ∧ x.r = -1
  | .node _ a b => ∃ li ri : Nat, x.l = li ∧ x.r = ri ∧ li < i ∧ ri < i ∧ Has rows li a ∧ Has rows ri b
def Wf (K : Nat) (rows : List Row) : Prop := ∀ i x, rows[i]? = some x → RowOk K rows i x
theorem Has.snoc {rows : List Row} {i : Nat} {t : Tr} (h : Has rows i t) (y : Row) : Has (rows ++ [y]) i t := by
  obtain ⟨x, h1, h2⟩ := h
  exact ⟨x, by rw [List.getElem?_append_left (List.getElem?_eq_some_iff.mp h1).1]; exact h1, h2⟩
theorem RowOk.snoc {K : Nat} {rows : List Row} {i : Nat} {x : Row} (h : RowOk K rows i x) (y : Row) : RowOk K (rows ++ [y]) i x := by
  obtain ⟨h1, h2⟩ := h
  refine ⟨h1, ?_⟩
  cases e : x.t with
  | leaf v => rw [e] at h2; exact h2
  | node tb a b =>
    rw [e] at h2
    obtain ⟨li, ri, a1, a2, a3, a4, a5, a6⟩ := h2
    exact ⟨li, ri, a1, a2, a3, a4, a5.snoc y, a6.snoc y⟩
theorem Wf.snoc {K : Nat} {rows : List Row} {y : Row} (h : Wf K rows) (hy : RowOk K rows rows.length y) : Wf K (rows ++ [y]) := by
  intro i x hx
  by_cases hi : i < rows.length
  · rw [List.getElem?_append_left hi] at hx
    exact (h i x hx).snoc y
  · rw [List.getElem?_append_right (by omega)] at hx
    have e : i = rows.length := by
      have := (List.getElem?_eq_some_iff.mp hx).1
      simp at this
      omega
    subst e
    simp at hx
    subst hx
    exact hy.snoc y
theorem Wf.nil {K : Nat} : Wf K [] := fun i x h => by simp at h
/-! ### the listing machine: rows, places, tasks (top first) -/
structure Tk where
  t : Tr
  d : Int
  o : Bool
def Tk.dt (x : Tk) : Dt := .t [x.t.d, .i x.d, .b x.o]
theorem Tk.flat (x : Tk) : x.dt.flat = true := by
  show Dt.flats [x.t.d, .i x.d, .b x.o] = true
  simp only [Dt.flats, Dt.flat, x.t.flat, Bool.and_true]
inductive Safe (K : Nat) (Fin : List Row → List Int → Prop) : Nat → List Row → List Int → List Tk → Prop
  | fin {rows pl} : Fin rows pl → Safe K Fin 0 rows pl []
  | opn {n rows tb a b d l r pl todo} : rows.length < 1000 → pl.length < 1000 → Safe K Fin n (rows ++ [⟨.node tb a b, l, r⟩]) ((rows.length : Int) :: pl) todo → Safe K Fin (n + 1) rows (r :: l :: pl) (⟨.node tb a b, d, true⟩ :: todo)
  | leaf {n rows d pl todo} {v : Int} : (0 ≤ v ∧ v < (K : Int)) → d ≤ 40 → rows.length + todo.length < 200 → pl.length < 1000 → Safe K Fin n (rows ++ [⟨.leaf v, -1, -1⟩]) ((rows.length : Int) :: pl) todo → Safe K Fin (n + 1) rows pl (⟨.leaf v, d, false⟩ :: todo)
  | node {n rows tb a b d pl todo} : Tr.ok K (.node tb a b) → d ≤ 40 → rows.length + todo.length < 200 → Safe K Fin n rows pl (⟨a, d + 1, false⟩ :: ⟨b, d + 1, false⟩ :: ⟨.node tb a b, d, true⟩ :: todo) → Safe K Fin (n + 1) rows pl (⟨.node tb a b, d, false⟩ :: todo)
theorem safe_tree {K : Nat} {Fin : List Row → List Int → Prop} : ∀ (t : Tr) (rows : List Row) (pl : List Int) (todo : List Tk) (d : Int), t.ok K → Wf K rows → d + t.dep ≤ 41 → rows.length + todo.length + t.size + t.dep + pl.length ≤ 150 →
    (∀ new : List Row, Wf K (rows ++ new) → new.length = t.size → Has (rows ++ new) (rows.length + t.size - 1) t → ∃ n, Safe K Fin n (rows ++ new) (((rows.length + t.size - 1 : Nat) : Int) :: pl) todo) →
    ∃ n, Safe K Fin n rows pl (⟨t, d, false⟩ :: todo)
  | .leaf v, rows, pl, todo, d, ok, wf, hd, hs, k => by
    have e1 : (Tr.leaf v).size = 1 := rfl
    have e2 : (Tr.leaf v).dep = 1 := rfl
    rw [e1, e2] at hs
    rw [e2] at hd
    obtain ⟨n, h⟩ := k [⟨.leaf v, -1, -1⟩] (wf.snoc ⟨ok, rfl, rfl⟩) rfl ⟨⟨.leaf v, -1, -1⟩, by simp [e1], rfl⟩
    rw [e1, Nat.add_sub_cancel] at h
    have c1 : d ≤ 40 := by omega
    have c2 : rows.length + todo.length < 200 := by omega
    have c3 : pl.length < 1000 := by omega
    exact ⟨n + 1, .leaf (show 0 ≤ v ∧ v < (K : Int) from ok) c1 c2 c3 h⟩
  | .node tb a b, rows, pl, todo, d, ok, wf, hd, hs, k => by
    have e1 : (Tr.node tb a b).size = a.size + b.size + 1 := rfl
    have e2 : (Tr.node tb a b).dep = max a.dep b.dep + 1 := rfl
    rw [e1, e2] at hs
    rw [e2] at hd
    have a1 := a.size_pos
    have b1 := b.size_pos
    obtain ⟨n, h⟩ := safe_tree (Fin := Fin) a rows pl (⟨b, d + 1, false⟩ :: ⟨.node tb a b, d, true⟩ :: todo) (d + 1) ok.2.2.1 wf (by omega) (by simp only [List.length_cons]; omega) fun new wf1 hl1 has1 => by
      refine safe_tree (Fin := Fin) b (rows ++ new) _ (⟨.node tb a b, d, true⟩ :: todo) (d + 1) ok.2.2.2 wf1 (by omega) (by simp only [List.length_cons, List.length_append]; omega) fun new2 wf2 hl2 has2 => ?_
      have hA : Has (rows ++ new ++ new2) (rows.length + a.size - 1) a := by
        obtain ⟨x, h1, h2⟩ := has1
        exact ⟨x, by rw [List.getElem?_append_left (List.getElem?_eq_some_iff.mp h1).1]; exact h1, h2⟩
      have el : (rows ++ new).length + b.size - 1 = rows.length + a.size + b.size - 1 := by rw [List.length_append, hl1]
      rw [el] at has2
      have el2 : (rows ++ new ++ new2).length = rows.length + a.size + b.size := by rw [List.length_append, List.length_append, hl1, hl2]
      have rok : RowOk K (rows ++ new ++ new2) (rows ++ new ++ new2).length ⟨.node tb a b, ((rows.length + a.size - 1 : Nat) : Int), ((rows.length + a.size + b.size - 1 : Nat) : Int)⟩ :=
        ⟨ok, _, _, rfl, rfl, by omega, by omega, hA, has2⟩
      obtain ⟨m, hm⟩ := k (new ++ new2 ++ [⟨.node tb a b, ((rows.length + a.size - 1 : Nat) : Int), ((rows.length + a.size + b.size - 1 : Nat) : Int)⟩])
        (by rw [← List.append_assoc, ← List.append_assoc]; exact wf2.snoc rok) (by rw [List.length_append, List.length_append, hl1, hl2]; rfl)
        ⟨_, by
          rw [← List.append_assoc, ← List.append_assoc, e1, show rows.length + (a.size + b.size + 1) - 1 = (rows ++ new ++ new2).length by omega, List.getElem?_append_right (Nat.le_refl _), Nat.sub_self]
          rfl, rfl⟩
      refine ⟨m + 1, ?_⟩
      rw [el]
      refine .opn (by omega) (by omega) ?_
      rw [el2]
      rw [← List.append_assoc, ← List.append_assoc, e1] at hm
      rw [show rows.length + (a.size + b.size + 1) - 1 = rows.length + a.size + b.size by omega] at hm
      exact hm
    exact ⟨n + 1, .node ok (by omega) (by omega) h⟩
/-- what listed leads to -/
structure Lst (K : Nat) (T : Tr) (rows : List Row) : Prop where
  wf : Wf K rows
  len : rows.length = T.size
  last : Has rows (T.size - 1) T
theorem safe_start {K : Nat} {T : Tr} (ok : T.ok K) (hd : T.dep ≤ 40) (hs : T.size + T.dep ≤ 150) : ∃ n, Safe K (fun rows _ => Lst K T rows) n [] [] [⟨T, 1, false⟩] := by
  refine safe_tree T [] [] [] 1 ok Wf.nil (by omega) (by simp; omega) fun new wf hl has => ⟨0, .fin ⟨wf, by simpa using hl, by simpa using has⟩⟩
/-! ### costs by rows -/
def rcost (p : Nat) (x : Row) : Int := (x.t.cost p : Int)
theorem rcost_leaf {K : Nat} {p : Nat} {rows : List Row} {i : Nat} {x : Row} (wf : Wf K rows) (h : rows[i]? = some x) (hl : x.l < 0) : rcost p x = 1 := by
  have r := wf i x h
  obtain ⟨t, l, rr⟩ := x
  cases t with
  | leaf v => rfl
  | node tb a b =>
    obtain ⟨li, ri, e1, _⟩ := r.2
    have e : l = li := e1
    omega
end Bf
local macro_rules | `(tactic| walk_at "pfT2") => `(tactic| first | decide +kernel | omega | assumption | rfl | (simp only [List.length_cons, List.length_nil]; omega))
local macro_rules | `(tactic| walk_at "rd1T2") => `(tactic| first
  | with_reducible refine Bf.r_seq ?_
  | with_reducible refine Bf.r_asg ?_
  | with_reducible refine Bf.r_var (by with_unfolding_all rfl) ?_
  | with_reducible refine Bf.r_c ?_
  | with_reducible refine Bf.r_name ?_
  | with_reducible refine Bf.r_ret ?_
  | with_reducible refine Bf.r_op ?_
  | with_reducible refine Bf.r_I0 ?_
  | ((with_reducible refine Bf.r_I ?c ?_); (case c => first | decide | (show (0 : Int) < _; omega) | (refine Or.inl ⟨?_, ?_⟩ <;> omega) | (refine Or.inr ⟨?_, ?_⟩ <;> omega) | (refine And.intro ?_ ?_ <;> omega)))
  | with_reducible refine Bf.r_ifS ?_
  | with_reducible refine Bf.r_test ?_
  | with_reducible refine Bf.r_isbl ?_
  | with_reducible refine Bf.r_eqI ?_
  | with_reducible refine Bf.r_neI ?_
  | with_reducible refine Bf.r_eqS ?_
  | with_reducible refine Bf.r_neS ?_
  | with_reducible refine Bf.r_cons ?_
  | with_reducible refine Bf.r_nil ?_
  | with_reducible refine Bf.r_CB ?_
  | with_reducible refine Bf.r_call ?_
  | with_reducible refine Bf.i_t ?_
  | with_reducible refine Bf.i_f ?_
  | with_reducible refine Bf.i_nt ?_
  | with_reducible refine Bf.i_nf ?_
  | with_reducible refine Bf.r_ixT (by assumption) (by with_unfolding_all rfl) ?_
  | with_reducible refine Bf.r_ixL (by assumption) (by with_unfolding_all rfl) ?_
  | with_reducible refine Bf.r_fld ?_
  | ((with_reducible refine Bf.r_fat (by assumption) ?c ?n (by with_unfolding_all rfl) ?_); (case c => assumption); (case n => assumption))
  | with_reducible refine Bf.r_par ?_
  | with_reducible refine Bf.r_two ?_
  | with_reducible refine Bf.r_aug (by with_unfolding_all rfl) ?_
  | with_reducible refine Bf.r_ip ?_
  | with_reducible refine Bf.r_app (by with_unfolding_all rfl) (by assumption) ?_
  | with_reducible refine Bf.r_next ?_
  | with_reducible refine Bf.r_cont ?_
  | with_reducible refine Bf.r_drop ?_
  | with_reducible refine Bf.r_and ?_
  | with_reducible refine Bf.r_or ?_
  | with_reducible refine Bf.r_not ?_
  | with_reducible refine Bf.r_andV ?_
  | with_reducible refine Bf.r_orV ?_
  | with_reducible refine Bf.r_notV ?_
  | with_reducible refine Bf.r_chain ?_
  | with_reducible refine Bf.r_B ?_
  | with_reducible refine Bf.r_ifE ?_
  | with_reducible refine Bf.r_un ?_
  | with_reducible refine Bf.r_U ?_
  | with_reducible refine Bf.r_tup ?_
  | with_reducible refine Bf.r_lst ?_
  | with_reducible refine Bf.r_lenT (by assumption) ?_
  | with_reducible refine Bf.r_lenL (by assumption) ?_
  | with_reducible refine Bf.r_int ?_
  | with_reducible refine Bf.r_max2 ?_
  | with_reducible refine Bf.r_min2 ?_
  | with_reducible refine Bf.isi_ Bf.ty_i Bf.kb_ii ?_
  | with_reducible refine Bf.isi_ Bf.ty_i Bf.kb_ib ?_
  | with_reducible refine Bf.isi_ Bf.ty_i Bf.kb_is ?_
  | with_reducible refine Bf.isi_ Bf.ty_i Bf.kb_it ?_
  | with_reducible refine Bf.isi_ Bf.ty_i Bf.kb_il ?_
  | with_reducible refine Bf.isi_ Bf.ty_s Bf.kb_si ?_
  | with_reducible refine Bf.isi_ Bf.ty_s Bf.kb_sb ?_
  | with_reducible refine Bf.isi_ Bf.ty_s Bf.kb_ss ?_
  | with_reducible refine Bf.isi_ Bf.ty_s Bf.kb_st ?_
  | with_reducible refine Bf.isi_ Bf.ty_s Bf.kb_sl ?_
  | with_reducible refine Bf.isi_ (Bf.ty_t (by assumption)) Bf.kb_tt ?_
  | with_reducible refine Bf.isi_ (Bf.ty_l (by assumption)) Bf.kb_ll ?_
  | with_reducible refine Bf.isi_ (Bf.ty_t (by assumption)) Bf.kb_tl ?_
  | with_reducible refine Bf.isi_ (Bf.ty_l (by assumption)) Bf.kb_lt ?_
  | with_reducible refine Bf.isi_ Bf.ty_b Bf.kb_bi ?_
  | with_reducible refine Bf.isi_ Bf.ty_b Bf.kb_bb ?_
  | with_reducible refine Bf.isi_ Bf.ty_b Bf.kb_bs ?_
  | with_reducible refine Bf.isi_ Bf.ty_b Bf.kb_bt ?_
  | with_reducible refine Bf.isi_ Bf.ty_b Bf.kb_bL ?_
  | with_reducible refine Bf.isi_ Bf.ty_n Bf.kb_ni ?_
  | with_reducible refine Bf.isi_ Bf.ty_n Bf.kb_nb ?_
  | with_reducible refine Bf.isi_ Bf.ty_n Bf.kb_ns ?_
  | with_reducible refine Bf.isi_ Bf.ty_n Bf.kb_nt ?_
  | with_reducible refine Bf.isi_ Bf.ty_n Bf.kb_nl ?_
  | with_reducible refine Bf.isi_ (Bf.ty_t (by assumption)) Bf.kb_ti ?_
  | with_reducible refine Bf.isi_ (Bf.ty_l (by assumption)) Bf.kb_li ?_
  | with_reducible refine Bf.isi_ (Bf.ty_t (by assumption)) Bf.kb_tb ?_
  | with_reducible refine Bf.isi_ (Bf.ty_l (by assumption)) Bf.kb_lb ?_
  | with_reducible refine Bf.isi_ (Bf.ty_t (by assumption)) Bf.kb_ts ?_
  | with_reducible refine Bf.isi_ (Bf.ty_l (by assumption)) Bf.kb_ls ?_
  | with_reducible refine Bf.r_gtup (by assumption) (by with_unfolding_all rfl) ?_
  | with_reducible refine Bf.r_gcons ?_
  | with_reducible refine Bf.r_gnil ?_
  | with_reducible refine Bf.r_gsub ?_
  | ((with_reducible refine Bf.n_num ?h ?_); (case h => first | assumption | (refine And.intro ?_ ?_ <;> omega)))
  | with_reducible refine Bf.n_isint ?_
  | with_reducible refine Bf.n_mixed ?_
  | with_reducible refine Bf.r_dget ?_
  | with_reducible refine Bf.n_dgetS (by assumption) (by with_unfolding_all rfl) ?_
  | with_reducible refine Bf.r_pcons ?_
  | with_reducible refine Bf.r_pnil ?_
  | with_reducible refine Bf.r_sl ?_
  | with_reducible refine Bf.r_nopart ?_
  | with_reducible refine Bf.r_part ?_
  | with_reducible refine Bf.r_isint ?_
  | with_reducible refine Bf.r_revL ?_
  | with_reducible refine Bf.r_sfld ?_
  | with_reducible refine Bf.r_meth ?_
  | with_reducible refine Bf.n_meth (by assumption) (by with_unfolding_all rfl) ?_
  | with_reducible refine Bf.r_make ?_
  | with_reducible refine Bf.r_turn ?_
  | with_reducible refine Bf.r_wipe (by with_unfolding_all rfl) ?_
  | with_reducible refine Bf.r_yes ?_
  | with_reducible refine Bf.r_tru ?_
  | with_reducible refine Bf.r_ext (by with_unfolding_all rfl) (by assumption) ?_
  | with_reducible refine Bf.r_glst (by assumption) (by with_unfolding_all rfl) ?_
  | with_reducible refine Bf.r_forR3 ?_
  | with_reducible refine Bf.r_lcR2 ?_
  | with_reducible refine Bf.r_lcL ?_
  | with_reducible refine Bf.r_lcT ?_
  | with_reducible refine Bf.r_lcR ?_
  | with_reducible refine Bf.r_forL ?_
  | with_reducible refine Bf.r_forZ ?_
  | with_reducible refine Bf.r_forT ?_
  | with_reducible refine Bf.r_forR ?_
  | with_reducible refine Bf.r_forR2 ?_
  | ((with_reducible refine Bf.i_d1 ?h ?_); (case h => walk_at "pfT2"))
  | ((with_reducible refine Bf.i_d0 ?h ?_); (case h => walk_at "pfT2"))
  | ((with_reducible refine Bf.i_n1 ?h ?_); (case h => walk_at "pfT2"))
  | ((with_reducible refine Bf.i_n0 ?h ?_); (case h => walk_at "pfT2")))
local macro_rules | `(tactic| walk_at "rdT2") => `(tactic| repeat walk_at "rd1T2")
namespace Bf
open PySem L2
abbrev s_is_leaf : Stmt := topS 35
theorem bi_is_leaf : ∀ (kV doc pm : Value) (an : Option Addr) (cdv ct : Value) (us : List Value), us.length = 2 → bindArgs (PySem.W.fnOf "is_leaf" "is_leaf" (defArgs s_is_leaf) (defBody s_is_leaf) (defScope s_is_leaf) .none kV doc pm an cdv ct) ⟨us, []⟩ = pure ((["node", "values"] : List Str).zip us) := fun _ _ _ _ _ _ us hl => match us, hl with | [_, _], _ => rfl
theorem sc_is_leaf : FnScope ["node", "values"] ["node", "values"] (defScope s_is_leaf) := C8.fnScope_by (by decide +kernel)
abbrev s_is_inner : Stmt := topS 36
theorem bi_is_inner : ∀ (kV doc pm : Value) (an : Option Addr) (cdv ct : Value) (us : List Value), us.length = 2 → bindArgs (PySem.W.fnOf "is_inner" "is_inner" (defArgs s_is_inner) (defBody s_is_inner) (defScope s_is_inner) .none kV doc pm an cdv ct) ⟨us, []⟩ = pure ((["node", "values"] : List Str).zip us) := fun _ _ _ _ _ _ us hl => match us, hl with | [_, _], _ => rfl
theorem sc_is_inner : FnScope ["node", "values"] ["node", "values"] (defScope s_is_inner) := C8.fnScope_by (by decide +kernel)
abbrev s_listed : Stmt := topS 34
theorem bi_listed : ∀ (kV doc pm : Value) (an : Option Addr) (cdv ct : Value) (us : List Value), us.length = 2 → bindArgs (PySem.W.fnOf "listed" "listed" (defArgs s_listed) (defBody s_listed) (defScope s_listed) .none kV doc pm an cdv ct) ⟨us, []⟩ = pure ((["tree", "values"] : List Str).zip us) := fun _ _ _ _ _ _ us hl => match us, hl with | [_, _], _ => rfl
theorem sc_listed : FnScope ["tree", "values", "rows", "places", "tasks", "node", "depth", "opened", "right", "left"] ["tree", "values"] (defScope s_listed) := C8.fnScope_by (by decide +kernel)
abbrev s_rows_of : Stmt := topS 37
theorem bi_rows_of : ∀ (kV doc pm : Value) (an : Option Addr) (cdv ct : Value) (us : List Value), us.length = 2 → bindArgs (PySem.W.fnOf "rows_of" "rows_of" (defArgs s_rows_of) (defBody s_rows_of) (defScope s_rows_of) .none kV doc pm an cdv ct) ⟨us, []⟩ = pure ((["tree", "values"] : List Str).zip us) := fun _ _ _ _ _ _ us hl => match us, hl with | [_, _], _ => rfl
theorem sc_rows_of : FnScope ["tree", "values", "rows"] ["tree", "values"] (defScope s_rows_of) := C8.fnScope_by (by decide +kernel)
def Tr.isLeaf : Tr → Bool
  | .leaf _ => true
  | .node .. => false
def spLeaf : Sp := fun vs H Q _ => ∃ (t : Tr) (K : Nat) (v : V), vs = [v, .int K] ∧ Rp H t.d v ∧ t.ok K ∧ Q (.bl t.isLeaf) H
def spInner : Sp := fun vs H Q _ => ∃ (tb : List (List Int)) (a b : Tr) (K : Nat) (v : V), vs = [v, .int K] ∧ Rp H (Tr.node tb a b).d v ∧ (Tr.node tb a b).ok K ∧ Q (.bl true) H
def spListed : Sp := fun vs H Q _ => ∃ (t : Tr) (K : Nat) (v : V), vs = [v, .int K] ∧ Rp H t.d v ∧ t.ok K ∧ t.dep ≤ 40 ∧ t.size + t.dep ≤ 150 ∧ ∀ (q : Addr) (rows : List Row) H', H q = none → Same H H' → LD H' q (rows.map Row.d) → Lst K t rows → Q (.ref q) H'
def spRows : Sp := fun vs H Q _ => ∃ (t : Tr) (K : Nat) (v : V), vs = [v, .int K] ∧ 1 ≤ K ∧ K ≤ 40 ∧ Rp H t.d v ∧ t.ok K ∧ t.dep ≤ 40 ∧ t.size + t.dep ≤ 150 ∧ ∀ (q : Addr) (rows : List Row) H', H q = none → Same H H' → LD H' q (rows.map Row.d) → Lst K t rows → Q (.ref q) H'
section
variable {P : Program} {w : World} {K : PySem.W.Frag} {mg : Str → Option Value} {base : Heap}
theorem cal_is_leaf (T : Gs mg) (c_is_number : C8.Cal P w K mg base 2 "is_number" spIsNum []) (F : DefAt K mg "is_leaf" s_is_leaf) : C8.Cal P w K mg base 3 "is_leaf" spLeaf [] := by
  refine cal_of F sc_is_leaf bi_is_leaf (fun vs H Q E h => ?_) (fun f cdv A outer s H vs Q E hr h => ?_)
  · obtain ⟨t, K, v, rfl, _⟩ := h
    rfl
  · refine ⟨_, (pss_cons (ps_if (PW.pt (pw_or (pt_not (pt_val (pe_callB call_isi (by rfl) T.n_isinstance (by decide +kernel) (pa_cons (pv 0) (pa_cons (pe_bltn (v := .ty "tuple") rfl T.n_tuple (by decide +kernel) rfl) pa_nil))))) (pw_or (pt_cmpR op_ne (pe_callB b_len (by rfl) T.n_len PySem.boot_len (pa_cons (pv 0) pa_nil)) pe_int (nomark _)) (pw_or1 (pt_cmpR op_ne (pe_ix ix_seq (pv 0) pe_int (fun _ _ => rfl)) pe_str (nomark _)))))) (pss_one (ps_ret pe_bl)) pss_nil)
      (pss_one (ps_ret (C8.pe_c c_is_number hr (by first | decide | omega) rfl (pa_cons (pe_ix ix_seq (pv 0) pe_int (fun _ _ => rfl)) (pa_cons (pv 1) pa_nil)))))), ?_⟩
    obtain ⟨t, K, v, rfl, hR, ok, k⟩ := h
    cases t with
    | leaf x =>
      obtain ⟨a, _, rfl, ha, w1, _, rfl, rfl, w2, _, rfl, rfl, rfl⟩ := hR
      have ok' : 0 ≤ x ∧ x < (K : Int) := ok
      walk_at "rdT2"
      exact k
    | node tb l r =>
      obtain ⟨a, _, rfl, ha, w1, _, rfl, rfl, w2, _, rfl, hT, w3, _, rfl, hl, w4, _, rfl, hr, rfl⟩ := hR
      walk_at "rdT2"
      exact k
theorem cal_is_inner (T : Gs mg) (c_is_table : C8.Cal P w K mg base 3 "is_table" spTable []) (F : DefAt K mg "is_inner" s_is_inner) : C8.Cal P w K mg base 4 "is_inner" spInner [] := by
  refine cal_of F sc_is_inner bi_is_inner (fun vs H Q E h => ?_) (fun f cdv A outer s H vs Q E hr h => ?_)
  · obtain ⟨tb, a, b, K, v, rfl, _⟩ := h
    rfl
  · refine ⟨_, (pss_cons (ps_if (PW.pt (pw_or (pt_not (pt_val (pe_callB call_isi (by rfl) T.n_isinstance (by decide +kernel) (pa_cons (pv 0) (pa_cons (pe_bltn (v := .ty "tuple") rfl T.n_tuple (by decide +kernel) rfl) pa_nil))))) (pw_or (pt_cmpR op_ne (pe_callB b_len (by rfl) T.n_len PySem.boot_len (pa_cons (pv 0) pa_nil)) pe_int (nomark _)) (pw_or1 (pt_cmpR op_ne (pe_ix ix_seq (pv 0) pe_int (fun _ _ => rfl)) pe_str (nomark _)))))) (pss_one (ps_ret pe_bl)) pss_nil)
      (pss_one (ps_ret (pe_and (C8.pe_c c_is_table hr (by first | decide | omega) rfl (pa_cons (pe_ix ix_seq (pv 0) pe_int (fun _ _ => rfl)) (pa_cons (pv 1) pa_nil))) (pe_one (pe_cmpR op_eq (pe_callB b_len (by rfl) T.n_len PySem.boot_len (pa_cons (pe_ix ix_seq (pv 0) pe_int (fun _ _ => rfl)) pa_nil)) (pv 1) (nomark _))))))), ?_⟩
    obtain ⟨tb, l, r, K, v, rfl, hR, ok, k⟩ := h
    obtain ⟨a, _, rfl, ha, w1, _, rfl, rfl, w2, _, rfl, hT, w3, _, rfl, hl, w4, _, rfl, hr, rfl⟩ := hR
    have hT0 := hT
    obtain ⟨q, ws, rfl, hq, hws⟩ := hT
    have hlen := hws.len
    rw [List.length_map, ok.2.1] at hlen
    have e : (ws.length : Int) = (K : Int) := by omega
    walk_at "rdT2"
    refine ⟨tb, K, _, rfl, hT0, ok.1, by rw [ok.2.1]; exact Int.le_refl _, ?_⟩
    walk_at "rdT2"
    rw [decide_eq_true e]
    exact k
theorem cal_listed (T : Gs mg) (c_is_leaf : C8.Cal P w K mg base 3 "is_leaf" spLeaf []) (c_is_inner : C8.Cal P w K mg base 4 "is_inner" spInner []) (F : DefAt K mg "listed" s_listed) : C8.Cal P w K mg base 5 "listed" spListed [] := by
  refine cal_of F sc_listed bi_listed (fun vs H Q E h => ?_) (fun f cdv A outer s H vs Q E hr h => ?_)
  · obtain ⟨t, K, v, rfl, _⟩ := h
    rfl
  · refine ⟨_, (pss_cons (ps_set (i := 2) sc_listed.nd rfl (by first | exact Or.inl rfl | exact Or.inr rfl) (pe_lst pa_nil))
      (pss_cons (ps_set (i := 3) sc_listed.nd rfl (by first | exact Or.inl rfl | exact Or.inr rfl) (pe_lst pa_nil))
      (pss_cons (ps_set (i := 4) sc_listed.nd rfl (by first | exact Or.inl rfl | exact Or.inr rfl) (pe_lst (pa_cons (pe_tup (pa_cons (pv 0) (pa_cons pe_int (pa_cons pe_bl pa_nil)))) pa_nil)))
      (pss_cons (ps_while PassesOwn.never (pt_tru (pv 4) (fun _ => rfl)) (pss_cons (ps_asg (pe_bm0 PySem.F.plainAttrs_list PySem.F.slot_list_pop PySem.F.type_list_pop mt_pop (pv 4)) (pg_tup rfl (pgs_cons (pg_name (i := 5) sc_listed.nd rfl (by first | exact Or.inl rfl | exact Or.inr rfl)) (pgs_cons (pg_name (i := 6) sc_listed.nd rfl (by first | exact Or.inl rfl | exact Or.inr rfl)) (pgs_cons (pg_name (i := 7) sc_listed.nd rfl (by first | exact Or.inl rfl | exact Or.inr rfl)) pgs_nil)))))
      (pss_cons (ps_if (pt_val (pv 7)) (pss_cons (ps_set (i := 8) sc_listed.nd rfl (by first | exact Or.inl rfl | exact Or.inr rfl) (pe_bm0 PySem.F.plainAttrs_list PySem.F.slot_list_pop PySem.F.type_list_pop mt_pop (pv 3)))
      (pss_cons (ps_set (i := 9) sc_listed.nd rfl (by first | exact Or.inl rfl | exact Or.inr rfl) (pe_bm0 PySem.F.plainAttrs_list PySem.F.slot_list_pop PySem.F.type_list_pop mt_pop (pv 3)))
      (pss_cons (ps_expr (pe_bm PySem.F.plainAttrs_list PySem.F.slot_list_append PySem.F.type_list_append mt_append (pv 2) (pa_cons (pe_tup (pa_cons (pv 5) (pa_cons (pv 9) (pa_cons (pv 8) pa_nil)))) pa_nil)))
      (pss_cons (ps_expr (pe_bm PySem.F.plainAttrs_list PySem.F.slot_list_append PySem.F.type_list_append mt_append (pv 3) (pa_cons (pe_op op_sub (pe_callB b_len (by rfl) T.n_len PySem.boot_len (pa_cons (pv 2) pa_nil)) pe_int) pa_nil)))
      (pss_one (ps_continue)))))) pss_nil)
      (pss_cons (ps_if (PW.pt (pw_or (pt_cmpR op_gt (pv 6) (C8.pe_gc rfl T.c_NESTED) (nomark _)) (pw_or1 (pt_cmpR op_ge (pe_op op_add (pe_callB b_len (by rfl) T.n_len PySem.boot_len (pa_cons (pv 2) pa_nil)) (pe_callB b_len (by rfl) T.n_len PySem.boot_len (pa_cons (pv 4) pa_nil))) (C8.pe_gc rfl T.c_NODES) (nomark _))))) (pss_one (ps_never)) pss_nil)
      (pss_one (ps_if (pt_val (C8.pe_c c_is_leaf hr (by first | decide | omega) rfl (pa_cons (pv 5) (pa_cons (pv 1) pa_nil)))) (pss_cons (ps_expr (pe_bm PySem.F.plainAttrs_list PySem.F.slot_list_append PySem.F.type_list_append mt_append (pv 2) (pa_cons (pe_tup (pa_cons (pv 5) (pa_cons (pe_un un_neg pe_int) (pa_cons (pe_un un_neg pe_int) pa_nil)))) pa_nil)))
      (pss_one (ps_expr (pe_bm PySem.F.plainAttrs_list PySem.F.slot_list_append PySem.F.type_list_append mt_append (pv 3) (pa_cons (pe_op op_sub (pe_callB b_len (by rfl) T.n_len PySem.boot_len (pa_cons (pv 2) pa_nil)) pe_int) pa_nil))))) (pss_one (ps_if (pt_val (C8.pe_c c_is_inner hr (by first | decide | omega) rfl (pa_cons (pv 5) (pa_cons (pv 1) pa_nil)))) (pss_cons (ps_expr (pe_bm PySem.F.plainAttrs_list PySem.F.slot_list_append PySem.F.type_list_append mt_append (pv 4) (pa_cons (pe_tup (pa_cons (pv 5) (pa_cons (pv 6) (pa_cons pe_bl pa_nil)))) pa_nil)))
      (pss_cons (ps_expr (pe_bm PySem.F.plainAttrs_list PySem.F.slot_list_append PySem.F.type_list_append mt_append (pv 4) (pa_cons (pe_tup (pa_cons (pe_ix ix_seq (pv 5) pe_int (fun _ _ => rfl)) (pa_cons (pe_op op_add (pv 6) pe_int) (pa_cons pe_bl pa_nil)))) pa_nil)))
      (pss_one (ps_expr (pe_bm PySem.F.plainAttrs_list PySem.F.slot_list_append PySem.F.type_list_append mt_append (pv 4) (pa_cons (pe_tup (pa_cons (pe_ix ix_seq (pv 5) pe_int (fun _ _ => rfl)) (pa_cons (pe_op op_add (pv 6) pe_int) (pa_cons pe_bl pa_nil)))) pa_nil)))))) (pss_one (ps_never))))))))))
      (pss_one (ps_ret (pv 2))))))), ?_⟩
    obtain ⟨t, n, v, rfl, hR, ok, hd, hs, k⟩ := h
    have hsz : sizeLine = 2 ^ 24 := rfl
    walk_at "rdT2"
    refine n_lst (by decide) fun r H1 nr s1 hr1 => ?_
    walk_at "rdT2"
    refine n_lst (by decide) fun p H2 np s2 hp2 => ?_
    walk_at "rdT2"
    refine n_tup (Nat.le_of_ble_eq_true rfl) fun z H3 nz s3 hz3 => ?_
    walk_at "rdT2"
    refine n_lst (Nat.le_of_ble_eq_true rfl) fun q H4 nq s4 hq4 => ?_
    have hr4 := s4 _ _ (s3 _ _ (s2 _ _ hr1))
    have hp4 := s4 _ _ (s3 _ _ hp2)
    have hz4 := s4 _ _ hz3
    have s04 := s1.trans (s2.trans (s3.trans s4))
    have nq0 : H q = none := none_of_same (s1.trans (s2.trans s3)) nq
    have np0 : H p = none := none_of_same s1 np
    have rp : r ≠ p := ne_of_none hr1 np
    have rq : r ≠ q := ne_of_none (s3 _ _ (s2 _ _ hr1)) nq
    have pq : p ≠ q := ne_of_none (s3 _ _ hp2) nq
    obtain ⟨m0, safe0⟩ := safe_start ok hd hs
    walk_at "rdT2"
    refine n_while (fun m σ H' => ∃ (u5 u6 u7 u8 u9 : Option V) (rows : List Row) (pl : List Int) (todo : List Tk), σ = [some v, some (.int n), some (.ref r), some (.ref p), some (.ref q), u5, u6, u7, u8, u9] ∧ Safe n (fun rows _ => Lst n t rows) m rows pl todo ∧ Same H H' ∧
      LD H' r (rows.map Row.d) ∧ LD H' p (pl.reverse.map Dt.i) ∧ LD H' q (todo.reverse.map Tk.dt)) m0
      ⟨_, _, _, _, _, [], [], [⟨t, 1, false⟩], rfl, safe0, s04, LD.nil hr4, LD.nil hp4, ⟨_, hq4, _, _, rfl, ⟨z, _, rfl, hz4, _, _, rfl, hR.same s04, _, _, rfl, rfl, _, _, rfl, rfl, rfl⟩, rfl⟩⟩ ?_
    rintro m σ H5 ⟨u5, u6, u7, u8, u9, rows, pl, todo, rfl, safe, s5, lr, lp, lq⟩
    cases safe with
    | fin hf =>
      obtain ⟨ws, hq, hws⟩ := id lq
      have e : ws = [] := hws
      subst e
      walk_at "rdT2"
      refine n_truL hq ?_
      refine w_f ?_
      walk_at "rdT2"
      exact k r rows H5 nr s5 lr hf
    | opn c1 c2 sf =>
      rename_i n' tb ta tc dd li ri pl todo
      rw [List.reverse_cons, List.map_append] at lq
      obtain ⟨wq, vt, hq5, hwq, hvt⟩ := LD.pop lq
      obtain ⟨a, _, rfl, ha, w1, _, rfl, hnd, w2, _, rfl, rfl, w3, _, rfl, rfl, rfl⟩ := hvt
      walk_at "rdT2"
      refine n_truS hq5 ?_
      refine w_t ?_
      walk_at "rdT2"
      refine r_pop (by with_unfolding_all rfl) hq5 fun H6 k6 hq6 => ?_
      have s6 := same_kp nq0 s5 k6
      have lr6 := lr.kp (flats_map Row.flat _) hq5 k6 rq
      have lp6 := lp.kp (flats_i _) hq5 k6 pq
      have lq6 := LD.popped hq5 hwq (flats_map Tk.flat _) k6 hq6
      have ha6 := k6 _ _ (ne_of ha hq5 (by intro z; cases z)) ha
      have hnd6 := hnd.tk (TK.kp hq5 k6) (Tr.flat _)
      walk_at "rdT2"
      rw [List.reverse_cons, List.map_append] at lp6
      obtain ⟨wp, vr, hp6, hwp, hvr⟩ := LD.pop lp6
      cases (show vr = .int ri from hvr)
      refine r_pop (by with_unfolding_all rfl) hp6 fun H7 k7 hp7 => ?_
      have s7 := same_kp np0 s6 k7
      have lr7 := lr6.kp (flats_map Row.flat _) hp6 k7 rp
      have lq7 := lq6.kp (flats_map Tk.flat _) hp6 k7 pq.symm
      have hnd7 := hnd6.tk (TK.kp hp6 k7) (Tr.flat _)
      have lp7 := LD.popped hp6 hwp (flats_i _) k7 hp7
      rw [List.reverse_cons, List.map_append] at lp7
      obtain ⟨wp2, vl, hp7b, hwp2, hvl⟩ := LD.pop lp7
      cases (show vl = .int li from hvl)
      walk_at "rdT2"
      refine r_pop (by with_unfolding_all rfl) hp7b fun H8 k8 hp8 => ?_
      have s8 := same_kp np0 s7 k8
      have lr8 := lr7.kp (flats_map Row.flat _) hp7b k8 rp
      have lq8 := lq7.kp (flats_map Tk.flat _) hp7b k8 pq.symm
      have hnd8 := hnd7.tk (TK.kp hp7b k8) (Tr.flat _)
      have lp8 := LD.popped hp7b hwp2 (flats_i _) k8 hp8
      obtain ⟨wr, hr8, hwr⟩ := id lr8
      have hwl := hwr.len
      rw [List.length_map] at hwl
      walk_at "rdT2"
      refine n_tup (Nat.le_of_ble_eq_true rfl) fun z9 H9 nz9 s89 hz9 => ?_
      replace hr8 := s89 _ _ hr8
      replace hwr := hwr.same s89
      have lq9 := lq8.same s89
      have lp9 := lp8.same s89
      have hnd9 := hnd8.same s89
      have s9 := s8.trans s89
      refine n_app hr8 (by omega) fun H10 k10 hr10 => ?_
      have s10 := same_kp nr s9 k10
      have lr10 := LD.push hr8 hwr (d := Row.d ⟨.node tb ta tc, li, ri⟩) ⟨z9, _, rfl, hz9, _, _, rfl, hnd9, _, _, rfl, rfl, _, _, rfl, rfl, rfl⟩ (flats_map Row.flat _) (Row.flat _) k10 hr10
      have lq10 := lq9.kp (flats_map Tk.flat _) hr8 k10 rq.symm
      have lp10 := lp9.kp (flats_i _) hr8 k10 rp.symm
      obtain ⟨wp10, hp10, hwp10⟩ := id lp10
      have hpl10 := hwp10.len
      rw [List.length_map, List.length_reverse] at hpl10
      walk_at "rdT2"
      refine n_app hp10 (by omega) fun H11 k11 hp11 => ?_
      have s11 := same_kp np0 s10 k11
      have lr11 := lr10.kp (flats_app (flats_map Row.flat _) (Row.flat _)) hp10 k11 rp
      have lq11 := lq10.kp (flats_map Tk.flat _) hp10 k11 pq.symm
      have lp11 := LD.push hp10 hwp10 (d := .i rows.length) (by
        show V.int _ = V.int _
        rw [List.length_append, hwl]
        congr 1
        simp) (flats_i _) rfl k11 hp11
      walk_at "rdT2"
      exact ⟨_, Nat.lt_succ_self _, _, _, _, _, _, rows ++ [⟨.node tb ta tc, li, ri⟩], (rows.length : Int) :: pl, todo, rfl, sf, s11, by rw [List.map_append]; exact lr11, by rw [List.reverse_cons, List.map_append]; exact lp11, lq11⟩
    | leaf hv c1 c2 c3 sf =>
      rename_i n' dd todo x
      rw [List.reverse_cons, List.map_append] at lq
      obtain ⟨wq, vt, hq5, hwq, hvt⟩ := LD.pop lq
      have hql := hwq.len
      rw [List.length_map, List.length_reverse] at hql
      obtain ⟨a, _, rfl, ha, w1, _, rfl, hnd, w2, _, rfl, rfl, w3, _, rfl, rfl, rfl⟩ := hvt
      walk_at "rdT2"
      refine n_truS hq5 ?_
      refine w_t ?_
      walk_at "rdT2"
      refine r_pop (by with_unfolding_all rfl) hq5 fun H6 k6 hq6 => ?_
      have s6 := same_kp nq0 s5 k6
      have lr6 := lr.kp (flats_map Row.flat _) hq5 k6 rq
      have lp6 := lp.kp (flats_i _) hq5 k6 pq
      have lq6 := LD.popped hq5 hwq (flats_map Tk.flat _) k6 hq6
      have ha6 := k6 _ _ (ne_of ha hq5 (by intro z; cases z)) ha
      have hnd6 := hnd.tk (TK.kp hq5 k6) (Tr.flat _)
      obtain ⟨wr, hr6, hwr⟩ := id lr6
      have hwl := hwr.len
      rw [List.length_map] at hwl
      walk_at "rdT2"
      refine ⟨.leaf x, n, _, rfl, hnd6, hv, ?_⟩
      rw [show (Tr.leaf x).isLeaf = true from rfl]
      walk_at "rdT2"
      refine n_tup (Nat.le_of_ble_eq_true rfl) fun z9 H9 nz9 s89 hz9 => ?_
      replace hr6 := s89 _ _ hr6
      replace hwr := hwr.same s89
      have lq9 := lq6.same s89
      have lp9 := lp6.same s89
      have hnd9 := hnd6.same s89
      have s9 := s6.trans s89
      refine n_app hr6 (by omega) fun H10 k10 hr10 => ?_
      have s10 := same_kp nr s9 k10
      have lr10 := LD.push hr6 hwr (d := Row.d ⟨.leaf x, -1, -1⟩) ⟨z9, _, rfl, hz9, _, _, rfl, hnd9, _, _, rfl, rfl, _, _, rfl, rfl, rfl⟩ (flats_map Row.flat _) (Row.flat _) k10 hr10
      have lq10 := lq9.kp (flats_map Tk.flat _) hr6 k10 rq.symm
      have lp10 := lp9.kp (flats_i _) hr6 k10 rp.symm
      obtain ⟨wp10, hp10, hwp10⟩ := id lp10
      have hpl10 := hwp10.len
      rw [List.length_map, List.length_reverse] at hpl10
      walk_at "rdT2"
      refine n_app hp10 (by omega) fun H11 k11 hp11 => ?_
      have s11 := same_kp np0 s10 k11
      have lr11 := lr10.kp (flats_app (flats_map Row.flat _) (Row.flat _)) hp10 k11 rp
      have lq11 := lq10.kp (flats_map Tk.flat _) hp10 k11 pq.symm
      have lp11 := LD.push hp10 hwp10 (d := .i rows.length) (by
        show V.int _ = V.int _
        rw [List.length_append, hwl]
        congr 1
        simp) (flats_i _) rfl k11 hp11
      walk_at "rdT2"
      exact ⟨_, Nat.lt_succ_self _, _, _, _, _, _, rows ++ [⟨.leaf x, -1, -1⟩], (rows.length : Int) :: pl, todo, rfl, sf, s11, by rw [List.map_append]; exact lr11, by rw [List.reverse_cons, List.map_append]; exact lp11, lq11⟩
    | node hok c1 c2 sf =>
      rename_i n' tb ta tc dd todo
      rw [List.reverse_cons, List.map_append] at lq
      obtain ⟨wq, vt, hq5, hwq, hvt⟩ := LD.pop lq
      have hql := hwq.len
      rw [List.length_map, List.length_reverse] at hql
      obtain ⟨a, _, rfl, ha, w1, _, rfl, hnd, w2, _, rfl, rfl, w3, _, rfl, rfl, rfl⟩ := hvt
      walk_at "rdT2"
      refine n_truS hq5 ?_
      refine w_t ?_
      walk_at "rdT2"
      refine r_pop (by with_unfolding_all rfl) hq5 fun H6 k6 hq6 => ?_
      have s6 := same_kp nq0 s5 k6
      have lr6 := lr.kp (flats_map Row.flat _) hq5 k6 rq
      have lp6 := lp.kp (flats_i _) hq5 k6 pq
      have lq6 := LD.popped hq5 hwq (flats_map Tk.flat _) k6 hq6
      have ha6 := k6 _ _ (ne_of ha hq5 (by intro z; cases z)) ha
      have hnd6 := hnd.tk (TK.kp hq5 k6) (Tr.flat _)
      obtain ⟨wr, hr6, hwr⟩ := id lr6
      have hwl := hwr.len
      rw [List.length_map] at hwl
      walk_at "rdT2"
      refine ⟨.node tb ta tc, n, _, rfl, hnd6, hok, ?_⟩
      rw [show (Tr.node tb ta tc).isLeaf = false from rfl]
      walk_at "rdT2"
      refine ⟨tb, ta, tc, n, _, rfl, hnd6, hok, ?_⟩
      have hnd60 := hnd6
      obtain ⟨an, _, rfl, han, x1, _, rfl, rfl, x2, _, rfl, hT, x3, _, rfl, hA, x4, _, rfl, hC, rfl⟩ := hnd6
      have hq60 := hq6
      obtain ⟨wq6, hq6b, hwq6⟩ := id lq6
      have ewq : wq6 = wq := by
        rw [hq6] at hq6b
        cases hq6b
        rfl
      subst ewq
      walk_at "rdT2"
      refine n_tup (Nat.le_of_ble_eq_true rfl) fun z9 H9 nz9 s89 hz9 => ?_
      have hq9 := s89 _ _ hq6
      have hwq9 := hwq6.same s89
      have lr9 := lr6.same s89
      have lp9 := lp6.same s89
      have hnd9 := hnd60.same s89
      have hA9 := hA.same s89
      have hC9 := hC.same s89
      have han9 := s89 _ _ han
      have s9 := s6.trans s89
      refine n_app hq9 (by omega) fun H10 k10 hq10 => ?_
      have lq10 := LD.push hq9 hwq9 (d := Tk.dt ⟨.node tb ta tc, dd, true⟩) (v := .ref z9) ⟨z9, _, rfl, hz9, _, _, rfl, hnd9, _, _, rfl, rfl, _, _, rfl, rfl, rfl⟩ (flats_map Tk.flat _) (Tk.flat _) k10 hq10
      have s10 := same_kp nq0 s9 k10
      have lr10 := lr9.kp (flats_map Row.flat _) hq9 k10 rq
      have lp10 := lp9.kp (flats_i _) hq9 k10 pq
      have han10 := k10 _ _ (ne_of han9 hq9 (by intro z; cases z)) han9
      have hA10 := hA9.tk (TK.kp hq9 k10) (Tr.flat _)
      have hC10 := hC9.tk (TK.kp hq9 k10) (Tr.flat _)
      obtain ⟨wqa, hqa, hwqa⟩ := id lq10
      have hla := hwqa.len
      rw [List.length_append, List.length_map, List.length_reverse] at hla
      walk_at "rdT2"
      refine n_tup (Nat.le_of_ble_eq_true rfl) fun zb Hb nzb sb hzb => ?_
      replace hqa := sb _ _ hqa
      replace hwqa := hwqa.same sb
      have hA11 := hA10.same sb
      have hC11 := hC10.same sb
      have han11 := sb _ _ han10
      have lr11 := lr10.same sb
      have lp11 := lp10.same sb
      have s11 := s10.trans sb
      refine n_app hqa (by simp at hla; omega) fun H12 k12 hq12 => ?_
      have lq12 := LD.push hqa hwqa (d := Tk.dt ⟨tc, dd + 1, false⟩) (v := .ref zb) ⟨zb, _, rfl, hzb, _, _, rfl, hC11, _, _, rfl, rfl, _, _, rfl, rfl, rfl⟩ (flats_app (flats_map Tk.flat _) (Tk.flat _)) (Tk.flat _) k12 hq12
      have s12 := same_kp nq0 s11 k12
      have lr12 := lr11.kp (flats_map Row.flat _) hqa k12 rq
      have lp12 := lp11.kp (flats_i _) hqa k12 pq
      have han12 := k12 _ _ (ne_of han11 hqa (by intro z; cases z)) han11
      have hA12 := hA11.tk (TK.kp hqa k12) (Tr.flat _)
      obtain ⟨wqc, hqc, hwqc⟩ := id lq12
      have hlc := hwqc.len
      rw [List.length_append, List.length_append, List.length_map, List.length_reverse] at hlc
      walk_at "rdT2"
      refine n_tup (Nat.le_of_ble_eq_true rfl) fun zd Hd nzd sd hzd => ?_
      replace hqc := sd _ _ hqc
      replace hwqc := hwqc.same sd
      have hA13 := hA12.same sd
      have lr13 := lr12.same sd
      have lp13 := lp12.same sd
      have s13 := s12.trans sd
      refine n_app hqc (by simp at hlc; omega) fun H14 k14 hq14 => ?_
      have lq14 := LD.push hqc hwqc (d := Tk.dt ⟨ta, dd + 1, false⟩) (v := .ref zd) ⟨zd, _, rfl, hzd, _, _, rfl, hA13, _, _, rfl, rfl, _, _, rfl, rfl, rfl⟩ (flats_app (flats_app (flats_map Tk.flat _) (Tk.flat _)) (Tk.flat _)) (Tk.flat _) k14 hq14
      have s14 := same_kp nq0 s13 k14
      have lr14 := lr13.kp (flats_map Row.flat _) hqc k14 rq
      have lp14 := lp13.kp (flats_i _) hqc k14 pq
      walk_at "rdT2"
      exact ⟨_, Nat.lt_succ_self _, _, _, _, _, _, rows, pl, ⟨ta, dd + 1, false⟩ :: ⟨tc, dd + 1, false⟩ :: ⟨.node tb ta tc, dd, true⟩ :: todo, rfl, sf, s14, lr14, lp14, by
        rw [List.reverse_cons, List.reverse_cons, List.reverse_cons, List.map_append, List.map_append, List.map_append]
        exact lq14⟩
theorem cal_rows_of (T : Gs mg) (c_is_integer : C8.Cal P w K mg base 1 "is_integer" spIsInt []) (c_listed : C8.Cal P w K mg base 5 "listed" spListed []) (F : DefAt K mg "rows_of" s_rows_of) : C8.Cal P w K mg base 6 "rows_of" spRows [] := by
  refine cal_of F sc_rows_of bi_rows_of (fun vs H Q E h => ?_) (fun f cdv A outer s H vs Q E hr h => ?_)
  · obtain ⟨t, K, v, rfl, _⟩ := h
    rfl
  · refine ⟨_, (pss_cons (ps_if (PW.pt (pw_or (pt_not (pt_val (C8.pe_c c_is_integer hr (by first | decide | omega) rfl (pa_cons (pv 1) pa_nil)))) (pw_or1 (pt_not (pt_chain op_le op_le pe_int (pv 1) (C8.pe_gc rfl T.c_VALUES)))))) (pss_one (ps_never)) pss_nil)
      (pss_cons (ps_set (i := 2) sc_rows_of.nd rfl (by first | exact Or.inl rfl | exact Or.inr rfl) (C8.pe_c c_listed hr (by first | decide | omega) rfl (pa_cons (pv 0) (pa_cons (pv 1) pa_nil))))
      (pss_cons (ps_if (pt_cmpR op_gt (pe_callB b_len (by rfl) T.n_len PySem.boot_len (pa_cons (pv 2) pa_nil)) (C8.pe_gc rfl T.c_NODES) (nomark _)) (pss_one (ps_never)) pss_nil)
      (pss_one (ps_ret (pv 2)))))), ?_⟩
    obtain ⟨t, n, v, rfl, n1, n4, hR, ok, hd, hs, k⟩ := h
    walk_at "rdT2"
    refine ⟨t, n, v, rfl, hR, ok, hd, hs, fun q rows H1 nq s1 lq hl => ?_⟩
    have lq0 := lq
    obtain ⟨ws, hq, hws⟩ := lq
    have hwl := hws.len
    rw [List.length_map, hl.len] at hwl
    walk_at "rdT2"
    exact k q rows H1 nq s1 lq0 hl
end
end Bf
/-! trees: primes, compile's tasks -/
namespace Bf
open PySem
def pOf : Nat → Nat
  | 1 => 3 | 2 => 5 | 3 => 7 | 4 => 11 | 5 => 11 | _ => 3
theorem pOf_fact {K : Nat} (h1 : 1 ≤ K) (h5 : K ≤ 5) : Pr (pOf K) ∧ max 3 (2 * K) ≤ pOf K ∧ pOf K ≤ 11 ∧ K ≤ pOf K ∧ ∀ x : Int, ((max 3 (2 * K) : Nat) : Int) ≤ x → x < pOf K → ¬ Pr x := by
  have hK : K = 1 ∨ K = 2 ∨ K = 3 ∨ K = 4 ∨ K = 5 := by omega
  have ev : ∀ {x : Int}, 3 ≤ x → x % 2 = 0 → ¬ Pr x := fun h he hp => by
    have := (pr_even (by omega) he).mp hp
    omega
  rcases hK with e | e | e | e | e <;> subst e
  · exact ⟨pr_trial (n := 3) (k := 0) (by decide) (by decide), by decide, by decide, by decide, fun x h1 h2 => by
      have a1 : (3 : Int) ≤ x := h1
      have a2 : x < (3 : Int) := h2
      omega⟩
  · exact ⟨pr_trial (n := 5) (k := 1) (by decide) (by decide), by decide, by decide, by decide, fun x h1 h2 => by
      have a1 : (4 : Int) ≤ x := h1
      have a2 : x < (5 : Int) := h2
      exact ev (by omega) (by omega)⟩
  · exact ⟨pr_trial (n := 7) (k := 1) (by decide) (by decide), by decide, by decide, by decide, fun x h1 h2 => by
      have a1 : (6 : Int) ≤ x := h1
      have a2 : x < (7 : Int) := h2
      exact ev (by omega) (by omega)⟩
  · exact ⟨pr_trial (n := 11) (k := 2) (by decide) (by decide), by decide, by decide, by decide, fun x h1 h2 => by
      have a1 : (8 : Int) ≤ x := h1
      have a2 : x < (11 : Int) := h2
      by_cases h9 : x = 9
      · subst h9
        intro hp
        exact hp 3 (by decide) (by decide) (by decide)
      · exact ev (by omega) (by omega)⟩
  · exact ⟨pr_trial (n := 11) (k := 2) (by decide) (by decide), by decide, by decide, by decide, fun x h1 h2 => by
      have a1 : (10 : Int) ≤ x := h1
      have a2 : x < (11 : Int) := h2
      exact ev (by omega) (by omega)⟩
theorem atI_end {α : Type} {xs : List α} {v : α} (h : xs[xs.length - 1]? = some v) : L2.atI xs (-1) = some v := by
  have hne : xs ≠ [] := fun e => by rw [e] at h; simp at h
  have e : xs = xs.dropLast ++ [v] := by
    have h2 := List.dropLast_concat_getLast hne
    have h3 : xs.getLast hne = v := by
      rw [List.getLast_eq_getElem]
      rw [List.getElem?_eq_getElem (by have := List.length_pos_iff.mpr hne; omega)] at h
      exact Option.some.inj h
    rw [h3] at h2
    exact h2.symm
  rw [e]
  exact L2.atI_last _ _
/-! ### compile's tasks -/
inductive CT where
  | idx (T : Tr) (i t s : Int)
  | st (s : Step)
def CT.d : CT → Dt
  | .idx _ i t s => .t [.i i, .i t, .i s]
  | .st s => s.d
theorem CT.flat : ∀ x : CT, x.d.flat = true
  | .idx .. => rfl
  | .st s => step_flat s
def Tr.mes (p : Nat) : Tr → Nat
  | .leaf _ => 1
  | .node _ l r => 1 + (p - 1) * (2 * (l.mes p + r.mes p) + 5)
def CT.wt (p : Nat) : CT → Nat
  | .idx T .. => T.cost p
  | .st _ => 1
def CT.mes (p : Nat) : CT → Nat
  | .idx T .. => T.mes p
  | .st _ => 1
def sumW (p : Nat) (l : List CT) : Nat := (l.map (CT.wt p)).sum
def sumM (p : Nat) (l : List CT) : Nat := (l.map (CT.mes p)).sum
theorem sumW_cons {p : Nat} {x : CT} {l : List CT} : sumW p (x :: l) = x.wt p + sumW p l := by simp [sumW]
theorem sumM_cons {p : Nat} {x : CT} {l : List CT} : sumM p (x :: l) = x.mes p + sumM p l := by simp [sumM]
theorem sumW_app {p : Nat} {l m : List CT} : sumW p (l ++ m) = sumW p l + sumW p m := by simp [sumW]
theorem sumM_app {p : Nat} {l m : List CT} : sumM p (l ++ m) = sumM p l + sumM p m := by simp [sumM]
theorem len_le_sumW {p : Nat} (hp : 2 ≤ p) : ∀ l : List CT, l.length ≤ sumW p l
  | [] => Nat.zero_le _
  | x :: r => by
    have h1 := len_le_sumW hp r
    have h2 : 1 ≤ x.wt p := by
      cases x with
      | idx T i t s => exact T.cost_pos hp
      | st s => exact Nat.le_refl 1
    rw [sumW_cons, List.length_cons]
    omega
def Step.plain : Step → Prop
  | .add _ _ fs => fs = []
  | _ => True
def CT.ok (p : Nat) (rows : List Row) : CT → Prop
  | .idx T i t s => 0 ≤ i ∧ Has rows i.toNat T ∧ (t = 0 ∨ t = 1 ∨ t = 2) ∧ (s = 1 ∨ s = -1)
  | .st s => s.ok p 3 0 ∧ s.plain
def oA (t : Int) : Int := if t = 0 then 1 else 0
def oB (t : Int) : Int := if t = 2 then 1 else 2
noncomputable def roundT (p : Nat) (tb : List (List Int)) (a b : Tr) (li ri t s u : Int) : List CT :=
  [.st (.scale (oA t) u), .st (.scale (oB t) u), .idx a li (oA t) 1, .idx b ri (oB t) 1, .st (.table t (if s < 0 then 1 else p - 1) tb (oA t) (oB t)), .idx a li (oA t) (-1), .idx b ri (oB t) (-1), .st (.scale (oA t) (invOf u p)), .st (.scale (oB t) (invOf u p))]
theorem round_W {p : Nat} {tb : List (List Int)} {a b : Tr} {li ri t s u : Int} : sumW p (roundT p tb a b li ri t s u) = 2 * (a.cost p + b.cost p) + 5 := by
  simp [sumW, roundT, CT.wt]
  omega
theorem round_M {p : Nat} {tb : List (List Int)} {a b : Tr} {li ri t s u : Int} : sumM p (roundT p tb a b li ri t s u) = 2 * (a.mes p + b.mes p) + 5 := by
  simp [sumM, roundT, CT.mes]
  omega
theorem tab_le {K p : Nat} (h : K ≤ p) {tb : List (List Int)} (tab : IsTab K tb) : IsTab p tb := { tab with bd := fun r hr e he => by have := tab.bd r hr e he; omega }
theorem round_ok {K p : Nat} (h1 : 1 ≤ K) (hKp : K ≤ p) (p2 : 2 ≤ p) (p9 : p ≤ 1000) (hp : Pr p) {rows : List Row} {tb : List (List Int)} {a b : Tr} {li ri : Nat} {t s u : Int} (tab : IsTab K tb) (tl : tb.length = K) (ha : Has rows li a) (hb : Has rows ri b) (ht : t = 0 ∨ t = 1 ∨ t = 2) (u1 : 1 ≤ u) (u2 : u < p) :
    ∀ x ∈ roundT p tb a b li ri t s u, x.ok p rows := by
  have un : Units (p : Int) p := pr_units (by omega) hp (Int.le_refl _)
  have hg : Int.gcd u p = 1 := by
    have := un u.toNat (by omega) (by omega)
    rwa [show ((u.toNat : Nat) : Int) = u by omega] at this
  have hi := invOf_unit (m := p) (by omega) hg
  have tA : 0 ≤ oA t ∧ oA t < 3 ∧ 0 ≤ oB t ∧ oB t < 3 ∧ oA t ≠ oB t ∧ t ≠ oA t ∧ t ≠ oB t ∧ (oA t = 0 ∨ oA t = 1 ∨ oA t = 2) ∧ (oB t = 0 ∨ oB t = 1 ∨ oB t = 2) := by
    unfold oA oB
    rcases ht with e | e | e <;> subst e <;> decide
  obtain ⟨a0, a3, b0, b3, ab, ta, tb', hA, hB⟩ := tA
  have sc : ∀ c v : Int, 0 ≤ c → c < 3 → 0 ≤ v → v < p → Int.gcd v p = 1 → CT.ok p rows (.st (.scale c v)) := fun c v c0 c3 v0 v1 g => ⟨⟨⟨c0, c3⟩, ⟨v0, v1⟩, g⟩, trivial⟩
  have ix : ∀ (T : Tr) (i : Nat) (c v : Int), Has rows i T → (c = 0 ∨ c = 1 ∨ c = 2) → (v = 1 ∨ v = -1) → CT.ok p rows (.idx T i c v) := fun T i c v h1 h2 h3 => ⟨by omega, h1, h2, h3⟩
  intro x hx
  simp only [roundT, List.mem_cons, List.not_mem_nil, or_false] at hx
  rcases hx with e | e | e | e | e | e | e | e | e <;> subst e
  · exact sc _ _ a0 a3 (by omega) u2 hg
  · exact sc _ _ b0 b3 (by omega) u2 hg
  · exact ix _ _ _ _ ha hA (.inl rfl)
  · exact ix _ _ _ _ hb hB (.inl rfl)
  · refine ⟨⟨by omega, ⟨a0, a3⟩, ⟨b0, b3⟩, ta, tb', ab, ?_, tab_le hKp tab, by omega, by omega, pr_units (by omega) hp (by omega)⟩, trivial⟩
    by_cases hs : s < 0
    · rw [if_pos hs]; exact .inl rfl
    · rw [if_neg hs]; exact .inr rfl
  · exact ix _ _ _ _ ha hA (.inr rfl)
  · exact ix _ _ _ _ hb hB (.inr rfl)
  · exact sc _ _ a0 a3 hi.1 hi.2.1 (inv_gcd hi)
  · exact sc _ _ b0 b3 hi.1 hi.2.1 (inv_gcd hi)
theorem unit_gcd {p : Nat} (p2 : 2 ≤ p) (hp : Pr p) {u : Int} (u1 : 1 ≤ u) (u2 : u < p) : Int.gcd u p = 1 := by
  have := pr_units (m := p) (by omega) hp (Int.le_refl _) u.toNat (by omega) (by omega)
  rwa [show ((u.toNat : Nat) : Int) = u by omega] at this
end Bf
local macro_rules | `(tactic| walk_at "pfT4") => `(tactic| first | decide +kernel | omega | assumption | rfl | (simp only [List.length_cons, List.length_nil]; omega))
local macro_rules | `(tactic| walk_at "rd1T4") => `(tactic| first
  | with_reducible refine Bf.r_seq ?_
  | with_reducible refine Bf.r_asg ?_
  | with_reducible refine Bf.r_var (by with_unfolding_all rfl) ?_
  | with_reducible refine Bf.r_c ?_
  | with_reducible refine Bf.r_name ?_
  | with_reducible refine Bf.r_ret ?_
  | with_reducible refine Bf.r_op ?_
  | with_reducible refine Bf.r_I0 ?_
  | ((with_reducible refine Bf.r_I ?c ?_); (case c => first | decide | (show (0 : Int) < _; omega) | (refine Or.inl ⟨?_, ?_⟩ <;> omega) | (refine Or.inr ⟨?_, ?_⟩ <;> omega) | (refine And.intro ?_ ?_ <;> omega)))
  | with_reducible refine Bf.r_ifS ?_
  | with_reducible refine Bf.r_test ?_
  | with_reducible refine Bf.r_isbl ?_
  | with_reducible refine Bf.r_eqI ?_
  | with_reducible refine Bf.r_neI ?_
  | with_reducible refine Bf.r_eqS ?_
  | with_reducible refine Bf.r_neS ?_
  | with_reducible refine Bf.r_cons ?_
  | with_reducible refine Bf.r_nil ?_
  | with_reducible refine Bf.r_CB ?_
  | with_reducible refine Bf.r_call ?_
  | with_reducible refine Bf.i_t ?_
  | with_reducible refine Bf.i_f ?_
  | with_reducible refine Bf.i_nt ?_
  | with_reducible refine Bf.i_nf ?_
  | with_reducible refine Bf.r_ixT (by assumption) (by with_unfolding_all rfl) ?_
  | with_reducible refine Bf.r_ixL (by assumption) (by with_unfolding_all rfl) ?_
  | with_reducible refine Bf.r_fld ?_
  | ((with_reducible refine Bf.r_fat (by assumption) ?c ?n (by with_unfolding_all rfl) ?_); (case c => assumption); (case n => assumption))
  | with_reducible refine Bf.r_par ?_
  | with_reducible refine Bf.r_two ?_
  | with_reducible refine Bf.r_aug (by with_unfolding_all rfl) ?_
  | with_reducible refine Bf.r_ip ?_
  | with_reducible refine Bf.r_app (by with_unfolding_all rfl) (by assumption) ?_
  | with_reducible refine Bf.r_next ?_
  | with_reducible refine Bf.r_cont ?_
  | with_reducible refine Bf.r_drop ?_
  | with_reducible refine Bf.r_and ?_
  | with_reducible refine Bf.r_or ?_
  | with_reducible refine Bf.r_not ?_
  | with_reducible refine Bf.r_andV ?_
  | with_reducible refine Bf.r_orV ?_
  | with_reducible refine Bf.r_notV ?_
  | with_reducible refine Bf.r_chain ?_
  | with_reducible refine Bf.r_B ?_
  | with_reducible refine Bf.r_ifE ?_
  | with_reducible refine Bf.r_un ?_
  | with_reducible refine Bf.r_U ?_
  | with_reducible refine Bf.r_tup ?_
  | with_reducible refine Bf.r_lst ?_
  | with_reducible refine Bf.r_lenT (by assumption) ?_
  | with_reducible refine Bf.r_lenL (by assumption) ?_
  | with_reducible refine Bf.r_int ?_
  | with_reducible refine Bf.r_max2 ?_
  | with_reducible refine Bf.r_min2 ?_
  | with_reducible refine Bf.isi_ Bf.ty_i Bf.kb_ii ?_
  | with_reducible refine Bf.isi_ Bf.ty_i Bf.kb_ib ?_
  | with_reducible refine Bf.isi_ Bf.ty_i Bf.kb_is ?_
  | with_reducible refine Bf.isi_ Bf.ty_i Bf.kb_it ?_
  | with_reducible refine Bf.isi_ Bf.ty_i Bf.kb_il ?_
  | with_reducible refine Bf.isi_ Bf.ty_s Bf.kb_si ?_
  | with_reducible refine Bf.isi_ Bf.ty_s Bf.kb_sb ?_
  | with_reducible refine Bf.isi_ Bf.ty_s Bf.kb_ss ?_
  | with_reducible refine Bf.isi_ Bf.ty_s Bf.kb_st ?_
  | with_reducible refine Bf.isi_ Bf.ty_s Bf.kb_sl ?_
  | with_reducible refine Bf.isi_ (Bf.ty_t (by assumption)) Bf.kb_tt ?_
  | with_reducible refine Bf.isi_ (Bf.ty_l (by assumption)) Bf.kb_ll ?_
  | with_reducible refine Bf.isi_ (Bf.ty_t (by assumption)) Bf.kb_tl ?_
  | with_reducible refine Bf.isi_ (Bf.ty_l (by assumption)) Bf.kb_lt ?_
  | with_reducible refine Bf.isi_ Bf.ty_b Bf.kb_bi ?_
  | with_reducible refine Bf.isi_ Bf.ty_b Bf.kb_bb ?_
  | with_reducible refine Bf.isi_ Bf.ty_b Bf.kb_bs ?_
  | with_reducible refine Bf.isi_ Bf.ty_b Bf.kb_bt ?_
  | with_reducible refine Bf.isi_ Bf.ty_b Bf.kb_bL ?_
  | with_reducible refine Bf.isi_ Bf.ty_n Bf.kb_ni ?_
  | with_reducible refine Bf.isi_ Bf.ty_n Bf.kb_nb ?_
  | with_reducible refine Bf.isi_ Bf.ty_n Bf.kb_ns ?_
  | with_reducible refine Bf.isi_ Bf.ty_n Bf.kb_nt ?_
  | with_reducible refine Bf.isi_ Bf.ty_n Bf.kb_nl ?_
  | with_reducible refine Bf.isi_ (Bf.ty_t (by assumption)) Bf.kb_ti ?_
  | with_reducible refine Bf.isi_ (Bf.ty_l (by assumption)) Bf.kb_li ?_
  | with_reducible refine Bf.isi_ (Bf.ty_t (by assumption)) Bf.kb_tb ?_
  | with_reducible refine Bf.isi_ (Bf.ty_l (by assumption)) Bf.kb_lb ?_
  | with_reducible refine Bf.isi_ (Bf.ty_t (by assumption)) Bf.kb_ts ?_
  | with_reducible refine Bf.isi_ (Bf.ty_l (by assumption)) Bf.kb_ls ?_
  | with_reducible refine Bf.r_gtup (by assumption) (by with_unfolding_all rfl) ?_
  | with_reducible refine Bf.r_gcons ?_
  | with_reducible refine Bf.r_gnil ?_
  | with_reducible refine Bf.r_gsub ?_
  | ((with_reducible refine Bf.n_num ?h ?_); (case h => first | assumption | (refine And.intro ?_ ?_ <;> omega)))
  | with_reducible refine Bf.n_isint ?_
  | with_reducible refine Bf.n_mixed ?_
  | with_reducible refine Bf.r_dget ?_
  | with_reducible refine Bf.n_dgetS (by assumption) (by with_unfolding_all rfl) ?_
  | with_reducible refine Bf.r_pcons ?_
  | with_reducible refine Bf.r_pnil ?_
  | with_reducible refine Bf.r_sl ?_
  | with_reducible refine Bf.r_nopart ?_
  | with_reducible refine Bf.r_part ?_
  | with_reducible refine Bf.r_isint ?_
  | with_reducible refine Bf.r_revL ?_
  | with_reducible refine Bf.r_sfld ?_
  | with_reducible refine Bf.r_meth ?_
  | with_reducible refine Bf.n_meth (by assumption) (by with_unfolding_all rfl) ?_
  | with_reducible refine Bf.r_make ?_
  | with_reducible refine Bf.r_turn ?_
  | with_reducible refine Bf.r_wipe (by with_unfolding_all rfl) ?_
  | with_reducible refine Bf.r_yes ?_
  | with_reducible refine Bf.r_tru ?_
  | with_reducible refine Bf.r_ext (by with_unfolding_all rfl) (by assumption) ?_
  | with_reducible refine Bf.r_glst (by assumption) (by with_unfolding_all rfl) ?_
  | with_reducible refine Bf.r_forR3 ?_
  | with_reducible refine Bf.r_lcR2 ?_
  | with_reducible refine Bf.r_lcL ?_
  | with_reducible refine Bf.r_lcT ?_
  | with_reducible refine Bf.r_lcR ?_
  | with_reducible refine Bf.r_forL ?_
  | with_reducible refine Bf.r_forZ ?_
  | with_reducible refine Bf.r_forT ?_
  | with_reducible refine Bf.r_forR ?_
  | with_reducible refine Bf.r_forR2 ?_
  | ((with_reducible refine Bf.i_d1 ?h ?_); (case h => walk_at "pfT4"))
  | ((with_reducible refine Bf.i_d0 ?h ?_); (case h => walk_at "pfT4"))
  | ((with_reducible refine Bf.i_n1 ?h ?_); (case h => walk_at "pfT4"))
  | ((with_reducible refine Bf.i_n0 ?h ?_); (case h => walk_at "pfT4")))
local macro_rules | `(tactic| walk_at "rdT4") => `(tactic| repeat walk_at "rd1T4")
namespace Bf
open PySem L2
abbrev s_prime_of : Stmt := topS 38
theorem bi_prime_of : ∀ (kV doc pm : Value) (an : Option Addr) (cdv ct : Value) (us : List Value), us.length = 1 → bindArgs (PySem.W.fnOf "prime_of" "prime_of" (defArgs s_prime_of) (defBody s_prime_of) (defScope s_prime_of) .none kV doc pm an cdv ct) ⟨us, []⟩ = pure ((["values"] : List Str).zip us) := fun _ _ _ _ _ _ us hl => match us, hl with | [_], _ => rfl
theorem sc_prime_of : FnScope ["values", "prime"] ["values"] (defScope s_prime_of) := C8.fnScope_by (by decide +kernel)
abbrev s_tree_cost : Stmt := topS 39
theorem bi_tree_cost : ∀ (kV doc pm : Value) (an : Option Addr) (cdv ct : Value) (us : List Value), us.length = 2 → bindArgs (PySem.W.fnOf "tree_cost" "tree_cost" (defArgs s_tree_cost) (defBody s_tree_cost) (defScope s_tree_cost) .none kV doc pm an cdv ct) ⟨us, []⟩ = pure ((["tree", "values"] : List Str).zip us) := fun _ _ _ _ _ _ us hl => match us, hl with | [_, _], _ => rfl
theorem sc_tree_cost : FnScope ["tree", "values", "rows", "prime", "costs", "_", "left", "right"] ["tree", "values"] (defScope s_tree_cost) := C8.fnScope_by (by decide +kernel)
abbrev s_round_tasks : Stmt := topS 40
theorem bi_round_tasks : ∀ (kV doc pm : Value) (an : Option Addr) (cdv ct : Value) (us : List Value), us.length = 4 → bindArgs (PySem.W.fnOf "round_tasks" "round_tasks" (defArgs s_round_tasks) (defBody s_round_tasks) (defScope s_round_tasks) .none kV doc pm an cdv ct) ⟨us, []⟩ = pure ((["row", "task", "unit", "prime"] : List Str).zip us) := fun _ _ _ _ _ _ us hl => match us, hl with | [_, _, _, _], _ => rfl
theorem sc_round_tasks : FnScope ["row", "task", "unit", "prime", "node", "left", "right", "_", "target", "sign", "a", "b", "cell", "back", "look"] ["row", "task", "unit", "prime"] (defScope s_round_tasks) := C8.fnScope_by (by decide +kernel)
def spPrimeOf : Sp := fun vs H Q _ => ∃ K : Nat, vs = [.int K] ∧ 1 ≤ K ∧ K ≤ 5 ∧ Q (.int (pOf K)) H
def spCost : Sp := fun vs H Q _ => ∃ (t : Tr) (K : Nat) (v : V), vs = [v, .int K] ∧ 1 ≤ K ∧ K ≤ 5 ∧ Rp H t.d v ∧ t.ok K ∧ t.dep ≤ 40 ∧ t.size + t.dep ≤ 150 ∧ ∀ H', Same H H' → Q (.int (t.cost (pOf K))) H'
def spRound : Sp := fun vs H Q _ => ∃ (p : Nat) (tb : List (List Int)) (a b : Tr) (li ri i t s u : Int) (vr vt : V), vs = [vr, vt, .int u, .int p] ∧ Rp H (Row.d ⟨.node tb a b, li, ri⟩) vr ∧ Rp H (.t [.i i, .i t, .i s]) vt ∧ 2 ≤ p ∧ p ≤ 1000 ∧ Int.gcd u p = 1 ∧ (t = 0 ∨ t = 1 ∨ t = 2) ∧
  ∀ q H', H q = none → Same H H' → LD H' q ((roundT p tb a b li ri t s u).map CT.d) → Q (.ref q) H'
section
variable {P : Program} {w : World} {K : PySem.W.Frag} {mg : Str → Option Value} {base : Heap}
theorem cal_prime_of (T : Gs mg) (c_is_integer : C8.Cal P w K mg base 1 "is_integer" spIsInt []) (c_is_prime : C8.Cal P w K mg base 1 "is_prime" spPrime []) (F : DefAt K mg "prime_of" s_prime_of) : C8.Cal P w K mg base 2 "prime_of" spPrimeOf [] := by
  refine cal_of F sc_prime_of bi_prime_of (fun vs H Q E h => ?_) (fun f cdv A outer s H vs Q E hr h => ?_)
  · obtain ⟨n, rfl, _⟩ := h
    rfl
  · refine ⟨_, (pss_cons (ps_if (PW.pt (pw_or (pt_not (pt_val (C8.pe_c c_is_integer hr (by first | decide | omega) rfl (pa_cons (pv 0) pa_nil)))) (pw_or1 (pt_not (pt_chain op_le op_le pe_int (pv 0) (C8.pe_gc rfl T.c_VALUES)))))) (pss_one (ps_never)) pss_nil)
      (pss_cons (ps_set (i := 1) sc_prime_of.nd rfl (by first | exact Or.inl rfl | exact Or.inr rfl) (pe_callB (b_max2 rfl) (by rfl) T.n_max (by decide +kernel) (pa_cons pe_int (pa_cons (pe_op op_mul pe_int (pv 0)) pa_nil))))
      (pss_cons (ps_while PassesOwn.never (pt_not (pt_val (C8.pe_c c_is_prime hr (by first | decide | omega) rfl (pa_cons (pv 1) pa_nil)))) (pss_one (ps_aug (i := 1) sc_prime_of.nd rfl (by first | exact Or.inl rfl | exact Or.inr rfl) pe_int ip_add)))
      (pss_one (ps_ret (pv 1)))))), ?_⟩
    obtain ⟨n, rfl, n1, n5, k⟩ := h
    obtain ⟨f1, f2, f3, f4, f5⟩ := pOf_fact n1 n5
    walk_at "rdT4"
    refine n_while (fun m σ H' => ∃ x : Int, σ = [some (.int n), some (.int x)] ∧ m = ((pOf n : Int) - x).toNat ∧ ((max 3 (2 * n) : Nat) : Int) ≤ x ∧ x ≤ pOf n ∧ H' = H) ((pOf n : Int) - max 3 (2 * (n : Int))).toNat ⟨_, rfl, rfl, by omega, by omega, rfl⟩ ?_
    rintro m σ H' ⟨x, rfl, rfl, x0, x1, rfl⟩
    walk_at "rdT4"
    refine ⟨x, rfl, by omega, by omega, fun hp => ?_, fun hp => ?_⟩
    · have e : x = pOf n := by
        by_cases h : x < pOf n
        · exact absurd hp (f5 x x0 h)
        · omega
      subst e
      walk_at "rdT4"
      refine w_f ?_
      walk_at "rdT4"
      exact k
    · have e : x ≠ pOf n := fun e => hp (by rw [e]; exact f1)
      walk_at "rdT4"
      refine w_t ?_
      walk_at "rdT4"
      exact ⟨_, by omega, _, rfl, rfl, by omega, by omega, rfl⟩
theorem cal_tree_cost (T : Gs mg) (c_rows_of : C8.Cal P w K mg base 6 "rows_of" spRows []) (c_prime_of : C8.Cal P w K mg base 2 "prime_of" spPrimeOf []) (F : DefAt K mg "tree_cost" s_tree_cost) : C8.Cal P w K mg base 7 "tree_cost" spCost [] := by
  refine cal_of F sc_tree_cost bi_tree_cost (fun vs H Q E h => ?_) (fun f cdv A outer s H vs Q E hr h => ?_)
  · obtain ⟨t, n, v, rfl, _⟩ := h
    rfl
  · refine ⟨_, (pss_cons (ps_set (i := 2) sc_tree_cost.nd rfl (by first | exact Or.inl rfl | exact Or.inr rfl) (C8.pe_c c_rows_of hr (by first | decide | omega) rfl (pa_cons (pv 0) (pa_cons (pv 1) pa_nil))))
      (pss_cons (ps_set (i := 3) sc_tree_cost.nd rfl (by first | exact Or.inl rfl | exact Or.inr rfl) (C8.pe_c c_prime_of hr (by first | decide | omega) rfl (pa_cons (pv 1) pa_nil)))
      (pss_cons (ps_set (i := 4) sc_tree_cost.nd rfl (by first | exact Or.inl rfl | exact Or.inr rfl) (pe_lst pa_nil))
      (pss_cons (ps_for PassesOwn.never rfl (pi_list (pv 2)) (pg_tup rfl (pgs_cons (pg_name (i := 5) sc_tree_cost.nd rfl (by first | exact Or.inl rfl | exact Or.inr rfl)) (pgs_cons (pg_name (i := 6) sc_tree_cost.nd rfl (by first | exact Or.inl rfl | exact Or.inr rfl)) (pgs_cons (pg_name (i := 7) sc_tree_cost.nd rfl (by first | exact Or.inl rfl | exact Or.inr rfl)) pgs_nil)))) (pss_one (ps_if (pt_cmpR op_lt (pv 6) pe_int (nomark _)) (pss_one (ps_expr (pe_bm PySem.F.plainAttrs_list PySem.F.slot_list_append PySem.F.type_list_append mt_append (pv 4) (pa_cons pe_int pa_nil)))) (pss_one (ps_expr (pe_bm PySem.F.plainAttrs_list PySem.F.slot_list_append PySem.F.type_list_append mt_append (pv 4) (pa_cons (pe_op op_mul (pe_op op_sub (pv 3) pe_int) (pe_op op_add (pe_op op_mul pe_int (pe_op op_add (pe_ix ix_seq (pv 4) (pv 6) (fun _ _ => rfl)) (pe_ix ix_seq (pv 4) (pv 7) (fun _ _ => rfl)))) pe_int)) pa_nil)))))))
      (pss_one (ps_ret (pe_ix ix_seq (pv 4) (pe_un un_neg pe_int) (fun _ _ => rfl)))))))), ?_⟩
    obtain ⟨t, n, v, rfl, n1, n5, hR, ok, hd, hs, k⟩ := h
    obtain ⟨f1, f2, f3, f4, f5⟩ := pOf_fact n1 n5
    walk_at "rdT4"
    refine ⟨t, n, v, rfl, n1, by omega, hR, ok, hd, hs, fun q rows H1 nq s1 lq L => ?_⟩
    obtain ⟨ws, hq, hws⟩ := lq
    have hwl := hws.len
    rw [List.length_map] at hwl
    have hsz : sizeLine = 2 ^ 24 := rfl
    have hrl := L.len
    walk_at "rdT4"
    refine ⟨n, rfl, n1, n5, ?_⟩
    walk_at "rdT4"
    refine n_lst (by decide) fun c H2 nc s2 hc => ?_
    have s12 := s1.trans s2
    have nc0 := none_of_same s1 nc
    walk_at "rdT4"
    refine n_forL (fun i σ H' => ∃ u5 u6 u7 : Option V, σ = [some v, some (.int n), some (.ref q), some (.int (pOf n)), some (.ref c), u5, u6, u7] ∧ Same H1 H' ∧ H' c = some (.lst (((rows.take i).map (rcost (pOf n))).map V.int))) (s2 _ _ hq) ⟨_, _, _, rfl, s2, hc⟩ (fun i σ H' _ h => by obtain ⟨_, _, _, _, s3, _⟩ := h; exact SqL.of (s3 _ _ hq)) ?_ ?_
    · rintro i x σ H' hx ⟨u5, u6, u7, rfl, s3, hc3⟩
      obtain ⟨df, hdf, hfv⟩ := hws.at hx
      obtain ⟨rw_, hrw, rfl⟩ := Option.map_eq_some_iff.mp (by rwa [List.getElem?_map] at hdf)
      replace hfv := hfv.same s3
      have rok := L.wf i rw_ hrw
      have hcl : (((rows.take i).map (rcost (pOf n))).map V.int).length < sizeLine := by
        rw [List.length_map, List.length_map, List.length_take]
        omega
      have hnext : ∀ H4 : Hp, H4 c = some (.lst (((rows.take i).map (rcost (pOf n))).map V.int ++ [.int (rcost (pOf n) rw_)])) → H4 c = some (.lst (((rows.take (i + 1)).map (rcost (pOf n))).map V.int)) := fun H4 h => by
        rw [h, take_snoc hrw, List.map_append, List.map_append]
        rfl
      obtain ⟨t0, l0, r0⟩ := rw_
      obtain ⟨a, _, rfl, ha, w1, _, rfl, hnd, w2, _, rfl, rfl, w3, _, rfl, rfl, rfl⟩ := hfv
      cases t0 with
      | leaf y =>
        obtain ⟨_, e1, e2⟩ := rok
        replace e1 : l0 = -1 := e1
        replace e2 : r0 = -1 := e2
        subst e1 e2
        walk_at "rdT4"
        refine n_app hc3 hcl fun H4 k4 h4 => ?_
        walk_at "rdT4"
        exact ⟨_, _, _, rfl, same_kp nc s3 k4, hnext H4 h4⟩
      | node tb ta tc =>
        obtain ⟨_, li, ri, e1, e2, l1, l2, hA, hC⟩ := rok
        replace e1 : l0 = li := e1
        replace e2 : r0 = ri := e2
        subst e1 e2
        have gl : ∀ (j : Nat) (T' : Tr), j < i → Has rows j T' → (((rows.take i).map (rcost (pOf n))).map V.int)[j]? = some (.int (T'.cost (pOf n))) := fun j T' hj h => by
          obtain ⟨x, h1, h2⟩ := h
          rw [List.getElem?_map, List.getElem?_map, List.getElem?_take, if_pos hj, h1]
          subst h2
          rfl
        have hcast : rcost (pOf n) ⟨.node tb ta tc, li, ri⟩ = ((pOf n : Int) - 1) * (2 * ((ta.cost (pOf n) : Int) + (tc.cost (pOf n) : Int)) + 5) := by
          show (((pOf n - 1) * (2 * (ta.cost (pOf n) + tc.cost (pOf n)) + 5) : Nat) : Int) = _
          have : ((pOf n - 1 : Nat) : Int) = (pOf n : Int) - 1 := by omega
          rw [Int.natCast_mul, this]
          rfl
        have hneg : ¬ ((li : Int) < 0) := by omega
        walk_at "rdT4"
        refine r_ixL hc3 (atI_nat (gl li ta l1 hA)) ?_
        walk_at "rdT4"
        refine r_ixL hc3 (atI_nat (gl ri tc l2 hC)) ?_
        walk_at "rdT4"
        refine n_app hc3 hcl fun H4 k4 h4 => ?_
        walk_at "rdT4"
        exact ⟨_, _, _, rfl, same_kp nc s3 k4, hnext H4 (by rw [h4, hcast])⟩
    · rintro σ H' ⟨u5, u6, u7, rfl, s3, hc3⟩
      rw [hwl, List.take_length] at hc3
      walk_at "rdT4"
      obtain ⟨x, hx1, hx2⟩ := L.last
      refine r_ixL hc3 (atI_end (v := .int (t.cost (pOf n))) ?_) ?_
      · rw [List.length_map, List.length_map, hrl, List.getElem?_map, List.getElem?_map, hx1, ← hx2]
        rfl
      · exact k H' (s1.trans s3)
theorem cal_round_tasks (T : Gs mg) (c_inverse_of : C8.Cal P w K mg base 1 "inverse_of" spInv []) (F : DefAt K mg "round_tasks" s_round_tasks) : C8.Cal P w K mg base 2 "round_tasks" spRound [] := by
  refine cal_of F sc_round_tasks bi_round_tasks (fun vs H Q E h => ?_) (fun f cdv A outer s H vs Q E hr h => ?_)
  · obtain ⟨p, tb, a, b, li, ri, i, t, s, u, vr, vt, rfl, _⟩ := h
    rfl
  · refine ⟨_, (pss_cons (ps_asg (pv 0) (pg_tup rfl (pgs_cons (pg_name (i := 4) sc_round_tasks.nd rfl (by first | exact Or.inl rfl | exact Or.inr rfl)) (pgs_cons (pg_name (i := 5) sc_round_tasks.nd rfl (by first | exact Or.inl rfl | exact Or.inr rfl)) (pgs_cons (pg_name (i := 6) sc_round_tasks.nd rfl (by first | exact Or.inl rfl | exact Or.inr rfl)) pgs_nil)))))
      (pss_cons (ps_asg (pv 1) (pg_tup rfl (pgs_cons (pg_name (i := 7) sc_round_tasks.nd rfl (by first | exact Or.inl rfl | exact Or.inr rfl)) (pgs_cons (pg_name (i := 8) sc_round_tasks.nd rfl (by first | exact Or.inl rfl | exact Or.inr rfl)) (pgs_cons (pg_name (i := 9) sc_round_tasks.nd rfl (by first | exact Or.inl rfl | exact Or.inr rfl)) pgs_nil)))))
      (pss_cons (ps_asg (pe_lc (own := [("cell", 12)]) (g := gName 12) rfl sc_round_tasks.nd (pi_range1 rfl T.n_range (pa_cons pe_int pa_nil)) (blkOk_by (by first | decide +kernel | kernel_rfl)) (fun _ _ _ _ _ => pg_name (i := 12) sc_round_tasks.nd rfl (by first | exact Or.inl rfl | exact Or.inr rfl)) (fun _ _ _ _ _ => pts_one (pt_cmpR op_ne (pv 12) (pv 8) (nomark _))) (fun _ _ _ _ _ => (pv 12))) (pg_lst rfl (pgs_cons (pg_name (i := 10) sc_round_tasks.nd rfl (by first | exact Or.inl rfl | exact Or.inr rfl)) (pgs_cons (pg_name (i := 11) sc_round_tasks.nd rfl (by first | exact Or.inl rfl | exact Or.inr rfl)) pgs_nil))))
      (pss_cons (ps_set (i := 13) sc_round_tasks.nd rfl (by first | exact Or.inl rfl | exact Or.inr rfl) (C8.pe_c c_inverse_of hr (by first | decide | omega) rfl (pa_cons (pv 2) (pa_cons (pv 3) pa_nil))))
      (pss_cons (ps_set (i := 14) sc_round_tasks.nd rfl (by first | exact Or.inl rfl | exact Or.inr rfl) (pe_tup (pa_cons pe_str (pa_cons (pv 8) (pa_cons (pe_ifExp (pt_cmpR op_lt (pv 9) pe_int (nomark _)) pe_int (pe_op op_sub (pv 3) pe_int)) (pa_cons (pe_ix ix_seq (pv 4) pe_int (fun _ _ => rfl)) (pa_cons (pv 10) (pa_cons (pv 11) pa_nil))))))))
      (pss_one (ps_ret (pe_lst (pa_cons (pe_tup (pa_cons pe_str (pa_cons (pv 10) (pa_cons (pv 2) pa_nil)))) (pa_cons (pe_tup (pa_cons pe_str (pa_cons (pv 11) (pa_cons (pv 2) pa_nil)))) (pa_cons (pe_tup (pa_cons (pv 5) (pa_cons (pv 10) (pa_cons pe_int pa_nil)))) (pa_cons (pe_tup (pa_cons (pv 6) (pa_cons (pv 11) (pa_cons pe_int pa_nil)))) (pa_cons (pv 14) (pa_cons (pe_tup (pa_cons (pv 5) (pa_cons (pv 10) (pa_cons (pe_un un_neg pe_int) pa_nil)))) (pa_cons (pe_tup (pa_cons (pv 6) (pa_cons (pv 11) (pa_cons (pe_un un_neg pe_int) pa_nil)))) (pa_cons (pe_tup (pa_cons pe_str (pa_cons (pv 10) (pa_cons (pv 13) pa_nil)))) (pa_cons (pe_tup (pa_cons pe_str (pa_cons (pv 11) (pa_cons (pv 13) pa_nil)))) pa_nil))))))))))))))))), ?_⟩
    obtain ⟨p, tb, ta, tc, li, ri, i, t, sg, u, vr, vt, rfl, hR, hT, p2, p9, hg, ht, k⟩ := h
    obtain ⟨ar, _, rfl, har, w1, _, rfl, hnd, w2, _, rfl, rfl, w3, _, rfl, rfl, rfl⟩ := hR
    obtain ⟨an, _, rfl, han, x1, _, rfl, rfl, x2, _, rfl, hTb, x3, _, rfl, hA, x4, _, rfl, hC, rfl⟩ := hnd
    obtain ⟨at_, _, rfl, hat, y1, _, rfl, rfl, y2, _, rfl, rfl, y3, _, rfl, rfl, rfl⟩ := hT
    have hsz : sizeLine = 2 ^ 24 := rfl
    walk_at "rdT4"
    refine n_lcR (by decide) fun O H1 nO sO hO => ⟨fun i H' => Same H H' ∧ H' O = some (.lst (((List.range i).filter fun (k : Nat) => decide ((k : Int) ≠ t)).map fun (k : Nat) => V.int k)), ⟨sO, hO⟩, fun i H' hi h => ?_, fun H' h => ?_⟩
    · obtain ⟨s1, h1⟩ := h
      have hlen : (((List.range i).filter fun (k : Nat) => decide ((k : Int) ≠ t)).map fun (k : Nat) => V.int k).length < sizeLine := by
        rw [List.length_map]
        have := List.length_filter_le (fun (k : Nat) => decide ((k : Int) ≠ t)) (List.range i)
        rw [List.length_range] at this
        have hi' : i < 3 := hi
        omega
      walk_at "rdT4"
      refine i_n2 (fun hc => ?_) (fun hc => ?_)
      · walk_at "rdT4"
        refine n_acc h1 hlen fun H2 k2 h2 => ⟨same_kp nO s1 k2, ?_⟩
        rw [h2, List.range_succ, List.filter_append, List.map_append]
        simp [hc]
      · walk_at "rdT4"
        refine ⟨s1, ?_⟩
        rw [h1, List.range_succ, List.filter_append, List.map_append]
        simp [hc]
    · obtain ⟨s1, h1⟩ := h
      have e1 : ((List.range (3 : Int).toNat).filter fun (k : Nat) => decide ((k : Int) ≠ t)).map (fun (k : Nat) => V.int k) = [.int (oA t), .int (oB t)] := by
        rcases ht with e | e | e <;> subst e <;> rfl
      rw [e1] at h1
      walk_at "rdT4"
      refine ⟨u, p, rfl, by omega, by omega, fun _ H2 s2 => ?_, fun z => absurd hg z⟩
      have s02 := s1.trans s2
      replace har := s02 _ _ har
      replace han := s02 _ _ han
      replace hat := s02 _ _ hat
      replace hTb := hTb.same s02
      walk_at "rdT4"
      by_cases hs : sg < 0
      · have e2 : (if sg < 0 then (1 : Int) else p - 1) = 1 := if_pos hs
        walk_at "rdT4"
        refine n_tup (Nat.le_of_ble_eq_true rfl) fun z1 G1 n1 t1 h1 => ?_
        walk_at "rdT4"
        refine n_tup (Nat.le_of_ble_eq_true rfl) fun z2 G2 n2 t2 h2 => ?_
        walk_at "rdT4"
        refine n_tup (Nat.le_of_ble_eq_true rfl) fun z3 G3 n3 t3 h3 => ?_
        walk_at "rdT4"
        refine n_tup (Nat.le_of_ble_eq_true rfl) fun z4 G4 n4 t4 h4 => ?_
        walk_at "rdT4"
        refine n_tup (Nat.le_of_ble_eq_true rfl) fun z5 G5 n5 t5 h5 => ?_
        walk_at "rdT4"
        refine n_tup (Nat.le_of_ble_eq_true rfl) fun z6 G6 n6 t6 h6 => ?_
        walk_at "rdT4"
        refine n_tup (Nat.le_of_ble_eq_true rfl) fun z7 G7 n7 t7 h7 => ?_
        walk_at "rdT4"
        refine n_tup (Nat.le_of_ble_eq_true rfl) fun z8 G8 n8 t8 h8 => ?_
        walk_at "rdT4"
        refine n_tup (Nat.le_of_ble_eq_true rfl) fun z9 G9 n9 t9 h9 => ?_
        walk_at "rdT4"
        refine n_lst (Nat.le_of_ble_eq_true rfl) fun q G10 n10 t10 hq => ?_
        have t9' := t10
        have t8' := t9.trans t9'
        have t7' := t8.trans t8'
        have t6' := t7.trans t7'
        have t5' := t6.trans t6'
        have t4' := t5.trans t5'
        have t3' := t4.trans t4'
        have t2' := t3.trans t3'
        have t1' := t2.trans t2'
        have t0' := t1.trans t1'
        have sall := s02.trans t0'
        refine k q G10 (none_of_same (s02.trans (t1.trans (t2.trans (t3.trans (t4.trans (t5.trans (t6.trans (t7.trans (t8.trans t9))))))))) n10) sall ⟨_, hq, ?_⟩
        have tri : ∀ {z : Addr} {G : Hp} {x y : Dt} {v : Int} {vx vy : V} (h : G z = some (.tup [vx, vy, .int v])) (s' : Same G G10), Rp G10 x vx → Rp G10 y vy → Rp G10 (.t [x, y, .i v]) (.ref z) := fun h s' hx hy => ⟨_, _, rfl, s' _ _ h, _, _, rfl, hx, _, _, rfl, hy, _, _, rfl, rfl, rfl⟩
        refine ⟨_, _, rfl, tri h2 t2' rfl rfl, _, _, rfl, tri h3 t3' rfl rfl, _, _, rfl, tri h4 t4' rfl rfl, _, _, rfl, tri h5 t5' rfl rfl, _, _, rfl, ?_, _, _, rfl, tri h6 t6' rfl rfl, _, _, rfl, tri h7 t7' rfl rfl, _, _, rfl, tri h8 t8' rfl rfl, _, _, rfl, tri h9 t9' rfl rfl, rfl⟩
        exact ⟨_, _, rfl, t1' _ _ h1, _, _, rfl, rfl, _, _, rfl, rfl, _, _, rfl, by rw [e2]; rfl, _, _, rfl, hTb.same t0', _, _, rfl, rfl, _, _, rfl, rfl, rfl⟩
      · have e2 : (if sg < 0 then (1 : Int) else p - 1) = p - 1 := if_neg hs
        walk_at "rdT4"
        refine n_tup (Nat.le_of_ble_eq_true rfl) fun z1 G1 n1 t1 h1 => ?_
        walk_at "rdT4"
        refine n_tup (Nat.le_of_ble_eq_true rfl) fun z2 G2 n2 t2 h2 => ?_
        walk_at "rdT4"
        refine n_tup (Nat.le_of_ble_eq_true rfl) fun z3 G3 n3 t3 h3 => ?_
        walk_at "rdT4"
        refine n_tup (Nat.le_of_ble_eq_true rfl) fun z4 G4 n4 t4 h4 => ?_
        walk_at "rdT4"
        refine n_tup (Nat.le_of_ble_eq_true rfl) fun z5 G5 n5 t5 h5 => ?_
        walk_at "rdT4"
        refine n_tup (Nat.le_of_ble_eq_true rfl) fun z6 G6 n6 t6 h6 => ?_
        walk_at "rdT4"
        refine n_tup (Nat.le_of_ble_eq_true rfl) fun z7 G7 n7 t7 h7 => ?_
        walk_at "rdT4"
        refine n_tup (Nat.le_of_ble_eq_true rfl) fun z8 G8 n8 t8 h8 => ?_
        walk_at "rdT4"
        refine n_tup (Nat.le_of_ble_eq_true rfl) fun z9 G9 n9 t9 h9 => ?_
        walk_at "rdT4"
        refine n_lst (Nat.le_of_ble_eq_true rfl) fun q G10 n10 t10 hq => ?_
        have t9' := t10
        have t8' := t9.trans t9'
        have t7' := t8.trans t8'
        have t6' := t7.trans t7'
        have t5' := t6.trans t6'
        have t4' := t5.trans t5'
        have t3' := t4.trans t4'
        have t2' := t3.trans t3'
        have t1' := t2.trans t2'
        have t0' := t1.trans t1'
        have sall := s02.trans t0'
        refine k q G10 (none_of_same (s02.trans (t1.trans (t2.trans (t3.trans (t4.trans (t5.trans (t6.trans (t7.trans (t8.trans t9))))))))) n10) sall ⟨_, hq, ?_⟩
        have tri : ∀ {z : Addr} {G : Hp} {x y : Dt} {v : Int} {vx vy : V} (h : G z = some (.tup [vx, vy, .int v])) (s' : Same G G10), Rp G10 x vx → Rp G10 y vy → Rp G10 (.t [x, y, .i v]) (.ref z) := fun h s' hx hy => ⟨_, _, rfl, s' _ _ h, _, _, rfl, hx, _, _, rfl, hy, _, _, rfl, rfl, rfl⟩
        refine ⟨_, _, rfl, tri h2 t2' rfl rfl, _, _, rfl, tri h3 t3' rfl rfl, _, _, rfl, tri h4 t4' rfl rfl, _, _, rfl, tri h5 t5' rfl rfl, _, _, rfl, ?_, _, _, rfl, tri h6 t6' rfl rfl, _, _, rfl, tri h7 t7' rfl rfl, _, _, rfl, tri h8 t8' rfl rfl, _, _, rfl, tri h9 t9' rfl rfl, rfl⟩
        exact ⟨_, _, rfl, t1' _ _ h1, _, _, rfl, rfl, _, _, rfl, rfl, _, _, rfl, by rw [e2]; rfl, _, _, rfl, hTb.same t0', _, _, rfl, rfl, _, _, rfl, rfl, rfl⟩
end
end Bf
local macro_rules | `(tactic| walk_at "pfT5") => `(tactic| first | decide +kernel | omega | assumption | rfl | (simp only [List.length_cons, List.length_nil]; omega))
local macro_rules | `(tactic| walk_at "rd1T5") => `(tactic| first
  | with_reducible refine Bf.r_seq ?_
  | with_reducible refine Bf.r_asg ?_
  | with_reducible refine Bf.r_var (by with_unfolding_all rfl) ?_
  | with_reducible refine Bf.r_c ?_
  | with_reducible refine Bf.r_name ?_
  | with_reducible refine Bf.r_ret ?_
  | with_reducible refine Bf.r_op ?_
  | with_reducible refine Bf.r_I0 ?_
  | ((with_reducible refine Bf.r_I ?c ?_); (case c => first | decide | (show (0 : Int) < _; omega) | (refine Or.inl ⟨?_, ?_⟩ <;> omega) | (refine Or.inr ⟨?_, ?_⟩ <;> omega) | (refine And.intro ?_ ?_ <;> omega)))
  | with_reducible refine Bf.r_ifS ?_
  | with_reducible refine Bf.r_test ?_
  | with_reducible refine Bf.r_isbl ?_
  | with_reducible refine Bf.r_eqI ?_
  | with_reducible refine Bf.r_neI ?_
  | with_reducible refine Bf.r_eqS ?_
  | with_reducible refine Bf.r_neS ?_
  | with_reducible refine Bf.r_cons ?_
  | with_reducible refine Bf.r_nil ?_
  | with_reducible refine Bf.r_CB ?_
  | with_reducible refine Bf.r_call ?_
  | with_reducible refine Bf.i_t ?_
  | with_reducible refine Bf.i_f ?_
  | with_reducible refine Bf.i_nt ?_
  | with_reducible refine Bf.i_nf ?_
  | with_reducible refine Bf.r_ixT (by assumption) (by with_unfolding_all rfl) ?_
  | with_reducible refine Bf.r_ixL (by assumption) (by with_unfolding_all rfl) ?_
  | with_reducible refine Bf.r_fld ?_
  | ((with_reducible refine Bf.r_fat (by assumption) ?c ?n (by with_unfolding_all rfl) ?_); (case c => assumption); (case n => assumption))
  | with_reducible refine Bf.r_par ?_
  | with_reducible refine Bf.r_two ?_
  | with_reducible refine Bf.r_aug (by with_unfolding_all rfl) ?_
  | with_reducible refine Bf.r_ip ?_
  | with_reducible refine Bf.r_app (by with_unfolding_all rfl) (by assumption) ?_
  | with_reducible refine Bf.r_next ?_
  | with_reducible refine Bf.r_cont ?_
  | with_reducible refine Bf.r_drop ?_
  | with_reducible refine Bf.r_and ?_
  | with_reducible refine Bf.r_or ?_
  | with_reducible refine Bf.r_not ?_
  | with_reducible refine Bf.r_andV ?_
  | with_reducible refine Bf.r_orV ?_
  | with_reducible refine Bf.r_notV ?_
  | with_reducible refine Bf.r_chain ?_
  | with_reducible refine Bf.r_B ?_
  | with_reducible refine Bf.r_ifE ?_
  | with_reducible refine Bf.r_un ?_
  | with_reducible refine Bf.r_U ?_
  | with_reducible refine Bf.r_tup ?_
  | with_reducible refine Bf.r_lst ?_
  | with_reducible refine Bf.r_lenT (by assumption) ?_
  | with_reducible refine Bf.r_lenL (by assumption) ?_
  | with_reducible refine Bf.r_int ?_
  | with_reducible refine Bf.r_max2 ?_
  | with_reducible refine Bf.r_min2 ?_
  | with_reducible refine Bf.isi_ Bf.ty_i Bf.kb_ii ?_
  | with_reducible refine Bf.isi_ Bf.ty_i Bf.kb_ib ?_
  | with_reducible refine Bf.isi_ Bf.ty_i Bf.kb_is ?_
  | with_reducible refine Bf.isi_ Bf.ty_i Bf.kb_it ?_
  | with_reducible refine Bf.isi_ Bf.ty_i Bf.kb_il ?_
  | with_reducible refine Bf.isi_ Bf.ty_s Bf.kb_si ?_
  | with_reducible refine Bf.isi_ Bf.ty_s Bf.kb_sb ?_
  | with_reducible refine Bf.isi_ Bf.ty_s Bf.kb_ss ?_
  | with_reducible refine Bf.isi_ Bf.ty_s Bf.kb_st ?_
  | with_reducible refine Bf.isi_ Bf.ty_s Bf.kb_sl ?_
  | with_reducible refine Bf.isi_ (Bf.ty_t (by assumption)) Bf.kb_tt ?_
  | with_reducible refine Bf.isi_ (Bf.ty_l (by assumption)) Bf.kb_ll ?_
  | with_reducible refine Bf.isi_ (Bf.ty_t (by assumption)) Bf.kb_tl ?_
  | with_reducible refine Bf.isi_ (Bf.ty_l (by assumption)) Bf.kb_lt ?_
  | with_reducible refine Bf.isi_ Bf.ty_b Bf.kb_bi ?_
  | with_reducible refine Bf.isi_ Bf.ty_b Bf.kb_bb ?_
  | with_reducible refine Bf.isi_ Bf.ty_b Bf.kb_bs ?_
  | with_reducible refine Bf.isi_ Bf.ty_b Bf.kb_bt ?_
  | with_reducible refine Bf.isi_ Bf.ty_b Bf.kb_bL ?_
  | with_reducible refine Bf.isi_ Bf.ty_n Bf.kb_ni ?_
  | with_reducible refine Bf.isi_ Bf.ty_n Bf.kb_nb ?_
  | with_reducible refine Bf.isi_ Bf.ty_n Bf.kb_ns ?_
  | with_reducible refine Bf.isi_ Bf.ty_n Bf.kb_nt ?_
  | with_reducible refine Bf.isi_ Bf.ty_n Bf.kb_nl ?_
  | with_reducible refine Bf.isi_ (Bf.ty_t (by assumption)) Bf.kb_ti ?_
  | with_reducible refine Bf.isi_ (Bf.ty_l (by assumption)) Bf.kb_li ?_
  | with_reducible refine Bf.isi_ (Bf.ty_t (by assumption)) Bf.kb_tb ?_
  | with_reducible refine Bf.isi_ (Bf.ty_l (by assumption)) Bf.kb_lb ?_
  | with_reducible refine Bf.isi_ (Bf.ty_t (by assumption)) Bf.kb_ts ?_
  | with_reducible refine Bf.isi_ (Bf.ty_l (by assumption)) Bf.kb_ls ?_
  | with_reducible refine Bf.r_gtup (by assumption) (by with_unfolding_all rfl) ?_
  | with_reducible refine Bf.r_gcons ?_
  | with_reducible refine Bf.r_gnil ?_
  | with_reducible refine Bf.r_gsub ?_
  | ((with_reducible refine Bf.n_num ?h ?_); (case h => first | assumption | (refine And.intro ?_ ?_ <;> omega)))
  | with_reducible refine Bf.n_isint ?_
  | with_reducible refine Bf.n_mixed ?_
  | with_reducible refine Bf.r_dget ?_
  | with_reducible refine Bf.n_dgetS (by assumption) (by with_unfolding_all rfl) ?_
  | with_reducible refine Bf.r_pcons ?_
  | with_reducible refine Bf.r_pnil ?_
  | with_reducible refine Bf.r_sl ?_
  | with_reducible refine Bf.r_nopart ?_
  | with_reducible refine Bf.r_part ?_
  | with_reducible refine Bf.r_isint ?_
  | with_reducible refine Bf.r_revL ?_
  | with_reducible refine Bf.r_sfld ?_
  | with_reducible refine Bf.r_meth ?_
  | with_reducible refine Bf.n_meth (by assumption) (by with_unfolding_all rfl) ?_
  | with_reducible refine Bf.r_make ?_
  | with_reducible refine Bf.r_turn ?_
  | with_reducible refine Bf.r_wipe (by with_unfolding_all rfl) ?_
  | with_reducible refine Bf.r_yes ?_
  | with_reducible refine Bf.r_tru ?_
  | with_reducible refine Bf.r_ext (by with_unfolding_all rfl) (by assumption) ?_
  | with_reducible refine Bf.r_glst (by assumption) (by with_unfolding_all rfl) ?_
  | with_reducible refine Bf.r_forR3 ?_
  | with_reducible refine Bf.r_lcR2 ?_
  | with_reducible refine Bf.r_lcL ?_
  | with_reducible refine Bf.r_lcT ?_
  | with_reducible refine Bf.r_lcR ?_
  | with_reducible refine Bf.r_forL ?_
  | with_reducible refine Bf.r_forZ ?_
  | with_reducible refine Bf.r_forT ?_
  | with_reducible refine Bf.r_forR ?_
  | with_reducible refine Bf.r_forR2 ?_
  | ((with_reducible refine Bf.i_d1 ?h ?_); (case h => walk_at "pfT5"))
  | ((with_reducible refine Bf.i_d0 ?h ?_); (case h => walk_at "pfT5"))
  | ((with_reducible refine Bf.i_n1 ?h ?_); (case h => walk_at "pfT5"))
  | ((with_reducible refine Bf.i_n0 ?h ?_); (case h => walk_at "pfT5")))
local macro_rules | `(tactic| walk_at "rdT5") => `(tactic| repeat walk_at "rd1T5")
namespace Bf
open PySem L2
abbrev s_compile_tree : Stmt := topS 41
theorem bi_compile_tree : ∀ (kV doc pm : Value) (an : Option Addr) (cdv ct : Value) (us : List Value), us.length = 2 → bindArgs (PySem.W.fnOf "compile_tree" "compile_tree" (defArgs s_compile_tree) (defBody s_compile_tree) (defScope s_compile_tree) .none kV doc pm an cdv ct) ⟨us, []⟩ = pure ((["tree", "values"] : List Str).zip us) := fun _ _ _ _ _ _ us hl => match us, hl with | [_, _], _ => rfl
theorem sc_compile_tree : FnScope ["tree", "values", "rows", "prime", "steps", "tasks", "task", "row", "unit"] ["tree", "values"] (defScope s_compile_tree) := C8.fnScope_by (by decide +kernel)
def spCompile (C : Addr) : Sp := fun vs H Q _ => ∃ (t : Tr) (K : Nat) (v : V), vs = [v, .int K] ∧ 1 ≤ K ∧ K ≤ 5 ∧ Rp H t.d v ∧ t.ok K ∧ t.dep ≤ 40 ∧ t.size + t.dep ≤ 150 ∧ t.cost (pOf K) ≤ 20000 ∧ ∀ x (ss : List Step) H', Same H H' → Prg C H' x (pOf K) 3 0 ss → Vp (pOf K) 3 0 ss → (∀ s ∈ ss, s.plain) → Q (.ref x) H'
theorem Has.lt {rows : List Row} {i : Nat} {t : Tr} (h : Has rows i t) : i < rows.length := by
  obtain ⟨x, h1, _⟩ := h
  exact (List.getElem?_eq_some_iff.mp h1).1
section
variable {P : Program} {w : World} {K : PySem.W.Frag} {mg : Str → Option Value} {base : Heap} {C : Addr}
theorem cal_compile_tree (T : Gs mg) (c_is_integer : C8.Cal P w K mg base 1 "is_integer" spIsInt []) (c_rows_of : C8.Cal P w K mg base 6 "rows_of" spRows []) (c_tree_cost : C8.Cal P w K mg base 7 "tree_cost" spCost []) (c_prime_of : C8.Cal P w K mg base 2 "prime_of" spPrimeOf []) (c_round_tasks : C8.Cal P w K mg base 2 "round_tasks" spRound []) (c_Program : C8.Mak P w K mg base 7 "Program" C (spInit C) [])
    (F : DefAt K mg "compile_tree" s_compile_tree) : C8.Cal P w K mg base 9 "compile_tree" (spCompile C) [] := by
  refine cal_of F sc_compile_tree bi_compile_tree (fun vs H Q E h => ?_) (fun f cdv A outer s H vs Q E hr h => ?_)
  · obtain ⟨t, n, v, rfl, _⟩ := h
    rfl
  · refine ⟨_, (pss_cons (ps_set (i := 2) sc_compile_tree.nd rfl (by first | exact Or.inl rfl | exact Or.inr rfl) (C8.pe_c c_rows_of hr (by first | decide | omega) rfl (pa_cons (pv 0) (pa_cons (pv 1) pa_nil))))
      (pss_cons (ps_if (pt_cmpR op_gt (C8.pe_c c_tree_cost hr (by first | decide | omega) rfl (pa_cons (pv 0) (pa_cons (pv 1) pa_nil))) (C8.pe_gc rfl T.c_STEPS) (nomark _)) (pss_one (ps_never)) pss_nil)
      (pss_cons (ps_set (i := 3) sc_compile_tree.nd rfl (by first | exact Or.inl rfl | exact Or.inr rfl) (C8.pe_c c_prime_of hr (by first | decide | omega) rfl (pa_cons (pv 1) pa_nil)))
      (pss_cons (ps_set (i := 4) sc_compile_tree.nd rfl (by first | exact Or.inl rfl | exact Or.inr rfl) (pe_lst pa_nil))
      (pss_cons (ps_set (i := 5) sc_compile_tree.nd rfl (by first | exact Or.inl rfl | exact Or.inr rfl) (pe_lst (pa_cons (pe_tup (pa_cons (pe_op op_sub (pe_callB b_len (by rfl) T.n_len PySem.boot_len (pa_cons (pv 2) pa_nil)) pe_int) (pa_cons pe_int (pa_cons pe_int pa_nil)))) pa_nil)))
      (pss_cons (ps_while PassesOwn.never (pt_tru (pv 5) (fun _ => rfl)) (pss_cons (ps_set (i := 6) sc_compile_tree.nd rfl (by first | exact Or.inl rfl | exact Or.inr rfl) (pe_bm0 PySem.F.plainAttrs_list PySem.F.slot_list_pop PySem.F.type_list_pop mt_pop (pv 5)))
      (pss_cons (ps_if (pt_not (pt_val (C8.pe_c c_is_integer hr (by first | decide | omega) rfl (pa_cons (pe_ix ix_seq (pv 6) pe_int (fun _ _ => rfl)) pa_nil)))) (pss_cons (ps_expr (pe_bm PySem.F.plainAttrs_list PySem.F.slot_list_append PySem.F.type_list_append mt_append (pv 4) (pa_cons (pv 6) pa_nil)))
      (pss_one (ps_continue))) pss_nil)
      (pss_cons (ps_set (i := 7) sc_compile_tree.nd rfl (by first | exact Or.inl rfl | exact Or.inr rfl) (pe_ix ix_seq (pv 2) (pe_ix ix_seq (pv 6) pe_int (fun _ _ => rfl)) (fun _ _ => rfl)))
      (pss_cons (ps_if (pt_cmpR op_lt (pe_ix ix_seq (pv 7) pe_int (fun _ _ => rfl)) pe_int (nomark _)) (pss_cons (ps_expr (pe_bm PySem.F.plainAttrs_list PySem.F.slot_list_append PySem.F.type_list_append mt_append (pv 4) (pa_cons (pe_tup (pa_cons pe_str (pa_cons (pe_ix ix_seq (pv 6) pe_int (fun _ _ => rfl)) (pa_cons (pe_op op_mod (pe_op op_mul (pe_ix ix_seq (pv 6) pe_int (fun _ _ => rfl)) (pe_ix ix_seq (pe_ix ix_seq (pv 7) pe_int (fun _ _ => rfl)) pe_int (fun _ _ => rfl))) (pv 3)) (pa_cons (pe_tup pa_nil) pa_nil))))) pa_nil)))
      (pss_one (ps_continue))) pss_nil)
      (pss_one (ps_for PassesOwn.never rfl (pi_range3 rfl T.n_range (pa_cons (pe_op op_sub (pv 3) pe_int) (pa_cons pe_int (pa_cons (pe_un un_neg pe_int) pa_nil)))) (pg_name (i := 8) sc_compile_tree.nd rfl (by first | exact Or.inl rfl | exact Or.inr rfl)) (pss_one (ps_expr (pe_bm PySem.F.plainAttrs_list PySem.F.slot_list_extend PySem.F.type_list_extend mt_extend (pv 5) (pa_cons (pe_revL (C8.pe_c c_round_tasks hr (by first | decide | omega) rfl (pa_cons (pv 7) (pa_cons (pv 6) (pa_cons (pv 8) (pa_cons (pv 3) pa_nil)))))) pa_nil)))))))))))
      (pss_one (ps_ret (C8.pe_mk c_Program hr (by first | decide | omega) rfl (pa_cons (pv 3) (pa_cons pe_int (pa_cons pe_int (pa_cons (pv 4) pa_nil))))))))))))), ?_⟩
    obtain ⟨t, n, v, rfl, n1, n5, hR, ok, hd, hs, hcost, k⟩ := h
    obtain ⟨f1, f2, f3, f4, f5⟩ := pOf_fact n1 n5
    have hsz : sizeLine = 2 ^ 24 := rfl
    have p2 : 2 ≤ pOf n := by omega
    walk_at "rdT5"
    refine ⟨t, n, v, rfl, n1, by omega, hR, ok, hd, hs, fun rq rows H1 nrq s1 lrq L => ?_⟩
    walk_at "rdT5"
    refine ⟨t, n, v, rfl, n1, n5, hR.same s1, ok, hd, hs, fun H2 s2 => ?_⟩
    have hcost' : ¬ ((20000 : Int) < (t.cost (pOf n) : Int)) := by omega
    replace lrq := lrq.same s2
    have lrq2 := lrq
    have s02 := s1.trans s2
    walk_at "rdT5"
    refine ⟨n, rfl, n1, n5, ?_⟩
    walk_at "rdT5"
    refine n_lst (by decide) fun sq H3 nsq s3 hsq => ?_
    have rs : rq ≠ sq := lrq2.ne nsq
    replace lrq := lrq.same s3
    have lrq3 := lrq
    have hsq3 := hsq
    have s03 := s02.trans s3
    have nsq0 := none_of_same s02 nsq
    obtain ⟨wr, hrq, hwr⟩ := id lrq
    have hrl := hwr.len
    rw [List.length_map, L.len] at hrl
    walk_at "rdT5"
    refine n_tup (Nat.le_of_ble_eq_true rfl) fun z H4 nz s4 hz => ?_
    walk_at "rdT5"
    refine n_lst (Nat.le_of_ble_eq_true rfl) fun tq H5 ntq s5 htq => ?_
    have s35 := s4.trans s5
    have s05 := s03.trans s35
    have ntq0 := none_of_same (s03.trans s4) ntq
    replace hsq := s35 _ _ hsq
    replace lrq := lrq.same s35
    have hz5 := s5 _ _ hz
    have tsz := t.size_pos
    have rt : rq ≠ tq := (lrq3.same s4).ne ntq
    have st : sq ≠ tq := ne_of_none (s4 _ _ hsq3) ntq
    have okT : CT.ok (pOf n) rows (.idx t ((t.size - 1 : Nat) : Int) 0 1) := ⟨by omega, L.last, .inl rfl, .inl rfl⟩
    walk_at "rdT5"
    refine n_while (fun m σ H' => ∃ (u6 u7 u8 : Option V) (ss : List Step) (cts : List CT), σ = [some v, some (.int n), some (.ref rq), some (.int (pOf n)), some (.ref sq), some (.ref tq), u6, u7, u8] ∧ m = sumM (pOf n) cts ∧ ss.length + sumW (pOf n) cts = t.cost (pOf n) ∧
      (∀ s ∈ ss, s.ok (pOf n) 3 0 ∧ s.plain) ∧ (∀ x ∈ cts, x.ok (pOf n) rows) ∧ Same H H' ∧ LD H' rq (rows.map Row.d) ∧ LD H' sq (ss.map Step.d) ∧ LD H' tq (cts.reverse.map CT.d)) (sumM (pOf n) [.idx t ((t.size - 1 : Nat) : Int) 0 1])
      ⟨_, _, _, [], [.idx t ((t.size - 1 : Nat) : Int) 0 1], rfl, rfl, by simp [sumW, CT.wt], by simp, fun x hx => by rw [List.mem_singleton.mp hx]; exact okT, s05, lrq, LD.nil hsq, ⟨_, htq, _, _, rfl, ⟨z, _, rfl, hz5, _, _, rfl, by
        show V.int _ = V.int _
        rw [hrl]
        congr 1
        omega, _, _, rfl, rfl, _, _, rfl, rfl, rfl⟩, rfl⟩⟩ ?_
    rintro m σ H6 ⟨u6, u7, u8, ss, cts, rfl, rfl, hsum, hss, hcts, s6, lr, ls, lt⟩
    have hcl := len_le_sumW p2 cts
    cases cts with
    | nil =>
      obtain ⟨ws, hq, hws⟩ := id lt
      have e : ws = [] := hws
      subst e
      obtain ⟨wss, hsq6, hwss⟩ := id ls
      walk_at "rdT5"
      refine n_truL hq ?_
      refine w_f ?_
      walk_at "rdT5"
      have hsl : ss.length = t.cost (pOf n) := by simpa [sumW] using hsum
      have vp : Vp (pOf n) 3 0 ss := ⟨by omega, by omega, by decide, by decide, by decide, by decide, by omega, fun s hs => (hss s hs).1, fun _ => f1⟩
      exact n_mk rfl hsq6 hwss vp fun x H7 nx s7 pr => k x ss H7 (s6.trans s7) pr vp fun s hs => (hss s hs).2
    | cons x rest =>
      rw [List.reverse_cons, List.map_append] at lt
      obtain ⟨wt, vt, ht6, hwt, hvt⟩ := LD.pop lt
      have hwtl := hwt.len
      rw [List.length_map, List.length_reverse] at hwtl
      have hx := hcts x List.mem_cons_self
      have hrest : ∀ y ∈ rest, y.ok (pOf n) rows := fun y hy => hcts y (List.mem_cons_of_mem _ hy)
      rw [sumW_cons] at hsum
      walk_at "rdT5"
      refine n_truS ht6 ?_
      refine w_t ?_
      walk_at "rdT5"
      refine r_pop (by with_unfolding_all rfl) ht6 fun H7 k7 ht7 => ?_
      have s7 := same_kp ntq0 s6 k7
      have lr7 := lr.kp (flats_map Row.flat _) ht6 k7 rt
      have ls7 := ls.kp (steps_flat _) ht6 k7 st
      have lt7 := LD.popped ht6 hwt (flats_map CT.flat _) k7 ht7
      have hvt7 := hvt.tk (TK.kp ht6 k7) (CT.flat _)
      have hmes : 1 ≤ x.mes (pOf n) := by
        cases x with
        | st s => exact Nat.le_refl 1
        | idx T i tt sg => cases T with
          | leaf y => exact Nat.le_refl 1
          | node tb ta tc => show 1 ≤ 1 + _; omega
      cases x with
      | st s =>
        obtain ⟨a, xs, zz, rfl, ha, h0, _⟩ := kind_at (m := 0) (c := 0) (n := 0) hvt7
        walk_at "rdT5"
        refine r_ixT ha (at_nat (by decide) h0) ?_
        walk_at "rdT5"
        refine .inr ⟨zz, rfl, ?_⟩
        obtain ⟨wss, hsq7, hwss⟩ := id ls7
        have hsl := hwss.len
        rw [List.length_map] at hsl
        walk_at "rdT5"
        refine n_app hsq7 (by omega) fun H8 k8 hsq8 => ?_
        walk_at "rdT5"
        refine ⟨_, ?_, _, _, _, ss ++ [s], rest, rfl, rfl, ?_, ?_, hrest, same_kp nsq0 s7 k8, lr7.kp (flats_map Row.flat _) hsq7 k8 rs, ?_, lt7.kp (flats_map CT.flat _) hsq7 k8 st.symm⟩
        · rw [sumM_cons]; omega
        · rw [List.length_append]
          show ss.length + 1 + _ = _
          have : CT.wt (pOf n) (.st s) = 1 := rfl
          omega
        · intro y hy
          rcases List.mem_append.mp hy with q | q
          · exact hss y q
          · rw [List.mem_singleton.mp q]; exact hx
        · rw [List.map_append]
          exact LD.push hsq7 hwss hvt7 (steps_flat _) (step_flat _) k8 hsq8
      | idx TT i tt sg =>
        obtain ⟨i0, hhas, htt, hsg⟩ := hx
        have hlt := hhas.lt
        obtain ⟨rw_, hrw, hrt⟩ := hhas
        obtain ⟨wr7, hrq7, hwr7⟩ := id lr7
        obtain ⟨vr, hvr, hrp⟩ := hwr7.get (i := i.toNat) (d := rw_.d) (by rw [List.getElem?_map, hrw]; rfl)
        obtain ⟨at_, _, rfl, hat, y1, _, rfl, rfl, y2, _, rfl, rfl, y3, _, rfl, rfl, rfl⟩ := id hvt7
        have rok := L.wf _ _ hrw
        obtain ⟨t0, l0, r0⟩ := rw_
        replace hrt : t0 = TT := hrt
        subst hrt
        have hrp0 := hrp
        obtain ⟨ar, _, rfl, har, w1, _, rfl, hnd, w2, _, rfl, rfl, w3, _, rfl, rfl, rfl⟩ := hrp
        walk_at "rdT5"
        refine r_ixL hrq7 (at_nat i0 hvr) ?_
        walk_at "rdT5"
        cases t0 with
        | leaf y =>
          obtain ⟨okl, e1, e2⟩ := rok
          replace e1 : l0 = -1 := e1
          subst e1
          obtain ⟨an, _, rfl, han, x1, _, rfl, rfl, x2, _, rfl, rfl, rfl⟩ := hnd
          obtain ⟨wss, hsq7, hwss⟩ := id ls7
          have hsl := hwss.len
          rw [List.length_map] at hsl
          have hsgb : -2 < sg ∧ sg < 2 := by rcases hsg with e | e <;> omega
          walk_at "rdT5"
          refine n_tup (Nat.le_of_ble_eq_true rfl) fun z0 G0 nz0 t0 hz0 => ?_
          walk_at "rdT5"
          refine n_tup (Nat.le_of_ble_eq_true rfl) fun z1 G1 nz1 t1 hz1 => ?_
          have t01 := t0.trans t1
          replace hsq7 := t01 _ _ hsq7
          replace hwss := hwss.same t01
          have lr8 := lr7.same t01
          have lt8 := lt7.same t01
          have s8 := s7.trans t01
          refine n_app hsq7 (by omega) fun H8 k8 hsq8 => ?_
          walk_at "rdT5"
          have hpp := mod_bd (sg * y) (b := (pOf n : Int)) (by omega)
          refine ⟨_, ?_, _, _, _, ss ++ [.add tt (sg * y % pOf n) []], rest, rfl, rfl, ?_, ?_, hrest, same_kp nsq0 s8 k8, lr8.kp (flats_map Row.flat _) hsq7 k8 rs, ?_, lt8.kp (flats_map CT.flat _) hsq7 k8 st.symm⟩
          · rw [sumM_cons]; omega
          · rw [List.length_append]
            show ss.length + 1 + _ = _
            have : CT.wt (pOf n) (.idx (.leaf y) i tt sg) = 1 := rfl
            omega
          · intro x hx
            rcases List.mem_append.mp hx with q | q
            · exact hss x q
            · rw [List.mem_singleton.mp q]
              exact ⟨⟨by rcases htt with e | e | e <;> omega, hpp, by simp, by simp⟩, rfl⟩
          · rw [List.map_append]
            exact LD.push hsq7 hwss (d := (Step.add tt (sg * y % pOf n) []).d) ⟨z1, _, rfl, hz1, _, _, rfl, rfl, _, _, rfl, rfl, _, _, rfl, rfl, _, _, rfl, ⟨z0, _, rfl, t1 _ _ hz0, rfl⟩, rfl⟩ (steps_flat _) (step_flat _) k8 hsq8
        | node tb ta tc =>
          obtain ⟨okn, li, ri, e1, e2, l1, l2, hA, hC⟩ := rok
          replace e1 : l0 = li := e1
          replace e2 : r0 = ri := e2
          subst e1 e2
          have hneg : ¬ ((li : Int) < 0) := by omega
          have ewt : CT.wt (pOf n) (.idx (.node tb ta tc) i tt sg) = (pOf n - 1) * (2 * (ta.cost (pOf n) + tc.cost (pOf n)) + 5) := rfl
          have emes : CT.mes (pOf n) (.idx (.node tb ta tc) i tt sg) = 1 + (pOf n - 1) * (2 * (ta.mes (pOf n) + tc.mes (pOf n)) + 5) := rfl
          walk_at "rdT5"
          refine n_forDown (fun j σ H' => ∃ (u8 : Option V) (cts' : List CT), σ = [some v, some (.int n), some (.ref rq), some (.int (pOf n)), some (.ref sq), some (.ref tq), some (.ref at_), some (.ref ar), u8] ∧
            sumM (pOf n) cts' = j * (2 * (ta.mes (pOf n) + tc.mes (pOf n)) + 5) + sumM (pOf n) rest ∧ sumW (pOf n) cts' = j * (2 * (ta.cost (pOf n) + tc.cost (pOf n)) + 5) + sumW (pOf n) rest ∧
            (∀ x ∈ cts', x.ok (pOf n) rows) ∧ Same H H' ∧ LD H' rq (rows.map Row.d) ∧ LD H' sq (ss.map Step.d) ∧ LD H' tq (cts'.reverse.map CT.d) ∧ Rp H' (CT.idx (.node tb ta tc) i tt sg).d (.ref at_) ∧ Rp H' (Row.d ⟨.node tb ta tc, li, ri⟩) (.ref ar)) (by omega)
            ⟨_, rest, rfl, by omega, by omega, hrest, s7, lr7, ls7, lt7, hvt7, hrp0⟩ ?_ ?_
          · rintro j σ H8 hj ⟨u8, cts', rfl, hm, hw, hok', s8, lr8, ls8, lt8, hvt8, hrp8⟩
            have hj' : j < pOf n - 1 := by omega
            have hu1 : (1 : Int) ≤ (pOf n : Int) - 1 - j := by omega
            have hu2 : (pOf n : Int) - 1 - j < pOf n := by omega
            have hmul : (j + 1) * (2 * (ta.cost (pOf n) + tc.cost (pOf n)) + 5) ≤ (pOf n - 1) * (2 * (ta.cost (pOf n) + tc.cost (pOf n)) + 5) := Nat.mul_le_mul_right _ hj'
            rw [Nat.add_mul, Nat.one_mul] at hmul
            have hcl' := len_le_sumW p2 cts'
            obtain ⟨wt8, htq8, hwt8⟩ := id lt8
            have hwl8 := hwt8.len
            rw [List.length_map, List.length_reverse] at hwl8
            walk_at "rdT5"
            refine ⟨pOf n, tb, ta, tc, li, ri, i, tt, sg, _, _, _, rfl, hrp8, hvt8, p2, by omega, unit_gcd p2 f1 hu1 hu2, htt, fun q H9 nq s9 lq => ?_⟩
            obtain ⟨wq, hq, hwq⟩ := lq
            have hql := hwq.len
            rw [List.length_map] at hql
            replace hql : wq.length = 9 := hql
            walk_at "rdT5"
            refine n_revL hq fun q2 H10 nq2 s10 hq2 => ?_
            have s810 := s9.trans s10
            replace htq8 := s810 _ _ htq8
            replace hwt8 := hwt8.same s810
            have hlr := hwq.rev
            refine n_ext htq8 hq2 (by rw [List.length_reverse]; omega) fun H11 k11 h11 => ?_
            walk_at "rdT5"
            refine ⟨_, roundT (pOf n) tb ta tc li ri tt sg ((pOf n : Int) - 1 - j) ++ cts', rfl, ?_, ?_, ?_, same_kp ntq0 (s8.trans s810) k11, (lr8.same s810).kp (flats_map Row.flat _) htq8 k11 rt, (ls8.same s810).kp (steps_flat _) htq8 k11 st, ?_, (hvt8.same s810).tk (TK.kp htq8 k11) (CT.flat _), (hrp8.same s810).tk (TK.kp htq8 k11) (Row.flat _)⟩
            · rw [sumM_app, round_M, hm, Nat.add_mul]; omega
            · rw [sumW_app, round_W, hw, Nat.add_mul]; omega
            · intro x hx
              rcases List.mem_append.mp hx with q | q
              · exact round_ok n1 f4 p2 (by omega) f1 okn.1 okn.2.1 hA hC htt hu1 hu2 x q
              · exact hok' x q
            · rw [List.reverse_append, List.map_append]
              refine LD.ext htq8 hwt8 ?_ (flats_map CT.flat _) (flats_map CT.flat _) k11 h11
              rw [List.map_reverse]
              exact hlr.same s10
          · rintro σ H8 ⟨u8, cts', rfl, hm, hw, hok', s8, lr8, ls8, lt8, hvt8, hrp8⟩
            have ej : ((pOf n : Int) - 1 - 0).toNat = pOf n - 1 := by omega
            rw [ej] at hm hw
            refine ⟨_, ?_, _, _, _, ss, cts', rfl, rfl, ?_, hss, hok', s8, lr8, ls8, lt8⟩
            · rw [sumM_cons, emes]; omega
            · rw [hw]; omega
end
end Bf
/-! the law's polynomial is interpolate -/
namespace Bf
open PySem
def GoodInv (p : Nat) (invs : List Int) : Prop := invs.length = p ∧ ∀ d : Int, 1 ≤ d → d < p → gt invs d = invOf d p ∧ 0 ≤ gt invs d ∧ gt invs d < p
def lw (p : Int) (invs : List Int) (x i : Int) (js : List Nat) : Int := js.foldl (fun (w : Int) (k : Nat) => if (k : Int) ≠ i then w * (x - k) * gt invs ((i - k) % p) % p else w) 1
def Cg (p a b : Int) : Prop := a % p = b % p
theorem Cg.mul {p a b c d : Int} (h1 : Cg p a b) (h2 : Cg p c d) : Cg p (a * c) (b * d) := by
  unfold Cg at *
  rw [Int.mul_emod, h1, h2, ← Int.mul_emod]
theorem Cg.md {p a : Int} : Cg p (a % p) a := Int.emod_emod a p
theorem Cg.rfl' {p a : Int} : Cg p a a := rfl
theorem lw_cong {p : Int} {K : Nat} {invs : List Int} {x : Int} {i : Nat} (hi : i < K) (hinv : ∀ j : Nat, j < K → (j : Int) ≠ i → Cg p (gt invs (((i : Int) - j) % p) * ((i : Int) - j)) 1) :
    ∀ (js : List Nat), (∀ j ∈ js, j < K) → ∀ (w b a : Int), Cg p (w * b) a →
      Cg p (js.foldl (fun (w : Int) (k : Nat) => if (k : Int) ≠ i then w * (x - k) * gt invs (((i : Int) - k) % p) % p else w) w * js.foldl (fun (acc : Int) (j : Nat) => if (j : Int) ≠ i then acc * ((i : Int) - j) % p else acc) b)
        (js.foldl (fun (acc : Int) (j : Nat) => if (j : Int) ≠ i then acc * (x - j) % p else acc) a)
  | [], _, _, _, _, h => h
  | j :: r, hj, w, b, a, h => by
    rw [List.foldl_cons, List.foldl_cons, List.foldl_cons]
    refine lw_cong hi hinv r (fun y hy => hj y (List.mem_cons_of_mem _ hy)) _ _ _ ?_
    by_cases e : (j : Int) ≠ i
    · rw [if_pos e, if_pos e, if_pos e]
      have c := hinv j (hj j List.mem_cons_self) e
      have e1 : Cg p (w * (x - j) * gt invs (((i : Int) - j) % p) % p * (b * ((i : Int) - j) % p)) (w * (x - j) * gt invs (((i : Int) - j) % p) * (b * ((i : Int) - j))) := Cg.mul Cg.md Cg.md
      have e2 : w * (x - j) * gt invs (((i : Int) - j) % p) * (b * ((i : Int) - j)) = (w * b) * ((x - j) * (gt invs (((i : Int) - j) % p) * ((i : Int) - j))) := by ac_rfl
      have e3 : Cg p ((w * b) * ((x - j) * (gt invs (((i : Int) - j) % p) * ((i : Int) - j)))) (a * ((x - j) * 1)) := h.mul (Cg.rfl'.mul c)
      have e4 : Cg p (a * ((x - j) * 1)) (a * (x - j) % p) := by
        rw [Int.mul_one]
        exact Cg.md.symm
      rw [e2] at e1
      exact e1.trans (e3.trans e4)
    · rw [if_neg e, if_neg e, if_neg e]
      exact h
theorem lw_bd {p : Int} (hp : 2 ≤ p) {invs : List Int} {x i : Int} : ∀ (js : List Nat), 0 ≤ lw p invs x i js ∧ lw p invs x i js < p := by
  intro js
  unfold lw
  suffices h : ∀ (w : Int), 0 ≤ w → w < p → 0 ≤ js.foldl (fun (w : Int) (k : Nat) => if (k : Int) ≠ i then w * (x - k) * gt invs ((i - k) % p) % p else w) w ∧ js.foldl (fun (w : Int) (k : Nat) => if (k : Int) ≠ i then w * (x - k) * gt invs ((i - k) % p) % p else w) w < p from h 1 (by omega) (by omega)
  induction js with
  | nil => intro w h0 h1; exact ⟨h0, h1⟩
  | cons j r ih =>
    intro w h0 h1
    rw [List.foldl_cons]
    by_cases e : (j : Int) ≠ i
    · rw [if_pos e]
      exact ih _ (Int.emod_nonneg _ (by omega)) (Int.emod_lt_of_pos _ (by omega))
    · rw [if_neg e]
      exact ih _ h0 h1
theorem good_at {p K : Nat} (p2 : 2 ≤ p) (hp : Pr p) (hK : K ≤ p) {invs : List Int} (g : GoodInv p invs) {i : Nat} (hi : i < K) (j : Nat) (hj : j < K) (hne : (j : Int) ≠ i) :
    Cg p (gt invs (((i : Int) - j) % p) * ((i : Int) - j)) 1 := by
  have h0 := Int.emod_nonneg ((i : Int) - j) (show (p : Int) ≠ 0 by omega)
  have h1 := Int.emod_lt_of_pos ((i : Int) - j) (show (0 : Int) < p by omega)
  have hz : ((i : Int) - j) % p ≠ 0 := fun z => by
    obtain ⟨k, hk⟩ := dvd_mod.mp z
    have : k = 0 := by
      rcases Int.lt_trichotomy k 0 with q | q | q
      · have : (p : Int) * k ≤ p * (-1) := Int.mul_le_mul_of_nonneg_left (by omega) (by omega)
        omega
      · exact q
      · have : (p : Int) * 1 ≤ p * k := Int.mul_le_mul_of_nonneg_left (by omega) (by omega)
        omega
    subst this
    omega
  obtain ⟨e, _, _⟩ := g.2 _ (by omega) h1
  have iv := invOf_unit (m := p) (by omega) (unit_gcd p2 hp (u := ((i : Int) - j) % p) (by omega) h1)
  rw [e]
  have c1 : Cg p (invOf (((i : Int) - j) % p) p * (((i : Int) - j) % p)) 1 := by
    unfold Cg
    rw [iv.2.2, Int.emod_eq_of_lt (by decide) (by omega)]
  exact (Cg.mul Cg.rfl' Cg.md.symm).trans c1
theorem lw_wgt {p K : Nat} (p2 : 2 ≤ p) (hp : Pr p) (hK : K ≤ p) {invs : List Int} (g : GoodInv p invs) {x : Int} {i : Nat} (hi : i < K) : lw p invs x i (List.range K) = wgt p K x i := by
  have un : Units p K := pr_units (by omega) hp (by omega)
  have hB := wprod_unit (p := p) un hi (List.range K) (fun j hj => List.mem_range.mp hj)
  have iv := invOf_unit (m := p) (by omega) hB
  have c := lw_cong (p := p) (x := x) hi (good_at p2 hp hK g hi) (List.range K) (fun j hj => List.mem_range.mp hj) 1 1 1 Cg.rfl'
  obtain ⟨b0, b1⟩ := lw_bd (p := p) (by omega) (invs := invs) (x := x) (i := i) (List.range K)
  have c1 : Cg p (lw p invs x i (List.range K)) (wprod p x i (List.range K) * invOf (wprod p i i (List.range K)) p) := by
    have e1 : Cg p (lw p invs x i (List.range K)) (lw p invs x i (List.range K) * (invOf (wprod p i i (List.range K)) p * wprod p i i (List.range K))) := by
      have : Cg p (invOf (wprod p i i (List.range K)) p * wprod p i i (List.range K)) 1 := by
        unfold Cg
        rw [iv.2.2, Int.emod_eq_of_lt (by decide) (by omega)]
      have h := (Cg.rfl' (p := p) (a := lw p invs x i (List.range K))).mul this
      rw [Int.mul_one] at h
      exact h.symm
    have e2 : lw p invs x i (List.range K) * (invOf (wprod p i i (List.range K)) p * wprod p i i (List.range K)) = lw p invs x i (List.range K) * wprod p i i (List.range K) * invOf (wprod p i i (List.range K)) p := by ac_rfl
    rw [e2] at e1
    exact e1.trans (Cg.mul c Cg.rfl')
  have := c1
  unfold Cg at this
  rw [Int.emod_eq_of_lt b0 b1] at this
  exact this
/-! ### weights at a place of the grid -/
theorem wprod_zero {p x i : Int} {j0 : Nat} (hj : (j0 : Int) = x) (hne : x ≠ i) : ∀ (js : List Nat), j0 ∈ js → wprod p x i js = 0 := by
  intro js hm
  unfold wprod
  have z : ∀ (l : List Nat), l.foldl (fun (acc : Int) (j : Nat) => if (j : Int) ≠ i then acc * (x - j) % p else acc) 0 = 0 := by
    intro l
    induction l with
    | nil => rfl
    | cons j r ih =>
      rw [List.foldl_cons]
      by_cases e : (j : Int) ≠ i
      · rw [if_pos e, Int.zero_mul, Int.zero_emod]; exact ih
      · rw [if_neg e]; exact ih
  suffices h : ∀ (l : List Nat) (acc : Int), j0 ∈ l → l.foldl (fun (acc : Int) (j : Nat) => if (j : Int) ≠ i then acc * (x - j) % p else acc) acc = 0 from h js 1 hm
  intro l
  induction l with
  | nil => intro acc h; simp at h
  | cons j r ih =>
    intro acc h
    rw [List.foldl_cons]
    rcases List.mem_cons.mp h with q | q
    · subst q
      rw [if_pos (by rw [hj]; exact hne), hj, Int.sub_self, Int.mul_zero, Int.zero_emod]
      exact z r
    · exact ih _ q
theorem wgt_grid {p K : Nat} (p2 : 2 ≤ p) (hp : Pr p) (hK : K ≤ p) {x : Nat} (hx : x < K) {i : Nat} (hi : i < K) : wgt p K x i = if i = x then 1 else 0 := by
  unfold wgt
  by_cases e : i = x
  · subst e
    rw [if_pos rfl]
    have un : Units p K := pr_units (by omega) hp (by omega)
    have hB := wprod_unit (p := p) un hi (List.range K) (fun j hj => List.mem_range.mp hj)
    have iv := invOf_unit (m := p) (by omega) hB
    rw [Int.mul_comm]
    exact iv.2.2
  · rw [if_neg e, wprod_zero (j0 := x) rfl (by omega) _ (List.mem_range.mpr hx), Int.zero_mul, Int.zero_emod]
theorem wgts_gt {p : Int} {K : Nat} {x : Int} {i : Nat} (hi : i < K) : gt (wgts p K x) i = wgt p K x i := by
  unfold gt wgts
  rw [Int.toNat_natCast, List.getD_eq_getElem?_getD, List.getElem?_map, range_at hi]
  rfl
/-! ### sums -/
def lpj (row b : List Int) (ai tot : Int) (K : Nat) : Int := (List.range K).foldl (fun (tot : Int) (j : Nat) => tot + gt row j * ai * gt b j) tot
def lp (tb : List (List Int)) (a b : List Int) (K : Nat) : Int := (List.range K).foldl (fun (tot : Int) (i : Nat) => lpj (tb.getD i []) b (gt a i) tot K) 0
theorem foldl_range {α β : Type} (f : β → α → β) (g : Nat → α) (n : Nat) (b : β) : (List.range n).foldl (fun acc j => f acc (g j)) b = ((List.range n).map g).foldl f b := by rw [List.foldl_map]
theorem zip_range {α β : Type} {l : List α} {m : List β} {n : Nat} (f : Nat → α) (g : Nat → β) (hl : l.length = n) (hm : m.length = n) (hf : ∀ i, i < n → l[i]? = some (f i)) (hg : ∀ i, i < n → m[i]? = some (g i)) : (List.range n).map (fun i => (f i, g i)) = l.zip m := by
  refine List.ext_getElem? fun i => ?_
  by_cases hi : i < n
  · have hz : (l.zip m)[i]? = some (f i, g i) := List.getElem?_zip_eq_some.mpr ⟨hf i hi, hg i hi⟩
    rw [List.getElem?_map, range_at hi, hz]
    rfl
  · rw [List.getElem?_eq_none (by simp; omega), List.getElem?_eq_none (by rw [List.length_zip]; omega)]
theorem gt_some {l : List Int} {i : Nat} (h : i < l.length) : l[i]? = some (gt l i) := by
  unfold gt
  rw [Int.toNat_natCast, List.getD_eq_getElem?_getD, List.getElem?_eq_getElem h]
  rfl
theorem fold_lin (c : Int) : ∀ (l : List (Int × Int)) (t0 s0 : Int), l.foldl (fun (tot : Int) (q : Int × Int) => tot + q.1 * c * q.2) (t0 + c * s0) = t0 + c * l.foldl (fun (part : Int) (q : Int × Int) => part + q.1 * q.2) s0
  | [], _, _ => rfl
  | q :: r, t0, s0 => by
    rw [List.foldl_cons, List.foldl_cons, ← fold_lin c r t0 (s0 + q.1 * q.2)]
    congr 1
    rw [Int.mul_add, ← Int.add_assoc, show q.1 * c * q.2 = c * (q.1 * q.2) by ac_rfl]
theorem lpj_inner {row b : List Int} {K : Nat} (hr : row.length = K) (hb : b.length = K) (ai tot : Int) : lpj row b ai tot K = tot + ai * inner b row := by
  unfold lpj inner
  rw [foldl_range (fun (tot : Int) (q : Int × Int) => tot + q.1 * ai * q.2) (fun j => (gt row j, gt b j)), zip_range (fun j => gt row j) (fun j => gt b j) hr hb (fun i hi => gt_some (by omega)) (fun i hi => gt_some (by omega))]
  have := fold_lin ai (row.zip b) tot 0
  rwa [Int.mul_zero, Int.add_zero] at this
theorem outer_mod {p : Int} {b : List Int} : ∀ (l : List (List Int × Int)) (t t' : Int), t % p = t' % p → (t' = t % p) → (l.foldl (fun (tot : Int) (q : List Int × Int) => tot + q.2 * inner b q.1) t) % p = l.foldl (fun (total : Int) (q : List Int × Int) => (total + q.2 * inner b q.1) % p) t'
  | [], t, t', _, h => h.symm
  | q :: r, t, t', h1, h2 => by
    rw [List.foldl_cons, List.foldl_cons]
    refine outer_mod r _ _ ?_ ?_
    · rw [Int.emod_emod, Int.add_emod, h1, ← Int.add_emod]
    · rw [h2, Int.emod_add_emod]
theorem sum_delta (g : Nat → Int) {y : Nat} : ∀ (K : Nat) (s : Int), (List.range K).foldl (fun (acc : Int) (j : Nat) => acc + g j * (if j = y then 1 else 0)) s = s + if y < K then g y else 0
  | 0, s => by simp
  | K + 1, s => by
    rw [List.range_succ, List.foldl_append, sum_delta g K s, List.foldl_cons, List.foldl_nil]
    by_cases e : K = y
    · subst e
      rw [if_neg (Nat.lt_irrefl _), if_pos rfl, if_pos (Nat.lt_succ_self _)]
      omega
    · rw [if_neg e]
      by_cases h : y < K
      · rw [if_pos h, if_pos (by omega)]; omega
      · rw [if_neg h, if_neg (by omega)]; omega
theorem foldl_same {β : Type} (f g : β → Nat → β) (n : Nat) (b : β) (h : ∀ acc j, j < n → f acc j = g acc j) : (List.range n).foldl f b = (List.range n).foldl g b := by
  suffices q : ∀ (l : List Nat) (b : β), (∀ j ∈ l, j < n) → l.foldl f b = l.foldl g b from q _ b fun j hj => List.mem_range.mp hj
  intro l
  induction l with
  | nil => intro b _; rfl
  | cons j r ih =>
    intro b hl
    rw [List.foldl_cons, List.foldl_cons, h b j (hl j List.mem_cons_self)]
    exact ih _ fun x hx => hl x (List.mem_cons_of_mem _ hx)
theorem lp_itp {p : Nat} {tb : List (List Int)} (p2 : 2 ≤ p) (hp : Pr p) (tab : IsTab p tb) (hK : tb.length ≤ p) (x y : Int) : lp tb (wgts p tb.length x) (wgts p tb.length y) tb.length % p = itp tb p x y := by
  have hrow : ∀ i, i < tb.length → tb[i]? = some (tb.getD i []) := fun i hi => by
    rw [List.getD_eq_getElem?_getD, List.getElem?_eq_getElem hi]
    rfl
  have hrl : ∀ i, i < tb.length → (tb.getD i []).length = tb.length := fun i hi => tab.sq _ (List.mem_of_getElem? (hrow i hi))
  have e1 : lp tb (wgts p tb.length x) (wgts p tb.length y) tb.length = (List.range tb.length).foldl (fun (tot : Int) (i : Nat) => tot + gt (wgts p tb.length x) i * inner (wgts p tb.length y) (tb.getD i [])) 0 :=
    foldl_same _ _ _ _ fun acc j hj => lpj_inner (hrl j hj) (wgts_len ..) _ _
  unfold itp
  by_cases hg : (0 ≤ x ∧ x < tb.length) ∧ 0 ≤ y ∧ y < tb.length
  · rw [if_pos hg, e1]
    obtain ⟨⟨x0, x1⟩, y0, y1⟩ := hg
    obtain ⟨xn, rfl⟩ : ∃ xn : Nat, x = xn := ⟨x.toNat, by omega⟩
    obtain ⟨yn, rfl⟩ : ∃ yn : Nat, y = yn := ⟨y.toNat, by omega⟩
    have hxn : xn < tb.length := by omega
    have hyn : yn < tb.length := by omega
    have hin : ∀ i, i < tb.length → inner (wgts p tb.length yn) (tb.getD i []) = gt (tb.getD i []) yn := fun i hi => by
      have := lpj_inner (hrl i hi) (wgts_len p tb.length yn) 1 0
      rw [Int.zero_add, Int.one_mul] at this
      rw [← this]
      unfold lpj
      rw [foldl_same _ (fun (acc : Int) (j : Nat) => acc + gt (tb.getD i []) j * (if j = yn then 1 else 0)) _ _ (fun acc j hj => by rw [wgts_gt hj, wgt_grid p2 hp hK hyn hj, Int.mul_one]), sum_delta (fun j => gt (tb.getD i []) j), if_pos hyn, Int.zero_add]
    rw [foldl_same _ (fun (acc : Int) (i : Nat) => acc + gt (tb.getD i []) yn * (if i = xn then 1 else 0)) _ _ (fun acc i hi => by rw [wgts_gt hi, wgt_grid p2 hp hK hxn hi, hin i hi, Int.mul_comm]), sum_delta (fun i => gt (tb.getD i []) yn), if_pos hxn, Int.zero_add, Int.toNat_natCast]
    rfl
  · rw [if_neg hg, e1, foldl_range (fun (tot : Int) (q : List Int × Int) => tot + q.2 * inner (wgts p tb.length y) q.1) (fun i => (tb.getD i [], gt (wgts p tb.length x) i)),
      zip_range (fun i => tb.getD i []) (fun i => gt (wgts p tb.length x) i) rfl (wgts_len ..) hrow (fun i hi => gt_some (by rw [wgts_len]; exact hi))]
    exact outer_mod _ 0 0 rfl (by simp)
end Bf
local macro_rules | `(tactic| walk_at "pfK1") => `(tactic| first | decide +kernel | omega | assumption | rfl | (simp only [List.length_cons, List.length_nil]; omega))
local macro_rules | `(tactic| walk_at "rd1K1") => `(tactic| first
  | with_reducible refine Bf.r_seq ?_
  | with_reducible refine Bf.r_asg ?_
  | with_reducible refine Bf.r_var (by with_unfolding_all rfl) ?_
  | with_reducible refine Bf.r_c ?_
  | with_reducible refine Bf.r_name ?_
  | with_reducible refine Bf.r_ret ?_
  | with_reducible refine Bf.r_op ?_
  | with_reducible refine Bf.r_I0 ?_
  | ((with_reducible refine Bf.r_I ?c ?_); (case c => first | decide | (show (0 : Int) < _; omega) | (refine Or.inl ⟨?_, ?_⟩ <;> omega) | (refine Or.inr ⟨?_, ?_⟩ <;> omega) | (refine And.intro ?_ ?_ <;> omega)))
  | with_reducible refine Bf.r_ifS ?_
  | with_reducible refine Bf.r_test ?_
  | with_reducible refine Bf.r_isbl ?_
  | with_reducible refine Bf.r_eqI ?_
  | with_reducible refine Bf.r_neI ?_
  | with_reducible refine Bf.r_eqS ?_
  | with_reducible refine Bf.r_neS ?_
  | with_reducible refine Bf.r_cons ?_
  | with_reducible refine Bf.r_nil ?_
  | with_reducible refine Bf.r_CB ?_
  | with_reducible refine Bf.r_call ?_
  | with_reducible refine Bf.i_t ?_
  | with_reducible refine Bf.i_f ?_
  | with_reducible refine Bf.i_nt ?_
  | with_reducible refine Bf.i_nf ?_
  | with_reducible refine Bf.r_ixT (by assumption) (by with_unfolding_all rfl) ?_
  | with_reducible refine Bf.r_ixL (by assumption) (by with_unfolding_all rfl) ?_
  | with_reducible refine Bf.r_fld ?_
  | ((with_reducible refine Bf.r_fat (by assumption) ?c ?n (by with_unfolding_all rfl) ?_); (case c => assumption); (case n => assumption))
  | with_reducible refine Bf.r_par ?_
  | with_reducible refine Bf.r_two ?_
  | with_reducible refine Bf.r_aug (by with_unfolding_all rfl) ?_
  | with_reducible refine Bf.r_ip ?_
  | with_reducible refine Bf.r_app (by with_unfolding_all rfl) (by assumption) ?_
  | with_reducible refine Bf.r_next ?_
  | with_reducible refine Bf.r_cont ?_
  | with_reducible refine Bf.r_drop ?_
  | with_reducible refine Bf.r_and ?_
  | with_reducible refine Bf.r_or ?_
  | with_reducible refine Bf.r_not ?_
  | with_reducible refine Bf.r_andV ?_
  | with_reducible refine Bf.r_orV ?_
  | with_reducible refine Bf.r_notV ?_
  | with_reducible refine Bf.r_chain ?_
  | with_reducible refine Bf.r_B ?_
  | with_reducible refine Bf.r_ifE ?_
  | with_reducible refine Bf.r_un ?_
  | with_reducible refine Bf.r_U ?_
  | with_reducible refine Bf.r_tup ?_
  | with_reducible refine Bf.r_lst ?_
  | with_reducible refine Bf.r_lenT (by assumption) ?_
  | with_reducible refine Bf.r_lenL (by assumption) ?_
  | with_reducible refine Bf.r_int ?_
  | with_reducible refine Bf.r_max2 ?_
  | with_reducible refine Bf.r_min2 ?_
  | with_reducible refine Bf.isi_ Bf.ty_i Bf.kb_ii ?_
  | with_reducible refine Bf.isi_ Bf.ty_i Bf.kb_ib ?_
  | with_reducible refine Bf.isi_ Bf.ty_i Bf.kb_is ?_
  | with_reducible refine Bf.isi_ Bf.ty_i Bf.kb_it ?_
  | with_reducible refine Bf.isi_ Bf.ty_i Bf.kb_il ?_
  | with_reducible refine Bf.isi_ Bf.ty_s Bf.kb_si ?_
  | with_reducible refine Bf.isi_ Bf.ty_s Bf.kb_sb ?_
  | with_reducible refine Bf.isi_ Bf.ty_s Bf.kb_ss ?_
  | with_reducible refine Bf.isi_ Bf.ty_s Bf.kb_st ?_
  | with_reducible refine Bf.isi_ Bf.ty_s Bf.kb_sl ?_
  | with_reducible refine Bf.isi_ (Bf.ty_t (by assumption)) Bf.kb_tt ?_
  | with_reducible refine Bf.isi_ (Bf.ty_l (by assumption)) Bf.kb_ll ?_
  | with_reducible refine Bf.isi_ (Bf.ty_t (by assumption)) Bf.kb_tl ?_
  | with_reducible refine Bf.isi_ (Bf.ty_l (by assumption)) Bf.kb_lt ?_
  | with_reducible refine Bf.isi_ Bf.ty_b Bf.kb_bi ?_
  | with_reducible refine Bf.isi_ Bf.ty_b Bf.kb_bb ?_
  | with_reducible refine Bf.isi_ Bf.ty_b Bf.kb_bs ?_
  | with_reducible refine Bf.isi_ Bf.ty_b Bf.kb_bt ?_
  | with_reducible refine Bf.isi_ Bf.ty_b Bf.kb_bL ?_
  | with_reducible refine Bf.isi_ Bf.ty_n Bf.kb_ni ?_
  | with_reducible refine Bf.isi_ Bf.ty_n Bf.kb_nb ?_
  | with_reducible refine Bf.isi_ Bf.ty_n Bf.kb_ns ?_
  | with_reducible refine Bf.isi_ Bf.ty_n Bf.kb_nt ?_
  | with_reducible refine Bf.isi_ Bf.ty_n Bf.kb_nl ?_
  | with_reducible refine Bf.isi_ (Bf.ty_t (by assumption)) Bf.kb_ti ?_
  | with_reducible refine Bf.isi_ (Bf.ty_l (by assumption)) Bf.kb_li ?_
  | with_reducible refine Bf.isi_ (Bf.ty_t (by assumption)) Bf.kb_tb ?_
  | with_reducible refine Bf.isi_ (Bf.ty_l (by assumption)) Bf.kb_lb ?_
  | with_reducible refine Bf.isi_ (Bf.ty_t (by assumption)) Bf.kb_ts ?_
  | with_reducible refine Bf.isi_ (Bf.ty_l (by assumption)) Bf.kb_ls ?_
  | with_reducible refine Bf.r_gtup (by assumption) (by with_unfolding_all rfl) ?_
  | with_reducible refine Bf.r_gcons ?_
  | with_reducible refine Bf.r_gnil ?_
  | with_reducible refine Bf.r_gsub ?_
  | ((with_reducible refine Bf.n_num ?h ?_); (case h => first | assumption | (refine And.intro ?_ ?_ <;> omega)))
  | with_reducible refine Bf.n_isint ?_
  | with_reducible refine Bf.n_mixed ?_
  | with_reducible refine Bf.r_dget ?_
  | with_reducible refine Bf.n_dgetS (by assumption) (by with_unfolding_all rfl) ?_
  | with_reducible refine Bf.r_pcons ?_
  | with_reducible refine Bf.r_pnil ?_
  | with_reducible refine Bf.r_sl ?_
  | with_reducible refine Bf.r_nopart ?_
  | with_reducible refine Bf.r_part ?_
  | with_reducible refine Bf.r_isint ?_
  | with_reducible refine Bf.r_revL ?_
  | with_reducible refine Bf.r_sfld ?_
  | with_reducible refine Bf.r_meth ?_
  | with_reducible refine Bf.n_meth (by assumption) (by with_unfolding_all rfl) ?_
  | with_reducible refine Bf.r_make ?_
  | with_reducible refine Bf.r_turn ?_
  | with_reducible refine Bf.r_wipe (by with_unfolding_all rfl) ?_
  | with_reducible refine Bf.r_yes ?_
  | with_reducible refine Bf.r_tru ?_
  | with_reducible refine Bf.r_ext (by with_unfolding_all rfl) (by assumption) ?_
  | with_reducible refine Bf.r_glst (by assumption) (by with_unfolding_all rfl) ?_
  | with_reducible refine Bf.r_forR3 ?_
  | with_reducible refine Bf.r_lcR2 ?_
  | with_reducible refine Bf.r_lcL ?_
  | with_reducible refine Bf.r_lcT ?_
  | with_reducible refine Bf.r_lcR ?_
  | with_reducible refine Bf.r_forL ?_
  | with_reducible refine Bf.r_forZ ?_
  | with_reducible refine Bf.r_forT ?_
  | with_reducible refine Bf.r_forR ?_
  | with_reducible refine Bf.r_forR2 ?_
  | ((with_reducible refine Bf.i_d1 ?h ?_); (case h => walk_at "pfK1"))
  | ((with_reducible refine Bf.i_d0 ?h ?_); (case h => walk_at "pfK1"))
  | ((with_reducible refine Bf.i_n1 ?h ?_); (case h => walk_at "pfK1"))
  | ((with_reducible refine Bf.i_n0 ?h ?_); (case h => walk_at "pfK1")))
local macro_rules | `(tactic| walk_at "rdK1") => `(tactic| repeat walk_at "rd1K1")
namespace Bf
open PySem L2
abbrev s__law_prime : Stmt := topS 48
theorem bi__law_prime : ∀ (kV doc pm : Value) (an : Option Addr) (cdv ct : Value) (us : List Value), us.length = 1 → bindArgs (PySem.W.fnOf "_law_prime" "_law_prime" (defArgs s__law_prime) (defBody s__law_prime) (defScope s__law_prime) .none kV doc pm an cdv ct) ⟨us, []⟩ = pure ((["_law_values"] : List Str).zip us) := fun _ _ _ _ _ _ us hl => match us, hl with | [_], _ => rfl
theorem sc__law_prime : FnScope ["_law_values", "_law_number", "_law_k"] ["_law_values"] (defScope s__law_prime) := C8.fnScope_by (by decide +kernel)
abbrev s__law_inverse : Stmt := topS 52
theorem bi__law_inverse : ∀ (kV doc pm : Value) (an : Option Addr) (cdv ct : Value) (us : List Value), us.length = 2 → bindArgs (PySem.W.fnOf "_law_inverse" "_law_inverse" (defArgs s__law_inverse) (defBody s__law_inverse) (defScope s__law_inverse) .none kV doc pm an cdv ct) ⟨us, []⟩ = pure ((["_law_number", "_law_prime_here"] : List Str).zip us) := fun _ _ _ _ _ _ us hl => match us, hl with | [_, _], _ => rfl
theorem sc__law_inverse : FnScope ["_law_number", "_law_prime_here", "_law_k"] ["_law_number", "_law_prime_here"] (defScope s__law_inverse) := C8.fnScope_by (by decide +kernel)
abbrev s__law_weights : Stmt := topS 53
theorem bi__law_weights : ∀ (kV doc pm : Value) (an : Option Addr) (cdv ct : Value) (us : List Value), us.length = 4 → bindArgs (PySem.W.fnOf "_law_weights" "_law_weights" (defArgs s__law_weights) (defBody s__law_weights) (defScope s__law_weights) .none kV doc pm an cdv ct) ⟨us, []⟩ = pure ((["_law_x", "_law_size", "_law_prime_here", "_law_inverses"] : List Str).zip us) := fun _ _ _ _ _ _ us hl => match us, hl with | [_, _, _, _], _ => rfl
theorem sc__law_weights : FnScope ["_law_x", "_law_size", "_law_prime_here", "_law_inverses", "_law_weights_here", "_law_i", "_law_weight", "_law_k"] ["_law_x", "_law_size", "_law_prime_here", "_law_inverses"] (defScope s__law_weights) := C8.fnScope_by (by decide +kernel)
def spLPrime : Sp := fun vs H Q _ => ∃ K : Nat, vs = [.int K] ∧ 1 ≤ K ∧ K ≤ 5 ∧ ∀ H', Same H H' → Q (.int (pOf K)) H'
def spLTable : Sp := fun vs H Q _ => ∃ (D : DD) (K : Nat), vs = [.ref D.d, .int K] ∧ Drw D H ∧ 1 ≤ K ∧ K ≤ 5 ∧ ∀ (tb : List (List Int)) (v : V) H', IsTab K tb → tb.length = K → Rp H' (tabD tb) v → Ds D H H' → Q v H'
def spLInv : Sp := fun vs H Q _ => ∃ (n : Int) (p : Nat), vs = [.int n, .int p] ∧ 2 ≤ p ∧ p ≤ 1000 ∧ 0 ≤ n ∧ n < p ∧ ∀ r : Int, 0 ≤ r → r < p → (Int.gcd n p = 1 → r = invOf n p) → Q (.int r) H
def spLWeights : Sp := fun vs H Q _ => ∃ (x : Int) (n p : Nat) (li : Addr) (invs : List Int), vs = [.int x, .int n, .int p, .ref li] ∧ H li = some (.lst (invs.map V.int)) ∧ GoodInv p invs ∧ 2 ≤ p ∧ p ≤ 1000 ∧ Pr p ∧ n ≤ p ∧ ∀ q H', H q = none → Same H H' → H' q = some (.lst ((wgts p n x).map V.int)) → Q (.ref q) H'
def spLPoly : Sp := fun vs H Q _ => ∃ (tb : List (List Int)) (v : V) (x y : Int) (p : Nat) (li : Addr) (invs : List Int), vs = [v, .int x, .int y, .int p, .ref li] ∧ Rp H (tabD tb) v ∧ IsTab p tb ∧ tb.length ≤ p ∧ H li = some (.lst (invs.map V.int)) ∧ GoodInv p invs ∧ 2 ≤ p ∧ p ≤ 1000 ∧ Pr p ∧ ∀ H', Same H H' → Q (.int (itp tb p x y)) H'
theorem pr_nodiv {p : Int} (h2 : 2 ≤ p) (hp : Pr p) {d : Int} (d2 : 2 ≤ d) (dp : d < p) : p % d ≠ 0 := fun hz => by
  have hd := dvd_mod.mp hz
  have g := pr_units h2 hp (K := p.toNat) (by omega) d.toNat (by omega) (by omega)
  rw [show ((d.toNat : Nat) : Int) = d by omega] at g
  have h1 : d ∣ ((Int.gcd d p : Nat) : Int) := Int.dvd_coe_gcd (Int.dvd_refl d) hd
  rw [g] at h1
  have := Int.le_of_dvd (by decide) h1
  omega
theorem nodiv_pr {p : Int} (h : ∀ d : Int, 2 ≤ d → d < p → p % d ≠ 0) : Pr p := fun d d2 hdd => h d d2 (by
  have : d * 2 ≤ d * d := Int.mul_le_mul_of_nonneg_left (by omega) (by omega)
  omega)
section
variable {P : Program} {w : World} {K : PySem.W.Frag} {mg : Str → Option Value} {base : Heap}
theorem cal__law_prime (T : Gs mg) (F : DefAt K mg "_law_prime" s__law_prime) : C8.Cal P w K mg base 1 "_law_prime" spLPrime [] := by
  refine cal_of F sc__law_prime bi__law_prime (fun vs H Q E h => ?_) (fun f cdv A outer s H vs Q E hr h => ?_)
  · obtain ⟨n, rfl, _⟩ := h
    rfl
  · refine ⟨_, (pss_cons (ps_for PassesOwn.never rfl (pi_range2 rfl T.n_range (pa_cons (pe_callB (b_max2 rfl) (by rfl) T.n_max (by decide +kernel) (pa_cons pe_int (pa_cons (pe_op op_mul pe_int (pv 0)) pa_nil))) (pa_cons pe_int pa_nil))) (pg_name (i := 1) sc__law_prime.nd rfl (by first | exact Or.inl rfl | exact Or.inr rfl)) (pss_one (ps_if (pt_cmpR op_eq (pe_callB b_len (by rfl) T.n_len PySem.boot_len (pa_cons (pe_lc (own := [("_law_k", 2)]) (g := gName 2) rfl sc__law_prime.nd (pi_range2 rfl T.n_range (pa_cons pe_int (pa_cons (pv 1) pa_nil))) (blkOk_by (by first | decide +kernel | kernel_rfl)) (fun _ _ _ _ _ => pg_name (i := 2) sc__law_prime.nd rfl (by first | exact Or.inl rfl | exact Or.inr rfl)) (fun _ _ _ _ _ => pts_one (pt_cmpR op_eq (pe_op op_mod (pv 1) (pv 2)) pe_int (nomark _))) (fun _ _ _ _ _ => (pv 2))) pa_nil)) pe_int (nomark _)) (pss_one (ps_ret (pv 1))) pss_nil)))
      (pss_one (ps_ret pe_int))), ?_⟩
    obtain ⟨n, rfl, n1, n5, k⟩ := h
    obtain ⟨f1, f2, f3, f4, f5⟩ := pOf_fact n1 n5
    have hsz : sizeLine = 2 ^ 24 := rfl
    walk_at "rdK1"
    refine n_forR2 (fun i σ H' => ∃ u1 u2 : Option V, σ = [some (.int n), u1, u2] ∧ Same H H' ∧ max 3 (2 * (n : Int)) + i ≤ pOf n) (by omega) ⟨_, _, rfl, Same.refl H, by omega⟩ ?_ ?_
    · rintro i σ H1 hi ⟨u1, u2, rfl, s1, hle⟩
      walk_at "rdK1"
      refine n_lcR2 (by omega) fun O H2 nO s2 hO => ⟨fun j H' => ∃ acc : List V, Same H1 H' ∧ H' O = some (.lst acc) ∧ acc.length ≤ j ∧ (acc = [] ↔ ∀ d : Int, 2 ≤ d → d < 2 + j → (max 3 (2 * (n : Int)) + i) % d ≠ 0), ⟨[], s2, hO, Nat.zero_le _, by simp; intro d h1 h2; omega⟩, fun j H3 hj h => ?_, fun H3 h => ?_⟩
      · obtain ⟨acc, s3, h3, hl, hiff⟩ := h
        walk_at "rdK1"
        refine i_d2 (fun hc => ?_) (fun hc => ?_)
        · walk_at "rdK1"
          refine n_acc h3 (by omega) fun H4 k4 h4 => ⟨_, same_kp nO s3 k4, h4, by rw [List.length_append]; simp; omega, ?_⟩
          constructor
          · intro e; simp at e
          · intro h; exact absurd hc (h (2 + j) (by omega) (by omega))
        · walk_at "rdK1"
          refine ⟨acc, s3, h3, by omega, ?_⟩
          rw [hiff]
          constructor
          · intro h d d2 dj
            by_cases e : d = 2 + j
            · rw [e]; exact hc
            · exact h d d2 (by omega)
          · intro h d d2 dj
            exact h d d2 (by omega)
      · obtain ⟨acc, s3, h3, hl, hiff⟩ := h
        have s13 := s1.trans s3
        walk_at "rdK1"
        refine i_d2 (fun hc => ?_) (fun hc => ?_)
        · have e : acc = [] := List.length_eq_zero_iff.mp (by omega)
          have hp : Pr (max 3 (2 * (n : Int)) + i) := nodiv_pr fun d d2 dp => hiff.mp e d d2 (by omega)
          have ep : max 3 (2 * (n : Int)) + i = pOf n := by
            by_cases h : max 3 (2 * (n : Int)) + i < pOf n
            · exact absurd hp (f5 _ (by omega) h)
            · omega
          walk_at "rdK1"
          rw [ep]
          exact k _ s13
        · walk_at "rdK1"
          refine ⟨_, _, rfl, s13, ?_⟩
          by_cases h : max 3 (2 * (n : Int)) + i = pOf n
          · exfalso
            apply hc
            have : acc = [] := hiff.mpr fun d d2 dp => by
              rw [h]
              exact pr_nodiv (by omega) f1 d2 (by omega)
            rw [this]
            rfl
          · omega
    · rintro σ H1 ⟨u1, u2, rfl, s1, hle⟩
      exfalso
      omega
theorem cal__law_inverse (T : Gs mg) (F : DefAt K mg "_law_inverse" s__law_inverse) : C8.Cal P w K mg base 1 "_law_inverse" spLInv [] := by
  refine cal_of F sc__law_inverse bi__law_inverse (fun vs H Q E h => ?_) (fun f cdv A outer s H vs Q E hr h => ?_)
  · obtain ⟨n, p, rfl, _⟩ := h
    rfl
  · refine ⟨_, (pss_cons (ps_for PassesOwn.never rfl (pi_range2 rfl T.n_range (pa_cons pe_int (pa_cons (pv 1) pa_nil))) (pg_name (i := 2) sc__law_inverse.nd rfl (by first | exact Or.inl rfl | exact Or.inr rfl)) (pss_one (ps_if (pt_cmpR op_eq (pe_op op_mod (pe_op op_mul (pv 0) (pv 2)) (pv 1)) pe_int (nomark _)) (pss_one (ps_ret (pv 2))) pss_nil)))
      (pss_one (ps_ret pe_int))), ?_⟩
    obtain ⟨n, p, rfl, p2, p9, n0, n1, k⟩ := h
    walk_at "rdK1"
    refine n_forR2 (fun i σ H' => ∃ u1 : Option V, σ = [some (.int n), some (.int p), u1] ∧ H' = H ∧ ∀ d : Int, 1 ≤ d → d < 1 + i → n * d % p ≠ 1) (by omega) ⟨_, rfl, rfl, fun d h1 h2 => by omega⟩ ?_ ?_
    · rintro i σ H' hi ⟨u1, rfl, rfl, hno⟩
      walk_at "rdK1"
      refine i_d2 (fun hc => ?_) (fun hc => ?_)
      · walk_at "rdK1"
        refine k _ (by omega) (by omega) fun hg => ?_
        exact (invOf_eq (by omega) ⟨by omega, by omega, by rw [Int.mul_comm]; exact hc⟩).symm
      · walk_at "rdK1"
        refine ⟨_, rfl, rfl, fun d h1 h2 => ?_⟩
        by_cases e : d = 1 + i
        · rw [e]; exact hc
        · exact hno d h1 (by omega)
    · rintro σ H' ⟨u1, rfl, rfl, hno⟩
      walk_at "rdK1"
      refine k 0 (by decide) (by omega) fun hg => ?_
      exfalso
      obtain ⟨v0, v1, v2⟩ := invOf_unit (m := p) (by omega) hg
      have hne : invOf n p ≠ 0 := fun e => by rw [e, Int.zero_mul, Int.zero_emod] at v2; omega
      refine hno (invOf n p) (by omega) (by omega) ?_
      rw [Int.mul_comm]
      exact v2
theorem cal__law_weights (T : Gs mg) (F : DefAt K mg "_law_weights" s__law_weights) : C8.Cal P w K mg base 1 "_law_weights" spLWeights [] := by
  refine cal_of F sc__law_weights bi__law_weights (fun vs H Q E h => ?_) (fun f cdv A outer s H vs Q E hr h => ?_)
  · obtain ⟨x, n, p, li, invs, rfl, _⟩ := h
    rfl
  · refine ⟨_, (pss_cons (ps_set (i := 4) sc__law_weights.nd rfl (by first | exact Or.inl rfl | exact Or.inr rfl) (pe_lst pa_nil))
      (pss_cons (ps_for PassesOwn.never rfl (pi_range1 rfl T.n_range (pa_cons (pv 1) pa_nil)) (pg_name (i := 5) sc__law_weights.nd rfl (by first | exact Or.inl rfl | exact Or.inr rfl)) (pss_cons (ps_set (i := 6) sc__law_weights.nd rfl (by first | exact Or.inl rfl | exact Or.inr rfl) pe_int)
      (pss_cons (ps_for PassesOwn.never rfl (pi_range1 rfl T.n_range (pa_cons (pv 1) pa_nil)) (pg_name (i := 7) sc__law_weights.nd rfl (by first | exact Or.inl rfl | exact Or.inr rfl)) (pss_one (ps_if (pt_cmpR op_ne (pv 7) (pv 5) (nomark _)) (pss_one (ps_set (i := 6) sc__law_weights.nd rfl (by first | exact Or.inl rfl | exact Or.inr rfl) (pe_op op_mod (pe_op op_mul (pe_op op_mul (pv 6) (pe_op op_sub (pv 0) (pv 7))) (pe_ix ix_seq (pv 3) (pe_op op_mod (pe_op op_sub (pv 5) (pv 7)) (pv 2)) (fun _ _ => rfl))) (pv 2)))) pss_nil)))
      (pss_one (ps_expr (pe_bm PySem.F.plainAttrs_list PySem.F.slot_list_append PySem.F.type_list_append mt_append (pv 4) (pa_cons (pv 6) pa_nil)))))))
      (pss_one (ps_ret (pv 4))))), ?_⟩
    obtain ⟨x, n, p, li, invs, rfl, hli, hg, p2, p9, hp, hn, k⟩ := h
    have hsz : sizeLine = 2 ^ 24 := rfl
    walk_at "rdK1"
    refine n_lst (by decide) fun q H1 nq s1 hq => ?_
    walk_at "rdK1"
    refine n_forR (fun i σ H' => ∃ u1 u2 u3 : Option V, σ = [some (.int x), some (.int n), some (.int p), some (.ref li), some (.ref q), u1, u2, u3] ∧ Same H H' ∧ H' q = some (.lst (((wgts p n x).take i).map V.int))) (by omega) ⟨_, _, _, rfl, s1, hq⟩ ?_ ?_
    · rintro i σ H2 hi ⟨u1, u2, u3, rfl, s2, hq2⟩
      have hi' : i < n := by omega
      have hli2 := s2 _ _ hli
      walk_at "rdK1"
      refine n_forR (fun j σ H' => ∃ u3 : Option V, σ = [some (.int x), some (.int n), some (.int p), some (.ref li), some (.ref q), some (.int i), some (.int (lw p invs x i (List.range j))), u3] ∧ H' = H2) (by omega) ⟨_, rfl, rfl⟩ ?_ ?_
      · rintro j σ H' hj ⟨u3, rfl, rfl⟩
        obtain ⟨b0, b1⟩ := lw_bd (p := p) (by omega) (invs := invs) (x := x) (i := i) (List.range j)
        have esucc : lw p invs x i (List.range (j + 1)) = if (j : Int) ≠ i then lw p invs x i (List.range j) * (x - j) * gt invs (((i : Int) - j) % p) % p else lw p invs x i (List.range j) := by
          unfold lw
          rw [List.range_succ, List.foldl_append]
          rfl
        walk_at "rdK1"
        refine i_n2 (fun hne => ?_) (fun hne => ?_)
        · have hm := mod_bd ((i : Int) - j) (b := (p : Int)) (by omega)
          have hlen := hg.1
          have hd1 : 1 ≤ ((i : Int) - j) % p := by
            have hnz : ((i : Int) - j) % p ≠ 0 := fun z => by
              have c := good_at p2 hp hn hg hi' j (by omega) hne
              have c2 : Cg (p : Int) (gt invs (((i : Int) - j) % p) * ((i : Int) - j)) 0 := by
                have := (Cg.rfl' (p := p) (a := gt invs (((i : Int) - j) % p))).mul (show Cg (p : Int) ((i : Int) - j) 0 by unfold Cg; rw [z, Int.zero_emod])
                rwa [Int.mul_zero] at this
              have c3 := c.symm.trans c2
              unfold Cg at c3
              rw [Int.zero_emod, Int.emod_eq_of_lt (by decide) (by omega)] at c3
              omega
            omega
          obtain ⟨_, g0, g1⟩ := hg.2 _ hd1 hm.2
          walk_at "rdK1"
          refine r_ixL hli2 (gt_V hm.1 (by omega)) ?_
          walk_at "rdK1"
          exact ⟨_, by rw [esucc, if_pos hne]; rfl, rfl⟩
        · walk_at "rdK1"
          exact ⟨_, by rw [esucc, if_neg (by omega)]; rfl, rfl⟩
      · rintro σ H' ⟨u3, rfl, rfl⟩
        rw [show (n : Int).toNat = n by omega, lw_wgt p2 hp hn hg hi']
        walk_at "rdK1"
        refine n_app hq2 (by rw [List.length_map, List.length_take]; omega) fun H3 k3 h3 => ?_
        walk_at "rdK1"
        refine ⟨_, _, _, rfl, same_kp nq s2 k3, ?_⟩
        have et : ((wgts p n x).take (i + 1)) = (wgts p n x).take i ++ [wgt p n x i] := by
          apply take_snoc
          unfold wgts
          rw [List.getElem?_map, range_at hi']
          rfl
        rw [h3, et, List.map_append]
        rfl
    · rintro σ H2 ⟨u1, u2, u3, rfl, s2, hq2⟩
      rw [show (n : Int).toNat = n by omega, List.take_of_length_le (by rw [wgts_len]; exact Nat.le_refl _)] at hq2
      walk_at "rdK1"
      exact k q H2 nq s2 hq2
end
end Bf
local macro_rules | `(tactic| walk_at "pfK2") => `(tactic| first | decide +kernel | omega | assumption | rfl | (simp only [List.length_cons, List.length_nil]; omega))
local macro_rules | `(tactic| walk_at "rd1K2") => `(tactic| first
  | with_reducible refine Bf.r_seq ?_
  | with_reducible refine Bf.r_asg ?_
  | with_reducible refine Bf.r_var (by with_unfolding_all rfl) ?_
  | with_reducible refine Bf.r_c ?_
  | with_reducible refine Bf.r_name ?_
  | with_reducible refine Bf.r_ret ?_
  | with_reducible refine Bf.r_op ?_
  | with_reducible refine Bf.r_I0 ?_
  | ((with_reducible refine Bf.r_I ?c ?_); (case c => first | decide | (show (0 : Int) < _; omega) | (refine Or.inl ⟨?_, ?_⟩ <;> omega) | (refine Or.inr ⟨?_, ?_⟩ <;> omega) | (refine And.intro ?_ ?_ <;> omega)))
  | with_reducible refine Bf.r_ifS ?_
  | with_reducible refine Bf.r_test ?_
  | with_reducible refine Bf.r_isbl ?_
  | with_reducible refine Bf.r_eqI ?_
  | with_reducible refine Bf.r_neI ?_
  | with_reducible refine Bf.r_eqS ?_
  | with_reducible refine Bf.r_neS ?_
  | with_reducible refine Bf.r_cons ?_
  | with_reducible refine Bf.r_nil ?_
  | with_reducible refine Bf.r_CB ?_
  | with_reducible refine Bf.r_call ?_
  | with_reducible refine Bf.i_t ?_
  | with_reducible refine Bf.i_f ?_
  | with_reducible refine Bf.i_nt ?_
  | with_reducible refine Bf.i_nf ?_
  | with_reducible refine Bf.r_ixT (by assumption) (by with_unfolding_all rfl) ?_
  | with_reducible refine Bf.r_ixL (by assumption) (by with_unfolding_all rfl) ?_
  | with_reducible refine Bf.r_fld ?_
  | ((with_reducible refine Bf.r_fat (by assumption) ?c ?n (by with_unfolding_all rfl) ?_); (case c => assumption); (case n => assumption))
  | with_reducible refine Bf.r_par ?_
  | with_reducible refine Bf.r_two ?_
  | with_reducible refine Bf.r_aug (by with_unfolding_all rfl) ?_
  | with_reducible refine Bf.r_ip ?_
  | with_reducible refine Bf.r_app (by with_unfolding_all rfl) (by assumption) ?_
  | with_reducible refine Bf.r_next ?_
  | with_reducible refine Bf.r_cont ?_
  | with_reducible refine Bf.r_drop ?_
  | with_reducible refine Bf.r_and ?_
  | with_reducible refine Bf.r_or ?_
  | with_reducible refine Bf.r_not ?_
  | with_reducible refine Bf.r_andV ?_
  | with_reducible refine Bf.r_orV ?_
  | with_reducible refine Bf.r_notV ?_
  | with_reducible refine Bf.r_chain ?_
  | with_reducible refine Bf.r_B ?_
  | with_reducible refine Bf.r_ifE ?_
  | with_reducible refine Bf.r_un ?_
  | with_reducible refine Bf.r_U ?_
  | with_reducible refine Bf.r_tup ?_
  | with_reducible refine Bf.r_lst ?_
  | with_reducible refine Bf.r_lenT (by assumption) ?_
  | with_reducible refine Bf.r_lenL (by assumption) ?_
  | with_reducible refine Bf.r_int ?_
  | with_reducible refine Bf.r_max2 ?_
  | with_reducible refine Bf.r_min2 ?_
  | with_reducible refine Bf.isi_ Bf.ty_i Bf.kb_ii ?_
  | with_reducible refine Bf.isi_ Bf.ty_i Bf.kb_ib ?_
  | with_reducible refine Bf.isi_ Bf.ty_i Bf.kb_is ?_
  | with_reducible refine Bf.isi_ Bf.ty_i Bf.kb_it ?_
  | with_reducible refine Bf.isi_ Bf.ty_i Bf.kb_il ?_
  | with_reducible refine Bf.isi_ Bf.ty_s Bf.kb_si ?_
  | with_reducible refine Bf.isi_ Bf.ty_s Bf.kb_sb ?_
  | with_reducible refine Bf.isi_ Bf.ty_s Bf.kb_ss ?_
  | with_reducible refine Bf.isi_ Bf.ty_s Bf.kb_st ?_
  | with_reducible refine Bf.isi_ Bf.ty_s Bf.kb_sl ?_
  | with_reducible refine Bf.isi_ (Bf.ty_t (by assumption)) Bf.kb_tt ?_
  | with_reducible refine Bf.isi_ (Bf.ty_l (by assumption)) Bf.kb_ll ?_
  | with_reducible refine Bf.isi_ (Bf.ty_t (by assumption)) Bf.kb_tl ?_
  | with_reducible refine Bf.isi_ (Bf.ty_l (by assumption)) Bf.kb_lt ?_
  | with_reducible refine Bf.isi_ Bf.ty_b Bf.kb_bi ?_
  | with_reducible refine Bf.isi_ Bf.ty_b Bf.kb_bb ?_
  | with_reducible refine Bf.isi_ Bf.ty_b Bf.kb_bs ?_
  | with_reducible refine Bf.isi_ Bf.ty_b Bf.kb_bt ?_
  | with_reducible refine Bf.isi_ Bf.ty_b Bf.kb_bL ?_
  | with_reducible refine Bf.isi_ Bf.ty_n Bf.kb_ni ?_
  | with_reducible refine Bf.isi_ Bf.ty_n Bf.kb_nb ?_
  | with_reducible refine Bf.isi_ Bf.ty_n Bf.kb_ns ?_
  | with_reducible refine Bf.isi_ Bf.ty_n Bf.kb_nt ?_
  | with_reducible refine Bf.isi_ Bf.ty_n Bf.kb_nl ?_
  | with_reducible refine Bf.isi_ (Bf.ty_t (by assumption)) Bf.kb_ti ?_
  | with_reducible refine Bf.isi_ (Bf.ty_l (by assumption)) Bf.kb_li ?_
  | with_reducible refine Bf.isi_ (Bf.ty_t (by assumption)) Bf.kb_tb ?_
  | with_reducible refine Bf.isi_ (Bf.ty_l (by assumption)) Bf.kb_lb ?_
  | with_reducible refine Bf.isi_ (Bf.ty_t (by assumption)) Bf.kb_ts ?_
  | with_reducible refine Bf.isi_ (Bf.ty_l (by assumption)) Bf.kb_ls ?_
  | with_reducible refine Bf.r_gtup (by assumption) (by with_unfolding_all rfl) ?_
  | with_reducible refine Bf.r_gcons ?_
  | with_reducible refine Bf.r_gnil ?_
  | with_reducible refine Bf.r_gsub ?_
  | ((with_reducible refine Bf.n_num ?h ?_); (case h => first | assumption | (refine And.intro ?_ ?_ <;> omega)))
  | with_reducible refine Bf.n_isint ?_
  | with_reducible refine Bf.n_mixed ?_
  | with_reducible refine Bf.r_dget ?_
  | with_reducible refine Bf.n_dgetS (by assumption) (by with_unfolding_all rfl) ?_
  | with_reducible refine Bf.r_pcons ?_
  | with_reducible refine Bf.r_pnil ?_
  | with_reducible refine Bf.r_sl ?_
  | with_reducible refine Bf.r_nopart ?_
  | with_reducible refine Bf.r_part ?_
  | with_reducible refine Bf.r_isint ?_
  | with_reducible refine Bf.r_revL ?_
  | with_reducible refine Bf.r_sfld ?_
  | with_reducible refine Bf.r_meth ?_
  | with_reducible refine Bf.n_meth (by assumption) (by with_unfolding_all rfl) ?_
  | with_reducible refine Bf.r_make ?_
  | with_reducible refine Bf.r_turn ?_
  | with_reducible refine Bf.r_wipe (by with_unfolding_all rfl) ?_
  | with_reducible refine Bf.r_yes ?_
  | with_reducible refine Bf.r_tru ?_
  | with_reducible refine Bf.r_ext (by with_unfolding_all rfl) (by assumption) ?_
  | with_reducible refine Bf.r_glst (by assumption) (by with_unfolding_all rfl) ?_
  | with_reducible refine Bf.r_forR3 ?_
  | with_reducible refine Bf.r_lcR2 ?_
  | with_reducible refine Bf.r_lcL ?_
  | with_reducible refine Bf.r_lcT ?_
  | with_reducible refine Bf.r_lcR ?_
  | with_reducible refine Bf.r_forL ?_
  | with_reducible refine Bf.r_forZ ?_
  | with_reducible refine Bf.r_forT ?_
  | with_reducible refine Bf.r_forR ?_
  | with_reducible refine Bf.r_forR2 ?_
  | ((with_reducible refine Bf.i_d1 ?h ?_); (case h => walk_at "pfK2"))
  | ((with_reducible refine Bf.i_d0 ?h ?_); (case h => walk_at "pfK2"))
  | ((with_reducible refine Bf.i_n1 ?h ?_); (case h => walk_at "pfK2"))
  | ((with_reducible refine Bf.i_n0 ?h ?_); (case h => walk_at "pfK2")))
local macro_rules | `(tactic| walk_at "rdK2") => `(tactic| repeat walk_at "rd1K2")
namespace Bf
open PySem L2
abbrev s__law_polynomial : Stmt := topS 54
theorem bi__law_polynomial : ∀ (kV doc pm : Value) (an : Option Addr) (cdv ct : Value) (us : List Value), us.length = 5 → bindArgs (PySem.W.fnOf "_law_polynomial" "_law_polynomial" (defArgs s__law_polynomial) (defBody s__law_polynomial) (defScope s__law_polynomial) .none kV doc pm an cdv ct) ⟨us, []⟩ = pure ((["_law_table_here", "_law_x", "_law_y", "_law_prime_here", "_law_inverses"] : List Str).zip us) := fun _ _ _ _ _ _ us hl => match us, hl with | [_, _, _, _, _], _ => rfl
theorem sc__law_polynomial : FnScope ["_law_table_here", "_law_x", "_law_y", "_law_prime_here", "_law_inverses", "_law_across", "_law_down", "_law_total", "_law_i", "_law_j"] ["_law_table_here", "_law_x", "_law_y", "_law_prime_here", "_law_inverses"] (defScope s__law_polynomial) := C8.fnScope_by (by decide +kernel)
abbrev s__law_table : Stmt := topS 49
theorem bi__law_table : ∀ (kV doc pm : Value) (an : Option Addr) (cdv ct : Value) (us : List Value), us.length = 2 → bindArgs (PySem.W.fnOf "_law_table" "_law_table" (defArgs s__law_table) (defBody s__law_table) (defScope s__law_table) .none kV doc pm an cdv ct) ⟨us, []⟩ = pure ((["_law_draws", "_law_values"] : List Str).zip us) := fun _ _ _ _ _ _ us hl => match us, hl with | [_, _], _ => rfl
theorem sc__law_table : FnScope ["_law_draws", "_law_values", "_law_kind", "_law_rows", "_law_i", "_law_row", "_law_j"] ["_law_draws", "_law_values"] (defScope s__law_table) := C8.fnScope_by (by decide +kernel)
abbrev s__law_perform : Stmt := topS 55
theorem bi__law_perform : ∀ (kV doc pm : Value) (an : Option Addr) (cdv ct : Value) (us : List Value), us.length = 4 → bindArgs (PySem.W.fnOf "_law_perform" "_law_perform" (defArgs s__law_perform) (defBody s__law_perform) (defScope s__law_perform) .none kV doc pm an cdv ct) ⟨us, []⟩ = pure ((["_law_steps", "_law_prime_here", "_law_memory", "_law_inverses"] : List Str).zip us) := fun _ _ _ _ _ _ us hl => match us, hl with | [_, _, _, _], _ => rfl
theorem sc__law_perform : FnScope ["_law_steps", "_law_prime_here", "_law_memory", "_law_inverses", "_law_after", "_law_step", "_law_worth", "_law_held", "_law_kind", "_law_at"] ["_law_steps", "_law_prime_here", "_law_memory", "_law_inverses"] (defScope s__law_perform) := C8.fnScope_by (by decide +kernel)
def spLPerf : Sp := fun vs H Q _ => ∃ (sq mq li : Addr) (p : Nat) (ss : List Step) (mem invs : List Int), vs = [.ref sq, .int p, .ref mq, .ref li] ∧ LD H sq (ss.map Step.d) ∧ H mq = some (.lst (mem.map V.int)) ∧ H li = some (.lst (invs.map V.int)) ∧ GoodInv p invs ∧ 2 ≤ p ∧ p ≤ 1000 ∧ Pr p ∧ (∀ s ∈ ss, s.ok p 3 0 ∧ s.plain) ∧ Mem p 3 mem ∧
  ∀ q H', H q = none → Same H H' → H' q = some (.lst ((runs p [] mem ss).map V.int)) → Q (.ref q) H'
section
variable {P : Program} {w : World} {K : PySem.W.Frag} {mg : Str → Option Value} {base : Heap}
theorem cal__law_polynomial (T : Gs mg) (c__law_weights : C8.Cal P w K mg base 1 "_law_weights" spLWeights []) (F : DefAt K mg "_law_polynomial" s__law_polynomial) : C8.Cal P w K mg base 2 "_law_polynomial" spLPoly [] := by
  refine cal_of F sc__law_polynomial bi__law_polynomial (fun vs H Q E h => ?_) (fun f cdv A outer s H vs Q E hr h => ?_)
  · obtain ⟨tb, v, x, y, p, li, invs, rfl, _⟩ := h
    rfl
  · refine ⟨_, (pss_cons (ps_set (i := 5) sc__law_polynomial.nd rfl (by first | exact Or.inl rfl | exact Or.inr rfl) (C8.pe_c c__law_weights hr (by first | decide | omega) rfl (pa_cons (pv 1) (pa_cons (pe_callB b_len (by rfl) T.n_len PySem.boot_len (pa_cons (pv 0) pa_nil)) (pa_cons (pv 3) (pa_cons (pv 4) pa_nil))))))
      (pss_cons (ps_set (i := 6) sc__law_polynomial.nd rfl (by first | exact Or.inl rfl | exact Or.inr rfl) (C8.pe_c c__law_weights hr (by first | decide | omega) rfl (pa_cons (pv 2) (pa_cons (pe_callB b_len (by rfl) T.n_len PySem.boot_len (pa_cons (pv 0) pa_nil)) (pa_cons (pv 3) (pa_cons (pv 4) pa_nil))))))
      (pss_cons (ps_set (i := 7) sc__law_polynomial.nd rfl (by first | exact Or.inl rfl | exact Or.inr rfl) pe_int)
      (pss_cons (ps_for PassesOwn.never rfl (pi_range1 rfl T.n_range (pa_cons (pe_callB b_len (by rfl) T.n_len PySem.boot_len (pa_cons (pv 0) pa_nil)) pa_nil)) (pg_name (i := 8) sc__law_polynomial.nd rfl (by first | exact Or.inl rfl | exact Or.inr rfl)) (pss_one (ps_for PassesOwn.never rfl (pi_range1 rfl T.n_range (pa_cons (pe_callB b_len (by rfl) T.n_len PySem.boot_len (pa_cons (pv 0) pa_nil)) pa_nil)) (pg_name (i := 9) sc__law_polynomial.nd rfl (by first | exact Or.inl rfl | exact Or.inr rfl)) (pss_one (ps_set (i := 7) sc__law_polynomial.nd rfl (by first | exact Or.inl rfl | exact Or.inr rfl) (pe_op op_add (pv 7) (pe_op op_mul (pe_op op_mul (pe_ix ix_seq (pe_ix ix_seq (pv 0) (pv 8) (fun _ _ => rfl)) (pv 9) (fun _ _ => rfl)) (pe_ix ix_seq (pv 5) (pv 8) (fun _ _ => rfl))) (pe_ix ix_seq (pv 6) (pv 9) (fun _ _ => rfl)))))))))
      (pss_one (ps_ret (pe_op op_mod (pv 7) (pv 3)))))))), ?_⟩
    obtain ⟨tb, v, x, y, p, li, invs, rfl, hR, tab, hn, hli, hg, p2, p9, hp, k⟩ := h
    obtain ⟨a, vs, rfl, ha, hl⟩ := hR
    have hlen := hl.len
    rw [List.length_map] at hlen
    have hrow : ∀ i, i < tb.length → tb[i]? = some (tb.getD i []) := fun i hi => by
      rw [List.getD_eq_getElem?_getD, List.getElem?_eq_getElem hi]
      rfl
    walk_at "rdK2"
    refine ⟨x, tb.length, p, li, invs, by rw [hlen]; rfl, hli, hg, p2, p9, hp, hn, fun q1 H1 n1 s1 hq1 => ?_⟩
    replace ha := s1 _ _ ha
    walk_at "rdK2"
    refine ⟨y, tb.length, p, li, invs, by rw [hlen]; rfl, s1 _ _ hli, hg, p2, p9, hp, hn, fun q2 H2 n2 s2 hq2 => ?_⟩
    replace ha := s2 _ _ ha
    replace hq1 := s2 _ _ hq1
    replace hl := hl.same (s1.trans s2)
    have s12 := s1.trans s2
    have hw : ∀ (z : Int) (i : Nat), i < tb.length → atI ((wgts p tb.length z).map V.int) (i : Int) = some (.int (gt (wgts p tb.length z) i)) := fun z i hi => gt_V (by omega) (by rw [wgts_len]; omega)
    have hwb : ∀ (z : Int) (i : Nat), i < tb.length → 0 ≤ gt (wgts p tb.length z) i ∧ gt (wgts p tb.length z) i < p := fun z i hi => wgts_bd (p := p) (by omega) (List.mem_of_getElem? (gt_some (by rw [wgts_len]; exact hi)))
    walk_at "rdK2"
    refine n_forR (fun i σ H' => ∃ u1 u2 : Option V, σ = [some (.ref a), some (.int x), some (.int y), some (.int p), some (.ref li), some (.ref q1), some (.ref q2), some (.int ((List.range i).foldl (fun (tot : Int) (i : Nat) => lpj (tb.getD i []) (wgts p tb.length y) (gt (wgts p tb.length x) i) tot tb.length) 0)), u1, u2] ∧ H' = H2) (by omega) ⟨_, _, rfl, rfl⟩ ?_ ?_
    · rintro i σ H' hi ⟨u1, u2, rfl, rfl⟩
      have hi' : i < tb.length := by omega
      obtain ⟨vr, hvr, r1⟩ := hl.get (i := i) (d := .t ((tb.getD i []).map .i)) (by rw [List.getElem?_map, hrow i hi']; rfl)
      obtain ⟨b, vs2, rfl, hb, hl2⟩ := r1
      have e3 := RpL.eq_ints hl2
      subst e3
      have hmem := List.mem_of_getElem? (hrow i hi')
      have hrl := tab.sq _ hmem
      obtain ⟨wx0, wx1⟩ := hwb x i hi'
      walk_at "rdK2"
      refine n_forR (fun j σ H1 => ∃ u2 : Option V, σ = [some (.ref a), some (.int x), some (.int y), some (.int p), some (.ref li), some (.ref q1), some (.ref q2), some (.int (lpj (tb.getD i []) (wgts p tb.length y) (gt (wgts p tb.length x) i) ((List.range i).foldl (fun (tot : Int) (i : Nat) => lpj (tb.getD i []) (wgts p tb.length y) (gt (wgts p tb.length x) i) tot tb.length) 0) j)), some (.int i), u2] ∧ H1 = H') (by omega) ⟨_, rfl, rfl⟩ ?_ ?_
      · rintro j σ H1 hj ⟨u2, rfl, rfl⟩
        have hj' : j < tb.length := by omega
        obtain ⟨wy0, wy1⟩ := hwb y j hj'
        walk_at "rdK2"
        refine r_ixT ha (atI_nat hvr) ?_
        walk_at "rdK2"
        refine r_ixT hb (gt_V (by omega) (by rw [hrl]; omega)) ?_
        walk_at "rdK2"
        refine r_ixL hq1 (hw x i hi') ?_
        walk_at "rdK2"
        refine r_ixL hq2 (hw y j hj') ?_
        walk_at "rdK2"
        have e : ∀ tot, lpj (tb.getD i []) (wgts p tb.length y) (gt (wgts p tb.length x) i) tot (j + 1) = lpj (tb.getD i []) (wgts p tb.length y) (gt (wgts p tb.length x) i) tot j + gt (tb.getD i []) j * gt (wgts p tb.length x) i * gt (wgts p tb.length y) j := fun tot => by
          unfold lpj
          rw [List.range_succ, List.foldl_append]
          rfl
        exact ⟨_, by rw [e]; rfl, rfl⟩
      · rintro σ H1 ⟨u2, rfl, rfl⟩
        rw [show (vs.length : Int).toNat = tb.length by omega]
        exact ⟨_, _, by rw [List.range_succ, List.foldl_append]; rfl, rfl⟩
    · rintro σ H' ⟨u1, u2, rfl, rfl⟩
      rw [show (vs.length : Int).toNat = tb.length by omega]
      walk_at "rdK2"
      have e : (List.range tb.length).foldl (fun (tot : Int) (i : Nat) => lpj (tb.getD i []) (wgts p tb.length y) (gt (wgts p tb.length x) i) tot tb.length) 0 % (p : Int) = itp tb p x y := lp_itp p2 hp tab hn x y
      rw [e]
      exact k _ s12
theorem cal__law_table (T : Gs mg) (c__law_draw : C8.Cal P w K mg base 2 "_law_draw" spDraw []) (F : DefAt K mg "_law_table" s__law_table) : C8.Cal P w K mg base 3 "_law_table" spLTable [] := by
  refine cal_of F sc__law_table bi__law_table (fun vs H Q E h => ?_) (fun f cdv A outer s H vs Q E hr h => ?_)
  · obtain ⟨D, n, rfl, _⟩ := h
    rfl
  · refine ⟨_, (pss_cons (ps_set (i := 2) sc__law_table.nd rfl (by first | exact Or.inl rfl | exact Or.inr rfl) (pe_op op_mod (C8.pe_c c__law_draw hr (by first | decide | omega) rfl (pa_cons (pv 0) pa_nil)) pe_int))
      (pss_cons (ps_set (i := 3) sc__law_table.nd rfl (by first | exact Or.inl rfl | exact Or.inr rfl) (pe_lst pa_nil))
      (pss_cons (ps_for PassesOwn.never rfl (pi_range1 rfl T.n_range (pa_cons (pv 1) pa_nil)) (pg_name (i := 4) sc__law_table.nd rfl (by first | exact Or.inl rfl | exact Or.inr rfl)) (pss_cons (ps_set (i := 5) sc__law_table.nd rfl (by first | exact Or.inl rfl | exact Or.inr rfl) (pe_lst pa_nil))
      (pss_cons (ps_for PassesOwn.never rfl (pi_range1 rfl T.n_range (pa_cons (pv 1) pa_nil)) (pg_name (i := 6) sc__law_table.nd rfl (by first | exact Or.inl rfl | exact Or.inr rfl)) (pss_one (ps_if (pt_cmpR op_eq (pv 2) pe_int (nomark _)) (pss_one (ps_expr (pe_bm PySem.F.plainAttrs_list PySem.F.slot_list_append PySem.F.type_list_append mt_append (pv 5) (pa_cons (pe_op op_mod (pe_op op_add (pv 4) (pv 6)) (pv 1)) pa_nil)))) (pss_one (ps_if (pt_cmpR op_eq (pv 2) pe_int (nomark _)) (pss_one (ps_expr (pe_bm PySem.F.plainAttrs_list PySem.F.slot_list_append PySem.F.type_list_append mt_append (pv 5) (pa_cons (pe_op op_mod (pe_op op_mul (pv 4) (pv 6)) (pv 1)) pa_nil)))) (pss_one (ps_expr (pe_bm PySem.F.plainAttrs_list PySem.F.slot_list_append PySem.F.type_list_append mt_append (pv 5) (pa_cons (pe_op op_mod (C8.pe_c c__law_draw hr (by first | decide | omega) rfl (pa_cons (pv 0) pa_nil)) (pv 1)) pa_nil)))))))))
      (pss_one (ps_expr (pe_bm PySem.F.plainAttrs_list PySem.F.slot_list_append PySem.F.type_list_append mt_append (pv 3) (pa_cons (pe_callTy b_tuple (by rfl) T.n_tuple (by decide +kernel) (pa_cons (pv 5) pa_nil)) pa_nil)))))))
      (pss_one (ps_ret (pe_callTy b_tuple (by rfl) T.n_tuple (by decide +kernel) (pa_cons (pv 3) pa_nil))))))), ?_⟩
    obtain ⟨D, n, rfl, dr, n1, n5, k⟩ := h
    have hsz : sizeLine = 2 ^ 24 := rfl
    have hn0 : (0 : Int) < n := by omega
    walk_at "rdK2"
    refine ⟨D, rfl, dr, fun v1 H1 a1 b1 s1 => ?_⟩
    walk_at "rdK2"
    refine n_lst (by decide) fun O H2 nO s2 hO => ?_
    have d1 := s1.dr
    have fl := fun rows : List (List Int) => flats_map (f := fun r : List Int => Dt.t (r.map .i)) (fun r => flats_i r) rows
    walk_at "rdK2"
    refine n_forR (fun i σ H' => ∃ (u4 u5 u6 : Option V) (rows : List (List Int)) (acc : List V), σ = [some (.ref D.d), some (.int n), some (.int (v1 % 4)), some (.ref O), u4, u5, u6] ∧ Ds D H1 H' ∧ H' O = some (.lst acc) ∧ RpL H' (rows.map fun r => .t (r.map .i)) acc ∧ rows.length = i ∧ ∀ r ∈ rows, r.length = n ∧ ∀ e ∈ r, 0 ≤ e ∧ e < n) (by omega)
      ⟨_, _, _, [], [], rfl, Ds.of d1 s2, hO, rfl, rfl, by simp⟩ ?_ ?_
    · rintro i σ H3 hi ⟨u4, u5, u6, rows, acc, rfl, s3, hO3, hra, hlen, hrows⟩
      have hral := hra.len
      rw [List.length_map] at hral
      walk_at "rdK2"
      refine n_lst (by decide) fun E H4 nE s4 hE => ?_
      have d3 := s3.dr
      walk_at "rdK2"
      refine n_forR (fun j σ H' => ∃ (u6 : Option V) (ns : List Int), σ = [some (.ref D.d), some (.int n), some (.int (v1 % 4)), some (.ref O), some (.int i), some (.ref E), u6] ∧ Ds D H3 H' ∧ H' E = some (.lst (ns.map V.int)) ∧ ns.length = j ∧ ∀ e ∈ ns, 0 ≤ e ∧ e < n) (by omega)
        ⟨_, [], rfl, Ds.of d3 s4, hE, rfl, by simp⟩ ?_ ?_
      · rintro j σ H5 hj ⟨u6, ns, rfl, s5, hE5, hnl, hns⟩
        have app : ∀ z : Int, ∀ e ∈ ns ++ [z % n], 0 ≤ e ∧ e < n := fun z e he => by
          rcases List.mem_append.mp he with q | q
          · exact hns e q
          · rw [List.mem_singleton.mp q]
            exact mod_bd z hn0
        have hl2 : (ns.map V.int).length < sizeLine := by rw [List.length_map]; omega
        walk_at "rdK2"
        refine i_d2 (fun hc => ?_) (fun hc => ?_)
        · walk_at "rdK2"
          refine n_app hE5 hl2 fun H6 k6 h6 => ?_
          walk_at "rdK2"
          exact ⟨_, ns ++ [((i : Int) + j) % n], rfl, Ds.kpn d3 nE s5 k6, by rw [h6, List.map_append]; rfl, by rw [List.length_append, hnl]; rfl, app _⟩
        · walk_at "rdK2"
          refine i_d2 (fun hc2 => ?_) (fun hc2 => ?_)
          · walk_at "rdK2"
            refine n_app hE5 hl2 fun H6 k6 h6 => ?_
            walk_at "rdK2"
            exact ⟨_, ns ++ [((i : Int) * j) % n], rfl, Ds.kpn d3 nE s5 k6, by rw [h6, List.map_append]; rfl, by rw [List.length_append, hnl]; rfl, app _⟩
          · walk_at "rdK2"
            refine ⟨D, rfl, s5.dr, fun v6 H6 a6 b6 s6 => ?_⟩
            have hE6 := Ds.new d3 nE hE5 s6
            walk_at "rdK2"
            refine n_app hE6 hl2 fun H7 k7 h7 => ?_
            walk_at "rdK2"
            exact ⟨_, ns ++ [v6 % n], rfl, Ds.kpn d3 nE (s5.trans s6) k7, by rw [h7, List.map_append]; rfl, by rw [List.length_append, hnl]; rfl, app _⟩
      · rintro σ H5 ⟨u6, ns, rfl, s5, hE5, hnl, hns⟩
        have hO5 := Ds.new d1 nO hO3 s5
        walk_at "rdK2"
        refine n_tupL hE5 fun q H6 nq s6 hq => ?_
        have hO6 := s6 _ _ hO5
        have hra6 := (hra.tk (Ds.tk d3 s5) (fl rows)).same s6
        walk_at "rdK2"
        refine n_app hO6 (by omega) fun H7 k7 h7 => ?_
        walk_at "rdK2"
        refine ⟨_, _, _, rows ++ [ns], acc ++ [.ref q], rfl, Ds.kpn d1 nO ((s3.trans s5).same s6) k7, h7, ?_, by rw [List.length_append, hlen]; rfl, fun r hr2 => ?_⟩
        · rw [List.map_append]
          exact (hra6.snoc (d := .t (ns.map .i)) ⟨q, _, rfl, hq, RpL.ints ns⟩).tk (TK.kp hO6 k7) (flats_app (fl rows) (flats_i ns))
        · rcases List.mem_append.mp hr2 with q | q
          · exact hrows r q
          · rw [List.mem_singleton.mp q]
            exact ⟨by rw [hnl]; omega, hns⟩
    · rintro σ H3 ⟨u4, u5, u6, rows, acc, rfl, s3, hO3, hra, hlen, hrows⟩
      replace hlen : rows.length = n := by omega
      walk_at "rdK2"
      refine n_tupL hO3 fun q H4 nq s4 hq => ?_
      exact k rows _ _ ⟨by omega, fun r hr2 => by rw [hlen]; exact (hrows r hr2).1, fun r hr2 => (hrows r hr2).2⟩ hlen ⟨q, acc, rfl, hq, hra.same s4⟩ ((s1.trans s3).same s4)
theorem cal__law_perform (T : Gs mg) (c__law_polynomial : C8.Cal P w K mg base 2 "_law_polynomial" spLPoly []) (F : DefAt K mg "_law_perform" s__law_perform) : C8.Cal P w K mg base 3 "_law_perform" spLPerf [] := by
  refine cal_of F sc__law_perform bi__law_perform (fun vs H Q E h => ?_) (fun f cdv A outer s H vs Q E hr h => ?_)
  · obtain ⟨sq, mq, li, p, ss, mem, invs, rfl, _⟩ := h
    rfl
  · refine ⟨_, (pss_cons (ps_set (i := 4) sc__law_perform.nd rfl (by first | exact Or.inl rfl | exact Or.inr rfl) (pe_callTy b_list (by rfl) T.n_list (by decide +kernel) (pa_cons (pv 2) pa_nil)))
      (pss_cons (ps_for PassesOwn.never rfl (pi_list (pv 0)) (pg_name (i := 5) sc__law_perform.nd rfl (by first | exact Or.inl rfl | exact Or.inr rfl)) (pss_one (ps_if (pt_cmpR op_eq (pe_ix ix_seq (pv 5) pe_int (fun _ _ => rfl)) pe_str (nomark _)) (pss_cons (ps_set (i := 6) sc__law_perform.nd rfl (by first | exact Or.inl rfl | exact Or.inr rfl) (C8.pe_c c__law_polynomial hr (by first | decide | omega) rfl (pa_cons (pe_ix ix_seq (pv 5) pe_int (fun _ _ => rfl)) (pa_cons (pe_ix ix_seq (pv 4) (pe_ix ix_seq (pv 5) pe_int (fun _ _ => rfl)) (fun _ _ => rfl)) (pa_cons (pe_ix ix_seq (pv 4) (pe_ix ix_seq (pv 5) pe_int (fun _ _ => rfl)) (fun _ _ => rfl)) (pa_cons (pv 1) (pa_cons (pv 3) pa_nil)))))))
      (pss_one (ps_asg (pe_op op_mod (pe_op op_add (pe_ix ix_seq (pv 4) (pe_ix ix_seq (pv 5) pe_int (fun _ _ => rfl)) (fun _ _ => rfl)) (pe_op op_mul (pe_ix ix_seq (pv 5) pe_int (fun _ _ => rfl)) (pv 6))) (pv 1)) (pg_sub (pv 4) (pe_ix ix_seq (pv 5) pe_int (fun _ _ => rfl)) set_list)))) (pss_one (ps_if (pt_cmpR op_eq (pe_ix ix_seq (pv 5) pe_int (fun _ _ => rfl)) pe_str (nomark _)) (pss_one (ps_asg (pe_op op_mod (pe_op op_mul (pe_ix ix_seq (pv 4) (pe_ix ix_seq (pv 5) pe_int (fun _ _ => rfl)) (fun _ _ => rfl)) (pe_ix ix_seq (pv 5) pe_int (fun _ _ => rfl))) (pv 1)) (pg_sub (pv 4) (pe_ix ix_seq (pv 5) pe_int (fun _ _ => rfl)) set_list))) (pss_one (ps_if (pt_cmpR op_eq (pe_ix ix_seq (pv 5) pe_int (fun _ _ => rfl)) pe_str (nomark _)) (pss_cons (ps_set (i := 7) sc__law_perform.nd rfl (by first | exact Or.inl rfl | exact Or.inr rfl) (pe_ix ix_seq (pv 4) (pe_ix ix_seq (pv 5) pe_int (fun _ _ => rfl)) (fun _ _ => rfl)))
      (pss_cons (ps_asg (pe_ix ix_seq (pv 4) (pe_ix ix_seq (pv 5) pe_int (fun _ _ => rfl)) (fun _ _ => rfl)) (pg_sub (pv 4) (pe_ix ix_seq (pv 5) pe_int (fun _ _ => rfl)) set_list))
      (pss_one (ps_asg (pv 7) (pg_sub (pv 4) (pe_ix ix_seq (pv 5) pe_int (fun _ _ => rfl)) set_list))))) (pss_cons (ps_set (i := 6) sc__law_perform.nd rfl (by first | exact Or.inl rfl | exact Or.inr rfl) (pe_ix ix_seq (pv 5) pe_int (fun _ _ => rfl)))
      (pss_cons (ps_for PassesOwn.never rfl (pi_tup (pe_ix ix_seq (pv 5) pe_int (fun _ _ => rfl))) (pg_tup rfl (pgs_cons (pg_name (i := 8) sc__law_perform.nd rfl (by first | exact Or.inl rfl | exact Or.inr rfl)) (pgs_cons (pg_name (i := 9) sc__law_perform.nd rfl (by first | exact Or.inl rfl | exact Or.inr rfl)) pgs_nil))) (pss_one (ps_set (i := 6) sc__law_perform.nd rfl (by first | exact Or.inl rfl | exact Or.inr rfl) (pe_op op_mod (pe_op op_mul (pv 6) (pe_ix ix_seq (pv 4) (pv 9) (fun _ _ => rfl))) (pv 1)))))
      (pss_one (ps_asg (pe_op op_mod (pe_op op_add (pe_ix ix_seq (pv 4) (pe_ix ix_seq (pv 5) pe_int (fun _ _ => rfl)) (fun _ _ => rfl)) (pv 6)) (pv 1)) (pg_sub (pv 4) (pe_ix ix_seq (pv 5) pe_int (fun _ _ => rfl)) set_list))))))))))))
      (pss_one (ps_ret (pv 4))))), ?_⟩
    obtain ⟨sq, mq, li, p, ss, mem, invs, rfl, lsq, hmq, hli, hg, p2, p9, hp, hss, hM, k⟩ := h
    obtain ⟨ws, hsq, hws⟩ := lsq
    have hwl := hws.len
    rw [List.length_map] at hwl
    have m2 : (2 : Int) ≤ p := by omega
    walk_at "rdK2"
    refine n_listL hmq fun r H1 nr s1 hr1 => ?_
    walk_at "rdK2"
    refine n_forL (fun i σ H' => ∃ u5 u6 u7 u8 u9 : Option V, σ = [some (.ref sq), some (.int p), some (.ref mq), some (.ref li), some (.ref r), u5, u6, u7, u8, u9] ∧ Same H H' ∧ H' r = some (.lst ((runs p [] mem (ss.take i)).map V.int))) (s1 _ _ hsq) ⟨_, _, _, _, _, rfl, s1, hr1⟩ (fun i σ H' _ h => by obtain ⟨_, _, _, _, _, _, s2, _⟩ := h; exact SqL.of (s2 _ _ hsq)) ?_ ?_
    · rintro i y σ H2 hy ⟨u5, u6, u7, u8, u9, rfl, s2, hr2⟩
      obtain ⟨df, hdf, hfv⟩ := hws.at hy
      obtain ⟨st, hst, rfl⟩ := Option.map_eq_some_iff.mp (by rwa [List.getElem?_map] at hdf)
      obtain ⟨hok, hpl⟩ := hss _ (List.mem_of_getElem? hst)
      have hm := runs_mem m2 (given := []) hM (ss := ss.take i) fun s hs => (hss s (List.mem_of_mem_take hs)).1
      generalize hmm : runs p [] mem (ss.take i) = mm at hr2 hm
      have hm1 := hm.1
      have e : runs p [] mem (ss.take (i + 1)) = perf p [] mm st := by
        rw [← hmm]
        exact foldl_take _ _ hst
      have hML : ∀ {i : Int}, i < 3 → i < mm.length := fun h => by omega
      replace hfv := hfv.same s2
      have hli2 := s2 _ _ hli
      cases st with
      | add t co fs =>
        replace hpl : fs = [] := hpl
        subst hpl
        obtain ⟨a, _, rfl, ha, w1, _, rfl, rfl, w2, _, rfl, rfl, w3, _, rfl, rfl, w4, _, rfl, ⟨b, vs, rfl, hb, hF⟩, rfl⟩ := hfv
        replace hF : vs = [] := hF
        subst hF
        obtain ⟨⟨t0, t1⟩, ⟨k0, k1⟩, hf3, hf⟩ := hok
        walk_at "rdK2"
        refine n_forT (fun i σ H' => ∃ u8 u9 : Option V, σ = [some (.ref sq), some (.int p), some (.ref mq), some (.ref li), some (.ref r), some (.ref a), some (.int co), u7, u8, u9] ∧ H' = H2) hb ⟨_, _, rfl, rfl⟩ (fun i σ H' _ h => by obtain ⟨_, _, _, rfl⟩ := h; exact hb) (fun i x σ H' hx _ => by simp at hx) ?_
        rintro σ H' ⟨u8', u9', rfl, rfl⟩
        walk_at "rdK2"
        refine r_ixL hr2 (gt_V t0 (hML t1)) ?_
        walk_at "rdK2"
        refine n_setL hr2 t0 (by rw [List.length_map]; exact hML t1) fun H3 k3 h3 => ?_
        walk_at "rdK2"
        exact ⟨_, _, _, _, _, rfl, same_kp nr s2 k3, by rw [h3, e, set_V, perf_add]; rfl⟩
      | scale t co =>
        obtain ⟨a, _, rfl, ha, w1, _, rfl, rfl, w2, _, rfl, rfl, w3, _, rfl, rfl, rfl⟩ := hfv
        obtain ⟨⟨t0, t1⟩, ⟨k0, k1⟩, hgc⟩ := hok
        walk_at "rdK2"
        refine r_ixL hr2 (gt_V t0 (hML t1)) ?_
        walk_at "rdK2"
        refine n_setL hr2 t0 (by rw [List.length_map]; exact hML t1) fun H3 k3 h3 => ?_
        walk_at "rdK2"
        exact ⟨_, _, _, _, _, rfl, same_kp nr s2 k3, by rw [h3, e, set_V, perf_scale]⟩
      | swap a b =>
        obtain ⟨p', _, rfl, ha, w1, _, rfl, rfl, w2, _, rfl, rfl, w3, _, rfl, rfl, rfl⟩ := hfv
        obtain ⟨⟨a0, a1⟩, ⟨b0, b1⟩, hab⟩ := hok
        have hpl : p' ≠ r := ne_of ha hr2 (by intro z; cases z)
        walk_at "rdK2"
        refine r_ixL hr2 (gt_V a0 (hML a1)) ?_
        walk_at "rdK2"
        refine r_ixL hr2 (gt_V b0 (hML b1)) ?_
        walk_at "rdK2"
        refine n_setL hr2 a0 (by rw [List.length_map]; exact hML a1) fun H3 k3 h3 => ?_
        have ha2 := k3 _ _ hpl ha
        walk_at "rdK2"
        refine n_setL h3 b0 (by rw [List.length_set, List.length_map]; exact hML b1) fun H4 k4 h4 => ?_
        walk_at "rdK2"
        exact ⟨_, _, _, _, _, rfl, same_kp nr (same_kp nr s2 k3) k4, by rw [h4, e, set_V, set_V, perf_swap]⟩
      | table t sg tb a b =>
        obtain ⟨p', _, rfl, hp', w1, _, rfl, rfl, w2, _, rfl, rfl, w3, _, rfl, rfl, w4, _, rfl, hT, w5, _, rfl, rfl, w6, _, rfl, rfl, rfl⟩ := hfv
        obtain ⟨t0, t1⟩ := hok.ht
        obtain ⟨a0, a1⟩ := hok.ha
        obtain ⟨b0, b1⟩ := hok.hb
        walk_at "rdK2"
        refine r_ixL hr2 (gt_V a0 (hML a1)) ?_
        walk_at "rdK2"
        refine r_ixL hr2 (gt_V b0 (hML b1)) ?_
        walk_at "rdK2"
        refine ⟨tb, w4, _, _, p, li, invs, rfl, hT, hok.tab, by have := hok.le; omega, hli2, hg, p2, p9, hp, fun H3 s3 => ?_⟩
        replace hr2 := s3 _ _ hr2
        replace hp' := s3 _ _ hp'
        have hsg : 0 ≤ sg ∧ sg < p := by rcases hok.hs with e | e <;> omega
        walk_at "rdK2"
        refine r_ixL hr2 (gt_V t0 (hML t1)) ?_
        walk_at "rdK2"
        refine n_setL hr2 t0 (by rw [List.length_map]; exact hML t1) fun H4 k4 h4 => ?_
        walk_at "rdK2"
        exact ⟨_, _, _, _, _, rfl, same_kp nr (s2.trans s3) k4, by rw [h4, e, set_V, perf_table]⟩
    · rintro σ H2 ⟨u5, u6, u7, u8, u9, rfl, s2, hr2⟩
      rw [hwl, List.take_length] at hr2
      walk_at "rdK2"
      exact k r H2 nr s2 hr2
end
end Bf
local macro_rules | `(tactic| walk_at "pfK3") => `(tactic| first | decide +kernel | omega | assumption | rfl | (simp only [List.length_cons, List.length_nil]; omega))
local macro_rules | `(tactic| walk_at "rd1K3") => `(tactic| first
  | with_reducible refine Bf.r_seq ?_
  | with_reducible refine Bf.r_asg ?_
  | with_reducible refine Bf.r_var (by with_unfolding_all rfl) ?_
  | with_reducible refine Bf.r_c ?_
  | with_reducible refine Bf.r_name ?_
  | with_reducible refine Bf.r_ret ?_
  | with_reducible refine Bf.r_op ?_
  | with_reducible refine Bf.r_I0 ?_
  | ((with_reducible refine Bf.r_I ?c ?_); (case c => first | decide | (show (0 : Int) < _; omega) | (refine Or.inl ⟨?_, ?_⟩ <;> omega) | (refine Or.inr ⟨?_, ?_⟩ <;> omega) | (refine And.intro ?_ ?_ <;> omega)))
  | with_reducible refine Bf.r_ifS ?_
  | with_reducible refine Bf.r_test ?_
  | with_reducible refine Bf.r_isbl ?_
  | with_reducible refine Bf.r_eqI ?_
  | with_reducible refine Bf.r_neI ?_
  | with_reducible refine Bf.r_eqS ?_
  | with_reducible refine Bf.r_neS ?_
  | with_reducible refine Bf.r_cons ?_
  | with_reducible refine Bf.r_nil ?_
  | with_reducible refine Bf.r_CB ?_
  | with_reducible refine Bf.r_call ?_
  | with_reducible refine Bf.i_t ?_
  | with_reducible refine Bf.i_f ?_
  | with_reducible refine Bf.i_nt ?_
  | with_reducible refine Bf.i_nf ?_
  | with_reducible refine Bf.r_ixT (by assumption) (by with_unfolding_all rfl) ?_
  | with_reducible refine Bf.r_ixL (by assumption) (by with_unfolding_all rfl) ?_
  | with_reducible refine Bf.r_fld ?_
  | ((with_reducible refine Bf.r_fat (by assumption) ?c ?n (by with_unfolding_all rfl) ?_); (case c => assumption); (case n => assumption))
  | with_reducible refine Bf.r_par ?_
  | with_reducible refine Bf.r_two ?_
  | with_reducible refine Bf.r_aug (by with_unfolding_all rfl) ?_
  | with_reducible refine Bf.r_ip ?_
  | with_reducible refine Bf.r_app (by with_unfolding_all rfl) (by assumption) ?_
  | with_reducible refine Bf.r_next ?_
  | with_reducible refine Bf.r_cont ?_
  | with_reducible refine Bf.r_drop ?_
  | with_reducible refine Bf.r_and ?_
  | with_reducible refine Bf.r_or ?_
  | with_reducible refine Bf.r_not ?_
  | with_reducible refine Bf.r_andV ?_
  | with_reducible refine Bf.r_orV ?_
  | with_reducible refine Bf.r_notV ?_
  | with_reducible refine Bf.r_chain ?_
  | with_reducible refine Bf.r_B ?_
  | with_reducible refine Bf.r_ifE ?_
  | with_reducible refine Bf.r_un ?_
  | with_reducible refine Bf.r_U ?_
  | with_reducible refine Bf.r_tup ?_
  | with_reducible refine Bf.r_lst ?_
  | with_reducible refine Bf.r_lenT (by assumption) ?_
  | with_reducible refine Bf.r_lenL (by assumption) ?_
  | with_reducible refine Bf.r_int ?_
  | with_reducible refine Bf.r_max2 ?_
  | with_reducible refine Bf.r_min2 ?_
  | with_reducible refine Bf.isi_ Bf.ty_i Bf.kb_ii ?_
  | with_reducible refine Bf.isi_ Bf.ty_i Bf.kb_ib ?_
  | with_reducible refine Bf.isi_ Bf.ty_i Bf.kb_is ?_
  | with_reducible refine Bf.isi_ Bf.ty_i Bf.kb_it ?_
  | with_reducible refine Bf.isi_ Bf.ty_i Bf.kb_il ?_
  | with_reducible refine Bf.isi_ Bf.ty_s Bf.kb_si ?_
  | with_reducible refine Bf.isi_ Bf.ty_s Bf.kb_sb ?_
  | with_reducible refine Bf.isi_ Bf.ty_s Bf.kb_ss ?_
  | with_reducible refine Bf.isi_ Bf.ty_s Bf.kb_st ?_
  | with_reducible refine Bf.isi_ Bf.ty_s Bf.kb_sl ?_
  | with_reducible refine Bf.isi_ (Bf.ty_t (by assumption)) Bf.kb_tt ?_
  | with_reducible refine Bf.isi_ (Bf.ty_l (by assumption)) Bf.kb_ll ?_
  | with_reducible refine Bf.isi_ (Bf.ty_t (by assumption)) Bf.kb_tl ?_
  | with_reducible refine Bf.isi_ (Bf.ty_l (by assumption)) Bf.kb_lt ?_
  | with_reducible refine Bf.isi_ Bf.ty_b Bf.kb_bi ?_
  | with_reducible refine Bf.isi_ Bf.ty_b Bf.kb_bb ?_
  | with_reducible refine Bf.isi_ Bf.ty_b Bf.kb_bs ?_
  | with_reducible refine Bf.isi_ Bf.ty_b Bf.kb_bt ?_
  | with_reducible refine Bf.isi_ Bf.ty_b Bf.kb_bL ?_
  | with_reducible refine Bf.isi_ Bf.ty_n Bf.kb_ni ?_
  | with_reducible refine Bf.isi_ Bf.ty_n Bf.kb_nb ?_
  | with_reducible refine Bf.isi_ Bf.ty_n Bf.kb_ns ?_
  | with_reducible refine Bf.isi_ Bf.ty_n Bf.kb_nt ?_
  | with_reducible refine Bf.isi_ Bf.ty_n Bf.kb_nl ?_
  | with_reducible refine Bf.isi_ (Bf.ty_t (by assumption)) Bf.kb_ti ?_
  | with_reducible refine Bf.isi_ (Bf.ty_l (by assumption)) Bf.kb_li ?_
  | with_reducible refine Bf.isi_ (Bf.ty_t (by assumption)) Bf.kb_tb ?_
  | with_reducible refine Bf.isi_ (Bf.ty_l (by assumption)) Bf.kb_lb ?_
  | with_reducible refine Bf.isi_ (Bf.ty_t (by assumption)) Bf.kb_ts ?_
  | with_reducible refine Bf.isi_ (Bf.ty_l (by assumption)) Bf.kb_ls ?_
  | with_reducible refine Bf.r_gtup (by assumption) (by with_unfolding_all rfl) ?_
  | with_reducible refine Bf.r_gcons ?_
  | with_reducible refine Bf.r_gnil ?_
  | with_reducible refine Bf.r_gsub ?_
  | ((with_reducible refine Bf.n_num ?h ?_); (case h => first | assumption | (refine And.intro ?_ ?_ <;> omega)))
  | with_reducible refine Bf.n_isint ?_
  | with_reducible refine Bf.n_mixed ?_
  | with_reducible refine Bf.r_dget ?_
  | with_reducible refine Bf.n_dgetS (by assumption) (by with_unfolding_all rfl) ?_
  | with_reducible refine Bf.r_pcons ?_
  | with_reducible refine Bf.r_pnil ?_
  | with_reducible refine Bf.r_sl ?_
  | with_reducible refine Bf.r_nopart ?_
  | with_reducible refine Bf.r_part ?_
  | with_reducible refine Bf.r_isint ?_
  | with_reducible refine Bf.r_revL ?_
  | with_reducible refine Bf.r_sfld ?_
  | with_reducible refine Bf.r_meth ?_
  | with_reducible refine Bf.n_meth (by assumption) (by with_unfolding_all rfl) ?_
  | with_reducible refine Bf.r_make ?_
  | with_reducible refine Bf.r_turn ?_
  | with_reducible refine Bf.r_wipe (by with_unfolding_all rfl) ?_
  | with_reducible refine Bf.r_yes ?_
  | with_reducible refine Bf.r_tru ?_
  | with_reducible refine Bf.r_ext (by with_unfolding_all rfl) (by assumption) ?_
  | with_reducible refine Bf.r_glst (by assumption) (by with_unfolding_all rfl) ?_
  | with_reducible refine Bf.r_forR3 ?_
  | with_reducible refine Bf.r_lcR2 ?_
  | with_reducible refine Bf.r_lcL ?_
  | with_reducible refine Bf.r_lcT ?_
  | with_reducible refine Bf.r_lcR ?_
  | with_reducible refine Bf.r_forL ?_
  | with_reducible refine Bf.r_forZ ?_
  | with_reducible refine Bf.r_forT ?_
  | with_reducible refine Bf.r_forR ?_
  | with_reducible refine Bf.r_forR2 ?_
  | ((with_reducible refine Bf.i_d1 ?h ?_); (case h => walk_at "pfK3"))
  | ((with_reducible refine Bf.i_d0 ?h ?_); (case h => walk_at "pfK3"))
  | ((with_reducible refine Bf.i_n1 ?h ?_); (case h => walk_at "pfK3"))
  | ((with_reducible refine Bf.i_n0 ?h ?_); (case h => walk_at "pfK3")))
local macro_rules | `(tactic| walk_at "rdK3") => `(tactic| repeat walk_at "rd1K3")
namespace Bf
open PySem L2
abbrev s__law_cost : Stmt := topS 51
theorem bi__law_cost : ∀ (kV doc pm : Value) (an : Option Addr) (cdv ct : Value) (us : List Value), us.length = 2 → bindArgs (PySem.W.fnOf "_law_cost" "_law_cost" (defArgs s__law_cost) (defBody s__law_cost) (defScope s__law_cost) .none kV doc pm an cdv ct) ⟨us, []⟩ = pure ((["_law_tree_here", "_law_prime_here"] : List Str).zip us) := fun _ _ _ _ _ _ us hl => match us, hl with | [_, _], _ => rfl
theorem sc__law_cost : FnScope ["_law_tree_here", "_law_prime_here"] ["_law_tree_here", "_law_prime_here"] (defScope s__law_cost) := C8.fnScope_by (by decide +kernel)
abbrev s__law_tree : Stmt := topS 50
theorem bi__law_tree : ∀ (kV doc pm : Value) (an : Option Addr) (cdv ct : Value) (us : List Value), us.length = 4 → bindArgs (PySem.W.fnOf "_law_tree" "_law_tree" (defArgs s__law_tree) (defBody s__law_tree) (defScope s__law_tree) .none kV doc pm an cdv ct) ⟨us, []⟩ = pure ((["_law_draws", "_law_values", "_law_deep", "_law_left"] : List Str).zip us) := fun _ _ _ _ _ _ us hl => match us, hl with | [_, _, _, _], _ => rfl
theorem sc__law_tree : FnScope ["_law_draws", "_law_values", "_law_deep", "_law_left", "_law_first"] ["_law_draws", "_law_values", "_law_deep", "_law_left"] (defScope s__law_tree) := C8.fnScope_by (by decide +kernel)
abbrev s__law_thin_tree : Stmt := topS 56
theorem bi__law_thin_tree : ∀ (kV doc pm : Value) (an : Option Addr) (cdv ct : Value) (us : List Value), us.length = 1 → bindArgs (PySem.W.fnOf "_law_thin_tree" "_law_thin_tree" (defArgs s__law_thin_tree) (defBody s__law_thin_tree) (defScope s__law_thin_tree) .none kV doc pm an cdv ct) ⟨us, []⟩ = pure ((["_law_draws"] : List Str).zip us) := fun _ _ _ _ _ _ us hl => match us, hl with | [_], _ => rfl
theorem sc__law_thin_tree : FnScope ["_law_draws", "_law_values", "_law_prime_here", "_law_tree_here", "_law_inverses", "_law_k", "_law_memory"] ["_law_draws"] (defScope s__law_thin_tree) := C8.fnScope_by (by decide +kernel)
def spLCost (k : Nat) : Sp := fun vs H Q _ => ∃ (t : Tr) (p : Nat) (v : V), vs = [v, .int p] ∧ Rp H t.d v ∧ t.dep ≤ k ∧ 2 ≤ p ∧ p ≤ 1000 ∧ Q (.int (t.cost p)) H
/-- all but the draws and the list of what is left is kept -/
def K2 (D : DD) (lf : Addr) (H H' : Hp) : Prop := ∀ b o, b ≠ D.d → b ≠ lf → H b = some o → H' b = some o
theorem K2.trans {D : DD} {lf : Addr} {H H1 H2 : Hp} (a : K2 D lf H H1) (b : K2 D lf H1 H2) : K2 D lf H H2 := fun x o n1 n2 h => b x o n1 n2 (a x o n1 n2 h)
theorem K2.ds {D : DD} {lf : Addr} {H H1 : Hp} (a : Ds D H H1) : K2 D lf H H1 := fun x o n1 _ h => a.kp x o n1 h
theorem K2.kp {D : DD} {lf : Addr} {H H1 : Hp} (a : Kp lf H H1) : K2 D lf H H1 := fun x o _ n2 h => a x o n2 h
theorem K2.same {D : DD} {lf : Addr} {H H1 : Hp} (a : Same H H1) : K2 D lf H H1 := fun x o _ _ h => a x o h
theorem K2.tk {D : DD} {lf : Addr} {H H' : Hp} {n : Int} (dr : Drw D H) (hl : H lf = some (.lst [.int n])) (a : K2 D lf H H') : TK H H' := fun b ys e => by
  obtain ⟨⟨k, h1, _⟩, _⟩ := dr
  exact a b _ (ne_of e h1 (by intro z; cases z)) (ne_of e hl (by intro z; cases z)) e
def spLTree (k : Nat) : Sp := fun vs H Q _ => ∃ (D : DD) (K : Nat) (deep n : Int) (lf : Addr), vs = [.ref D.d, .int K, .int deep, .ref lf] ∧ Drw D H ∧ 1 ≤ K ∧ K ≤ 5 ∧ 1 ≤ deep ∧ deep ≤ k ∧ H lf = some (.lst [.int n]) ∧ lf ≠ D.d ∧ lf ≠ D.l ∧
  ∀ (t : Tr) (v : V) (n' : Int) H', t.ok K → (t.dep : Int) ≤ deep → t.size + 1 ≤ 2 ^ deep.toNat → Rp H' t.d v → K2 D lf H H' → Drw D H' → H' lf = some (.lst [.int n']) → Q v H'
structure ThinAt (D : DD) (H : Hp) (q : Addr) (K : Nat) (t : Tr) (invs mem : List Int) : Prop where
  ex : ∃ (vt : V) (li lm : Addr), H q = some (.lst [.int K, .int (pOf K), vt, .ref li, .ref lm]) ∧ Rp H t.d vt ∧ H li = some (.lst (invs.map V.int)) ∧ H lm = some (.lst (mem.map V.int)) ∧ li ≠ D.d ∧ lm ≠ D.d ∧ q ≠ D.d
def spThin : Sp := fun vs H Q _ => ∃ (D : DD), vs = [.ref D.d] ∧ Drw D H ∧ ∀ (q : Addr) (K : Nat) (t : Tr) (invs mem : List Int) H', 1 ≤ K → K ≤ 5 → t.ok K → t.dep ≤ 4 → t.size ≤ 15 → t.cost (pOf K) ≤ 400 → GoodInv (pOf K) invs → Mem (pOf K) 3 mem → ThinAt D H' q K t invs mem → Ds D H H' → Q (.ref q) H'
section
variable {P : Program} {w : World} {K : PySem.W.Frag} {mg : Str → Option Value} {base : Heap}
theorem cal_lcost0 (T : Gs mg) (F : DefAt K mg "_law_cost" s__law_cost) : C8.Cal P w K mg base 1 "_law_cost" (spLCost 0) [] := by
  refine cal_of F sc__law_cost bi__law_cost (fun vs H Q E h => ?_) (fun f cdv A outer s H vs Q E hr h => ?_)
  · obtain ⟨t, p, v, rfl, _⟩ := h
    rfl
  · obtain ⟨t, p, v, rfl, _, hd, _⟩ := h
    cases t with
    | leaf x => exact absurd (show 1 ≤ 0 from hd) (by decide)
    | node tb a b => exact absurd (show max a.dep b.dep + 1 ≤ 0 from hd) (by omega)
theorem cal_lcostS (T : Gs mg) {k : Nat} (c__law_cost : C8.Cal P w K mg base (k + 1) "_law_cost" (spLCost k) []) (F : DefAt K mg "_law_cost" s__law_cost) : C8.Cal P w K mg base (k + 2) "_law_cost" (spLCost (k + 1)) [] := by
  refine cal_of F sc__law_cost bi__law_cost (fun vs H Q E h => ?_) (fun f cdv A outer s H vs Q E hr h => ?_)
  · obtain ⟨t, p, v, rfl, _⟩ := h
    rfl
  · refine ⟨_, (pss_cons (ps_if (pt_cmpR op_eq (pe_ix ix_seq (pv 0) pe_int (fun _ _ => rfl)) pe_str (nomark _)) (pss_one (ps_ret pe_int)) pss_nil)
      (pss_one (ps_ret (pe_op op_mul (pe_op op_sub (pv 1) pe_int) (pe_op op_add (pe_op op_mul pe_int (pe_op op_add (C8.pe_c c__law_cost hr (by first | decide | omega) rfl (pa_cons (pe_ix ix_seq (pv 0) pe_int (fun _ _ => rfl)) (pa_cons (pv 1) pa_nil))) (C8.pe_c c__law_cost hr (by first | decide | omega) rfl (pa_cons (pe_ix ix_seq (pv 0) pe_int (fun _ _ => rfl)) (pa_cons (pv 1) pa_nil))))) pe_int))))), ?_⟩
    obtain ⟨t, p, v, rfl, hR, hd, p2, p9, q⟩ := h
    cases t with
    | leaf x =>
      obtain ⟨a, _, rfl, ha, w1, _, rfl, rfl, w2, _, rfl, rfl, rfl⟩ := hR
      walk_at "rdK3"
      exact q
    | node tb tl tr =>
      obtain ⟨a, _, rfl, ha, w1, _, rfl, rfl, w2, _, rfl, hT, w3, _, rfl, hL, w4, _, rfl, hC, rfl⟩ := hR
      have hd' : max tl.dep tr.dep + 1 ≤ k + 1 := hd
      walk_at "rdK3"
      refine ⟨tl, p, _, rfl, hL, by omega, p2, p9, ?_⟩
      walk_at "rdK3"
      refine ⟨tr, p, _, rfl, hC, by omega, p2, p9, ?_⟩
      walk_at "rdK3"
      have e : ((Tr.node tb tl tr).cost p : Int) = ((p : Int) - 1) * (2 * ((tl.cost p : Int) + (tr.cost p : Int)) + 5) := by
        show (((p - 1) * (2 * (tl.cost p + tr.cost p) + 5) : Nat) : Int) = _
        have : ((p - 1 : Nat) : Int) = (p : Int) - 1 := by omega
        rw [Int.natCast_mul, this]
        rfl
      rw [← e]
      exact q
theorem cal__law_cost (T : Gs mg) (F : DefAt K mg "_law_cost" s__law_cost) : ∀ k, C8.Cal P w K mg base (k + 1) "_law_cost" (spLCost k) []
  | 0 => cal_lcost0 T F
  | k + 1 => cal_lcostS T (cal__law_cost T F k) F
theorem cal_ltree0 (T : Gs mg) (F : DefAt K mg "_law_tree" s__law_tree) : C8.Cal P w K mg base 4 "_law_tree" (spLTree 0) [] := by
  refine cal_of F sc__law_tree bi__law_tree (fun vs H Q E h => ?_) (fun f cdv A outer s H vs Q E hr h => ?_)
  · obtain ⟨D, n, deep, nn, lf, rfl, _⟩ := h
    rfl
  · obtain ⟨D, n, deep, nn, lf, rfl, _, _, _, d1, d0, _⟩ := h
    omega
theorem cal_ltreeS (T : Gs mg) {k : Nat} (c__law_draw : C8.Cal P w K mg base 2 "_law_draw" spDraw []) (c__law_table : C8.Cal P w K mg base 3 "_law_table" spLTable []) (c__law_tree : C8.Cal P w K mg base (k + 4) "_law_tree" (spLTree k) []) (F : DefAt K mg "_law_tree" s__law_tree) : C8.Cal P w K mg base (k + 5) "_law_tree" (spLTree (k + 1)) [] := by
  refine cal_of F sc__law_tree bi__law_tree (fun vs H Q E h => ?_) (fun f cdv A outer s H vs Q E hr h => ?_)
  · obtain ⟨D, n, deep, nn, lf, rfl, _⟩ := h
    rfl
  · refine ⟨_, (pss_cons (ps_if (PW.pt (pw_or (pt_cmpR op_le (pv 2) pe_int (nomark _)) (pw_or (pt_cmpR op_lt (pe_ix ix_seq (pv 3) pe_int (fun _ _ => rfl)) pe_int (nomark _)) (pw_or1 (pt_cmpR op_eq (pe_op op_mod (C8.pe_c c__law_draw hr (by first | decide | omega) rfl (pa_cons (pv 0) pa_nil)) pe_int) pe_int (nomark _)))))) (pss_one (ps_ret (pe_tup (pa_cons pe_str (pa_cons (pe_op op_mod (C8.pe_c c__law_draw hr (by first | decide | omega) rfl (pa_cons (pv 0) pa_nil)) (pv 1)) pa_nil))))) pss_nil)
      (pss_cons (ps_asg (pe_op op_sub (pe_ix ix_seq (pv 3) pe_int (fun _ _ => rfl)) pe_int) (pg_sub (pv 3) pe_int set_list))
      (pss_cons (ps_set (i := 4) sc__law_tree.nd rfl (by first | exact Or.inl rfl | exact Or.inr rfl) (C8.pe_c c__law_tree hr (by first | decide | omega) rfl (pa_cons (pv 0) (pa_cons (pv 1) (pa_cons (pe_op op_sub (pv 2) pe_int) (pa_cons (pv 3) pa_nil))))))
      (pss_one (ps_ret (pe_tup (pa_cons pe_str (pa_cons (C8.pe_c c__law_table hr (by first | decide | omega) rfl (pa_cons (pv 0) (pa_cons (pv 1) pa_nil))) (pa_cons (pv 4) (pa_cons (C8.pe_c c__law_tree hr (by first | decide | omega) rfl (pa_cons (pv 0) (pa_cons (pv 1) (pa_cons (pe_op op_sub (pv 2) pe_int) (pa_cons (pv 3) pa_nil))))) pa_nil)))))))))), ?_⟩
    obtain ⟨D, n, deep, nn, lf, rfl, dr, n1, n5, d1, dk, hlf, nd, nl, q⟩ := h
    walk_at "rdK3"
    refine i_d2 (fun hc => ?_) (fun hc => ?_)
    · walk_at "rdK3"
      refine ⟨D, rfl, dr, fun v1 H1 a1 b1 s1 => ?_⟩
      have hm := mod_bd v1 (b := (n : Int)) (by omega)
      have hlf1 := s1.kp _ _ nd hlf
      walk_at "rdK3"
      refine n_tup (Nat.le_of_ble_eq_true rfl) fun z H2 nz s2 hz => ?_
      exact q (.leaf (v1 % n)) _ nn H2 hm (by show (1 : Int) ≤ deep; omega) (by
        have := Nat.pow_le_pow_right (n := 2) (by decide) (show 1 ≤ deep.toNat by omega)
        show 1 + 1 ≤ _
        omega) ⟨z, _, rfl, hz, _, _, rfl, rfl, _, _, rfl, rfl, rfl⟩ (K2.ds (s1.same s2)) (s1.same s2).dr (s2 _ _ hlf1)
    · have hdeep : 2 ≤ deep := by omega
      walk_at "rdK3"
      refine i_d2 (fun hc2 => ?_) (fun hc2 => ?_)
      · walk_at "rdK3"
        refine ⟨D, rfl, dr, fun v1 H1 a1 b1 s1 => ?_⟩
        have hm := mod_bd v1 (b := (n : Int)) (by omega)
        have hlf1 := s1.kp _ _ nd hlf
        walk_at "rdK3"
        refine n_tup (Nat.le_of_ble_eq_true rfl) fun z H2 nz s2 hz => ?_
        exact q (.leaf (v1 % n)) _ nn H2 hm (by show (1 : Int) ≤ deep; omega) (by
          have := Nat.pow_le_pow_right (n := 2) (by decide) (show 1 ≤ deep.toNat by omega)
          show 1 + 1 ≤ _
          omega) ⟨z, _, rfl, hz, _, _, rfl, rfl, _, _, rfl, rfl, rfl⟩ (K2.ds (s1.same s2)) (s1.same s2).dr (s2 _ _ hlf1)
      · walk_at "rdK3"
        refine ⟨D, rfl, dr, fun v0 H0 a0 b0 s0 => ?_⟩
        have hlf0 := s0.kp _ _ nd hlf
        walk_at "rdK3"
        refine i_d2 (fun hc3 => ?_) (fun hc3 => ?_)
        · walk_at "rdK3"
          refine ⟨D, rfl, s0.dr, fun v1 H1 a1 b1 s1 => ?_⟩
          have hm := mod_bd v1 (b := (n : Int)) (by omega)
          replace s1 := s0.trans s1
          have hlf1 := s1.kp _ _ nd hlf
          walk_at "rdK3"
          refine n_tup (Nat.le_of_ble_eq_true rfl) fun z H2 nz s2 hz => ?_
          exact q (.leaf (v1 % n)) _ nn H2 hm (by show (1 : Int) ≤ deep; omega) (by
            have := Nat.pow_le_pow_right (n := 2) (by decide) (show 1 ≤ deep.toNat by omega)
            show 1 + 1 ≤ _
            omega) ⟨z, _, rfl, hz, _, _, rfl, rfl, _, _, rfl, rfl, rfl⟩ (K2.ds (s1.same s2)) (s1.same s2).dr (s2 _ _ hlf1)
        · walk_at "rdK3"
          refine n_setL hlf0 (by decide) (by simp) fun H1 k1 hlf1 => ?_
          replace hlf1 : H1 lf = some (.lst [.int (nn - 2)]) := hlf1
          have dr1 : Drw D H1 := by
            obtain ⟨⟨j, h1, h2⟩, h3, h4⟩ := s0.dr
            exact ⟨⟨j, k1 _ _ nd.symm h1, h2⟩, k1 _ _ nl.symm h3, h4⟩
          have k01 : K2 D lf H H1 := (K2.ds s0).trans (K2.kp k1)
          walk_at "rdK3"
          refine ⟨D, n, deep - 1, nn - 2, lf, rfl, dr1, n1, n5, by omega, by omega, hlf1, nd, nl, fun ta va na H2 oka da sa ra ka dra hla => ?_⟩
          walk_at "rdK3"
          refine ⟨D, n, rfl, dra, n1, n5, fun tb vb H3 tab tl rb sb => ?_⟩
          have hlb := sb.kp _ _ nd hla
          have ra3 := ra.tk (Ds.tk dra sb) (Tr.flat _)
          walk_at "rdK3"
          refine ⟨D, n, deep - 1, na, lf, rfl, sb.dr, n1, n5, by omega, by omega, hlb, nd, nl, fun tc vc nc H4 okc dc sc rc kc drc hlc => ?_⟩
          have tk4 := K2.tk sb.dr hlb kc
          have ra4 := ra3.tk tk4 (Tr.flat _)
          have rb4 := rb.tk tk4 (tab_flat _)
          walk_at "rdK3"
          refine n_tup (Nat.le_of_ble_eq_true rfl) fun z H5 nz s5 hz => ?_
          have e2 : 2 ^ deep.toNat = 2 * 2 ^ (deep - 1).toNat := by
            rw [show deep.toNat = (deep - 1).toNat + 1 by omega, Nat.pow_succ, Nat.mul_comm]
          exact q (.node tb ta tc) _ nc H5 ⟨tab, tl, oka, okc⟩ (by show ((max ta.dep tc.dep + 1 : Nat) : Int) ≤ deep; omega) (by
            show ta.size + tc.size + 1 + 1 ≤ _
            omega) ⟨z, _, rfl, hz, _, _, rfl, rfl, _, _, rfl, rb4.same s5, _, _, rfl, ra4.same s5, _, _, rfl, rc.same s5, rfl⟩
            ((((k01.trans ka).trans (K2.ds sb)).trans kc).trans (K2.same s5)) (drc.same s5) (s5 _ _ hlc)
theorem cal__law_tree (T : Gs mg) (c__law_draw : C8.Cal P w K mg base 2 "_law_draw" spDraw []) (c__law_table : C8.Cal P w K mg base 3 "_law_table" spLTable []) (F : DefAt K mg "_law_tree" s__law_tree) : ∀ k, C8.Cal P w K mg base (k + 4) "_law_tree" (spLTree k) []
  | 0 => cal_ltree0 T F
  | k + 1 => cal_ltreeS T c__law_draw c__law_table (cal__law_tree T c__law_draw c__law_table F k) F
theorem cal__law_thin_tree (T : Gs mg) (c__law_draw : C8.Cal P w K mg base 2 "_law_draw" spDraw []) (c__law_prime : C8.Cal P w K mg base 1 "_law_prime" spLPrime []) (c__law_tree : C8.Cal P w K mg base 8 "_law_tree" (spLTree 4) []) (c__law_cost : C8.Cal P w K mg base 5 "_law_cost" (spLCost 4) []) (c__law_inverse : C8.Cal P w K mg base 1 "_law_inverse" spLInv [])
    (F : DefAt K mg "_law_thin_tree" s__law_thin_tree) : C8.Cal P w K mg base 9 "_law_thin_tree" spThin [] := by
  refine cal_of F sc__law_thin_tree bi__law_thin_tree (fun vs H Q E h => ?_) (fun f cdv A outer s H vs Q E hr h => ?_)
  · obtain ⟨D, rfl, _⟩ := h
    rfl
  · refine ⟨_, (pss_cons (ps_set (i := 1) sc__law_thin_tree.nd rfl (by first | exact Or.inl rfl | exact Or.inr rfl) (pe_ix ix_seq (pe_lst (pa_cons pe_int (pa_cons pe_int (pa_cons pe_int (pa_cons pe_int (pa_cons pe_int (pa_cons pe_int pa_nil))))))) (pe_op op_mod (C8.pe_c c__law_draw hr (by first | decide | omega) rfl (pa_cons (pv 0) pa_nil)) pe_int) (fun _ _ => rfl)))
      (pss_cons (ps_set (i := 2) sc__law_thin_tree.nd rfl (by first | exact Or.inl rfl | exact Or.inr rfl) (C8.pe_c c__law_prime hr (by first | decide | omega) rfl (pa_cons (pv 1) pa_nil)))
      (pss_cons (ps_set (i := 3) sc__law_thin_tree.nd rfl (by first | exact Or.inl rfl | exact Or.inr rfl) (C8.pe_c c__law_tree hr (by first | decide | omega) rfl (pa_cons (pv 0) (pa_cons (pv 1) (pa_cons pe_int (pa_cons (pe_lst (pa_cons (pe_op op_add pe_int (pe_op op_mul pe_int (pe_op op_mod (C8.pe_c c__law_draw hr (by first | decide | omega) rfl (pa_cons (pv 0) pa_nil)) pe_int))) pa_nil)) pa_nil))))))
      (pss_cons (ps_while PassesOwn.never (pt_cmpR op_gt (C8.pe_c c__law_cost hr (by first | decide | omega) rfl (pa_cons (pv 3) (pa_cons (pv 2) pa_nil))) pe_int (nomark _)) (pss_one (ps_set (i := 3) sc__law_thin_tree.nd rfl (by first | exact Or.inl rfl | exact Or.inr rfl) (pe_ix ix_seq (pv 3) (pe_op op_add pe_int (pe_op op_mod (C8.pe_c c__law_draw hr (by first | decide | omega) rfl (pa_cons (pv 0) pa_nil)) pe_int)) (fun _ _ => rfl)))))
      (pss_cons (ps_setLc (i := 4) (own := [("_law_k", 5)]) (g := gName 5) (tt := tYes) rfl sc__law_thin_tree.nd rfl rfl (sw_true rfl rfl rfl (by decide +kernel)) (pi_range1 rfl T.n_range (pa_cons (pv 2) pa_nil)) (blkOk_by (by first | decide +kernel | kernel_rfl)) (fun _ _ _ _ _ => pg_name (i := 5) sc__law_thin_tree.nd rfl (by first | exact Or.inl rfl | exact Or.inr rfl)) (fun _ _ _ _ _ => pts_nil) (fun _ _ _ _ _ => (C8.pe_c c__law_inverse hr (by first | decide | omega) rfl (pa_cons (pv 5) (pa_cons (pv 2) pa_nil)))))
      (pss_cons (ps_setLc (i := 6) (own := [("_law_k", 5)]) (g := gName 5) (tt := tYes) rfl sc__law_thin_tree.nd rfl rfl (sw_true rfl rfl rfl (by decide +kernel)) (pi_range1 rfl T.n_range (pa_cons pe_int pa_nil)) (blkOk_by (by first | decide +kernel | kernel_rfl)) (fun _ _ _ _ _ => pg_name (i := 5) sc__law_thin_tree.nd rfl (by first | exact Or.inl rfl | exact Or.inr rfl)) (fun _ _ _ _ _ => pts_nil) (fun _ _ _ _ _ => (pe_op op_mod (C8.pe_c c__law_draw hr (by first | decide | omega) rfl (pa_cons (pv 0) pa_nil)) (pv 2))))
      (pss_one (ps_ret (pe_lst (pa_cons (pv 1) (pa_cons (pv 2) (pa_cons (pv 3) (pa_cons (pv 4) (pa_cons (pv 6) pa_nil)))))))))))))), ?_⟩
    obtain ⟨D, rfl, dr, q⟩ := h
    have hsz : sizeLine = 2 ^ 24 := rfl
    walk_at "rdK3"
    refine n_lst (Nat.le_of_ble_eq_true rfl) fun q1 H1 nq1 s1 hq1 => ?_
    walk_at "rdK3"
    refine ⟨D, rfl, dr.same s1, fun v2 H2 a2 b2 s2 => ?_⟩
    have p2 := mod_bd v2 (b := 6) (by decide)
    replace hq1 := Ds.new dr nq1 hq1 s2
    replace s2 := (Ds.of dr s1).trans s2
    walk_at "rdK3"
    refine n_pick (ns := [1, 2, 2, 3, 4, 5]) hq1 p2.1 p2.2 fun kk hk => ?_
    have hkb : 1 ≤ kk ∧ kk ≤ 5 := by
      simp only [List.mem_cons, List.not_mem_nil, or_false] at hk
      omega
    obtain ⟨n, rfl⟩ : ∃ n : Nat, kk = n := ⟨kk.toNat, by omega⟩
    have n1 : 1 ≤ n := by omega
    have n5 : n ≤ 5 := by omega
    obtain ⟨f1, f2, f3, f4, f5⟩ := pOf_fact n1 n5
    walk_at "rdK3"
    refine ⟨n, rfl, n1, n5, fun H3 s3 => ?_⟩
    replace s3 := s2.same s3
    walk_at "rdK3"
    refine ⟨D, rfl, s3.dr, fun v4 H4 a4 b4 s4 => ?_⟩
    replace s4 := s3.trans s4
    walk_at "rdK3"
    refine n_lst (Nat.le_of_ble_eq_true rfl) fun lf H5 nlf s45 hlf => ?_
    have d4 := s4.dr
    have nd := d4.ne nlf
    have nl := d4.nel nlf
    have s5 := s4.same s45
    walk_at "rdK3"
    refine ⟨D, n, 4, _, lf, rfl, s5.dr, n1, n5, by decide, by decide, hlf, nd, nl, fun t0 v0 n0 H6 ok0 dp0 sz0 r0 k0 dr6 hl6 => ?_⟩
    have ds6 : Ds D H4 H6 := ⟨fun b o hb e => k0 b o hb (ne_of_none e nlf) (s45 b o e), dr6⟩
    replace ds6 := s4.trans ds6
    walk_at "rdK3"
    refine n_while (fun m σ H' => ∃ (u4 u5 u6 : Option V) (t : Tr) (v : V), σ = [some (.ref D.d), some (.int n), some (.int (pOf n)), some v, u4, u5, u6] ∧ m = t.size ∧ t.ok n ∧ t.dep ≤ 4 ∧ t.size ≤ 15 ∧ Rp H' t.d v ∧ Ds D H H') t0.size
      ⟨_, _, _, t0, v0, rfl, rfl, ok0, by omega, by
        have : 2 ^ (4 : Int).toNat = 16 := rfl
        omega, r0, ds6⟩ ?_
    rintro m σ H7 ⟨u4, u5, u6, t, v, rfl, rfl, ok, dp, sz, r7, s7⟩
    walk_at "rdK3"
    refine ⟨t, pOf n, v, rfl, r7, dp, by omega, by omega, ?_⟩
    walk_at "rdK3"
    refine w_d (fun hc => ?_) (fun hc => ?_)
    · cases t with
      | leaf x =>
        have : (Tr.leaf x).cost (pOf n) = 1 := rfl
        omega
      | node tb tl tr =>
        obtain ⟨a, _, rfl, ha, w1, _, rfl, rfl, w2, _, rfl, hT, w3, _, rfl, hL, w4, _, rfl, hC, rfl⟩ := r7
        have hdp : max tl.dep tr.dep + 1 ≤ 4 := dp
        have hsz2 : tl.size + tr.size + 1 ≤ 15 := sz
        have hmes : (Tr.node tb tl tr).size = tl.size + tr.size + 1 := rfl
        walk_at "rdK3"
        refine ⟨D, rfl, s7.dr, fun v8 H8 a8 b8 s8 => ?_⟩
        have tk := Ds.tk s7.dr s8
        replace ha := tk _ _ ha
        have p8 := mod_bd v8 (b := 2) (by decide)
        have h01 : v8 % 2 = 0 ∨ v8 % 2 = 1 := by omega
        walk_at "rdK3"
        rcases h01 with e | e
        · rw [e]
          walk_at "rdK3"
          exact ⟨_, by omega, _, _, _, tl, w3, rfl, rfl, ok.2.2.1, by omega, by omega, hL.tk tk (Tr.flat _), s7.trans s8⟩
        · rw [e]
          walk_at "rdK3"
          exact ⟨_, by omega, _, _, _, tr, w4, rfl, rfl, ok.2.2.2, by omega, by omega, hC.tk tk (Tr.flat _), s7.trans s8⟩
    · have hp3 : 3 ≤ pOf n := by omega
      walk_at "rdK3"
      refine n_lcR (by omega) fun O H8 nO s8 hO => ⟨fun i H' => ∃ invs : List Int, Same H7 H' ∧ H' O = some (.lst (invs.map V.int)) ∧ invs.length = i ∧ ∀ j : Nat, 1 ≤ j → j < i → gt invs j = invOf j (pOf n) ∧ 0 ≤ gt invs j ∧ gt invs j < pOf n, ⟨[], s8, hO, rfl, fun j h1 h2 => by omega⟩, fun i H9 hi h => ?_, fun H9 h => ?_⟩
      · obtain ⟨invs, s9, hO9, hlen, hin⟩ := h
        walk_at "rdK3"
        refine ⟨i, pOf n, rfl, by omega, by omega, by omega, by omega, fun r r0 r1 hr1 => ?_⟩
        refine n_acc hO9 (by rw [List.length_map]; omega) fun H10 k10 h10 => ⟨invs ++ [r], same_kp nO s9 k10, by rw [h10, List.map_append]; rfl, by rw [List.length_append, hlen]; rfl, fun j h1 h2 => ?_⟩
        have glt : ∀ j : Nat, j < i → gt (invs ++ [r]) j = gt invs j := fun j h => by
          unfold gt
          rw [Int.toNat_natCast, List.getD_eq_getElem?_getD, List.getD_eq_getElem?_getD, List.getElem?_append_left (by omega)]
        have geq : gt (invs ++ [r]) i = r := by
          unfold gt
          rw [Int.toNat_natCast, List.getD_eq_getElem?_getD, List.getElem?_append_right (by omega), hlen, Nat.sub_self]
          rfl
        by_cases e : j = i
        · subst e
          rw [geq]
          exact ⟨hr1 (unit_gcd (by omega) f1 (by omega) (by omega)), r0, r1⟩
        · rw [glt j (by omega)]
          exact hin j h1 (by omega)
      · obtain ⟨invs, s9, hO9, hlen, hin⟩ := h
        have gi : GoodInv (pOf n) invs := ⟨by omega, fun d h1 h2 => by
          have := hin d.toNat (by omega) (by omega)
          rwa [show ((d.toNat : Nat) : Int) = d by omega] at this⟩
        replace r7 := r7.same s9
        have d7 := s7.dr
        have nOd := d7.ne nO
        replace s9 := s7.same s9
        walk_at "rdK3"
        refine n_lcR (by decide) fun M H10 nM s10 hM => ⟨fun i H' => ∃ mem : List Int, Ds D H9 H' ∧ H' M = some (.lst (mem.map V.int)) ∧ mem.length = i ∧ ∀ e ∈ mem, 0 ≤ e ∧ e < pOf n, ⟨[], Ds.of s9.dr s10, hM, rfl, by simp⟩, fun i H11 hi h => ?_, fun H11 h => ?_⟩
        · obtain ⟨mem, s11, hM11, hlen2, hb⟩ := h
          have hi' : i < 3 := hi
          walk_at "rdK3"
          refine ⟨D, rfl, s11.dr, fun v12 H12 a12 b12 s12 => ?_⟩
          have hM12 := Ds.new s9.dr nM hM11 s12
          have pm := mod_bd v12 (b := (pOf n : Int)) (by omega)
          walk_at "rdK3"
          refine n_acc hM12 (by rw [List.length_map]; omega) fun H13 k13 h13 => ⟨mem ++ [v12 % pOf n], Ds.kpn s9.dr nM (s11.trans s12) k13, by rw [h13, List.map_append]; rfl, by rw [List.length_append, hlen2]; rfl, fun e he => ?_⟩
          rcases List.mem_append.mp he with q | q
          · exact hb e q
          · rw [List.mem_singleton.mp q]
            exact pm
        · obtain ⟨mem, s11, hM11, hlen2, hb⟩ := h
          replace hlen2 : mem.length = 3 := hlen2
          have nMd := s9.dr.ne nM
          have hO11 := s11.kp _ _ nOd hO9
          have r11 := r7.tk (Ds.tk s9.dr s11) (Tr.flat _)
          have s12 := s9.trans s11
          walk_at "rdK3"
          refine n_lst (Nat.le_of_ble_eq_true rfl) fun Z H13 nZ s13 hZ => ?_
          exact q Z n t invs mem H13 n1 n5 ok dp sz (by omega) gi ⟨by omega, hb⟩ ⟨v, O, M, hZ, r11.same s13, s13 _ _ hO11, s13 _ _ hM11, nOd, nMd, s12.dr.ne nZ⟩ (s12.same s13)
end
end Bf
local macro_rules | `(tactic| walk_at "pfK4") => `(tactic| first | decide +kernel | omega | assumption | rfl | (simp only [List.length_cons, List.length_nil]; omega))
local macro_rules | `(tactic| walk_at "rd1K4") => `(tactic| first
  | with_reducible refine Bf.r_seq ?_
  | with_reducible refine Bf.r_asg ?_
  | with_reducible refine Bf.r_var (by with_unfolding_all rfl) ?_
  | with_reducible refine Bf.r_c ?_
  | with_reducible refine Bf.r_name ?_
  | with_reducible refine Bf.r_ret ?_
  | with_reducible refine Bf.r_op ?_
  | with_reducible refine Bf.r_I0 ?_
  | ((with_reducible refine Bf.r_I ?c ?_); (case c => first | decide | (show (0 : Int) < _; omega) | (refine Or.inl ⟨?_, ?_⟩ <;> omega) | (refine Or.inr ⟨?_, ?_⟩ <;> omega) | (refine And.intro ?_ ?_ <;> omega)))
  | with_reducible refine Bf.r_ifS ?_
  | with_reducible refine Bf.r_test ?_
  | with_reducible refine Bf.r_isbl ?_
  | with_reducible refine Bf.r_eqI ?_
  | with_reducible refine Bf.r_neI ?_
  | with_reducible refine Bf.r_eqS ?_
  | with_reducible refine Bf.r_neS ?_
  | with_reducible refine Bf.r_cons ?_
  | with_reducible refine Bf.r_nil ?_
  | with_reducible refine Bf.r_CB ?_
  | with_reducible refine Bf.r_call ?_
  | with_reducible refine Bf.i_t ?_
  | with_reducible refine Bf.i_f ?_
  | with_reducible refine Bf.i_nt ?_
  | with_reducible refine Bf.i_nf ?_
  | with_reducible refine Bf.r_ixT (by assumption) (by with_unfolding_all rfl) ?_
  | with_reducible refine Bf.r_ixL (by assumption) (by with_unfolding_all rfl) ?_
  | with_reducible refine Bf.r_fld ?_
  | ((with_reducible refine Bf.r_fat (by assumption) ?c ?n (by with_unfolding_all rfl) ?_); (case c => assumption); (case n => assumption))
  | with_reducible refine Bf.r_par ?_
  | with_reducible refine Bf.r_two ?_
  | with_reducible refine Bf.r_aug (by with_unfolding_all rfl) ?_
  | with_reducible refine Bf.r_ip ?_
  | with_reducible refine Bf.r_app (by with_unfolding_all rfl) (by assumption) ?_
  | with_reducible refine Bf.r_next ?_
  | with_reducible refine Bf.r_cont ?_
  | with_reducible refine Bf.r_drop ?_
  | with_reducible refine Bf.r_and ?_
  | with_reducible refine Bf.r_or ?_
  | with_reducible refine Bf.r_not ?_
  | with_reducible refine Bf.r_andV ?_
  | with_reducible refine Bf.r_orV ?_
  | with_reducible refine Bf.r_notV ?_
  | with_reducible refine Bf.r_chain ?_
  | with_reducible refine Bf.r_B ?_
  | with_reducible refine Bf.r_ifE ?_
  | with_reducible refine Bf.r_un ?_
  | with_reducible refine Bf.r_U ?_
  | with_reducible refine Bf.r_tup ?_
  | with_reducible refine Bf.r_lst ?_
  | with_reducible refine Bf.r_lenT (by assumption) ?_
  | with_reducible refine Bf.r_lenL (by assumption) ?_
  | with_reducible refine Bf.r_int ?_
  | with_reducible refine Bf.r_max2 ?_
  | with_reducible refine Bf.r_min2 ?_
  | with_reducible refine Bf.isi_ Bf.ty_i Bf.kb_ii ?_
  | with_reducible refine Bf.isi_ Bf.ty_i Bf.kb_ib ?_
  | with_reducible refine Bf.isi_ Bf.ty_i Bf.kb_is ?_
  | with_reducible refine Bf.isi_ Bf.ty_i Bf.kb_it ?_
  | with_reducible refine Bf.isi_ Bf.ty_i Bf.kb_il ?_
  | with_reducible refine Bf.isi_ Bf.ty_s Bf.kb_si ?_
  | with_reducible refine Bf.isi_ Bf.ty_s Bf.kb_sb ?_
  | with_reducible refine Bf.isi_ Bf.ty_s Bf.kb_ss ?_
  | with_reducible refine Bf.isi_ Bf.ty_s Bf.kb_st ?_
  | with_reducible refine Bf.isi_ Bf.ty_s Bf.kb_sl ?_
  | with_reducible refine Bf.isi_ (Bf.ty_t (by assumption)) Bf.kb_tt ?_
  | with_reducible refine Bf.isi_ (Bf.ty_l (by assumption)) Bf.kb_ll ?_
  | with_reducible refine Bf.isi_ (Bf.ty_t (by assumption)) Bf.kb_tl ?_
  | with_reducible refine Bf.isi_ (Bf.ty_l (by assumption)) Bf.kb_lt ?_
  | with_reducible refine Bf.isi_ Bf.ty_b Bf.kb_bi ?_
  | with_reducible refine Bf.isi_ Bf.ty_b Bf.kb_bb ?_
  | with_reducible refine Bf.isi_ Bf.ty_b Bf.kb_bs ?_
  | with_reducible refine Bf.isi_ Bf.ty_b Bf.kb_bt ?_
  | with_reducible refine Bf.isi_ Bf.ty_b Bf.kb_bL ?_
  | with_reducible refine Bf.isi_ Bf.ty_n Bf.kb_ni ?_
  | with_reducible refine Bf.isi_ Bf.ty_n Bf.kb_nb ?_
  | with_reducible refine Bf.isi_ Bf.ty_n Bf.kb_ns ?_
  | with_reducible refine Bf.isi_ Bf.ty_n Bf.kb_nt ?_
  | with_reducible refine Bf.isi_ Bf.ty_n Bf.kb_nl ?_
  | with_reducible refine Bf.isi_ (Bf.ty_t (by assumption)) Bf.kb_ti ?_
  | with_reducible refine Bf.isi_ (Bf.ty_l (by assumption)) Bf.kb_li ?_
  | with_reducible refine Bf.isi_ (Bf.ty_t (by assumption)) Bf.kb_tb ?_
  | with_reducible refine Bf.isi_ (Bf.ty_l (by assumption)) Bf.kb_lb ?_
  | with_reducible refine Bf.isi_ (Bf.ty_t (by assumption)) Bf.kb_ts ?_
  | with_reducible refine Bf.isi_ (Bf.ty_l (by assumption)) Bf.kb_ls ?_
  | with_reducible refine Bf.r_gtup (by assumption) (by with_unfolding_all rfl) ?_
  | with_reducible refine Bf.r_gcons ?_
  | with_reducible refine Bf.r_gnil ?_
  | with_reducible refine Bf.r_gsub ?_
  | ((with_reducible refine Bf.n_num ?h ?_); (case h => first | assumption | (refine And.intro ?_ ?_ <;> omega)))
  | with_reducible refine Bf.n_isint ?_
  | with_reducible refine Bf.n_mixed ?_
  | with_reducible refine Bf.r_dget ?_
  | with_reducible refine Bf.n_dgetS (by assumption) (by with_unfolding_all rfl) ?_
  | with_reducible refine Bf.r_pcons ?_
  | with_reducible refine Bf.r_pnil ?_
  | with_reducible refine Bf.r_sl ?_
  | with_reducible refine Bf.r_nopart ?_
  | with_reducible refine Bf.r_part ?_
  | with_reducible refine Bf.r_isint ?_
  | with_reducible refine Bf.r_revL ?_
  | with_reducible refine Bf.r_sfld ?_
  | with_reducible refine Bf.r_meth ?_
  | with_reducible refine Bf.n_meth (by assumption) (by with_unfolding_all rfl) ?_
  | with_reducible refine Bf.r_make ?_
  | with_reducible refine Bf.r_turn ?_
  | with_reducible refine Bf.r_wipe (by with_unfolding_all rfl) ?_
  | with_reducible refine Bf.r_yes ?_
  | with_reducible refine Bf.r_tru ?_
  | with_reducible refine Bf.r_ext (by with_unfolding_all rfl) (by assumption) ?_
  | with_reducible refine Bf.r_glst (by assumption) (by with_unfolding_all rfl) ?_
  | with_reducible refine Bf.r_forR3 ?_
  | with_reducible refine Bf.r_lcR2 ?_
  | with_reducible refine Bf.r_lcL ?_
  | with_reducible refine Bf.r_lcT ?_
  | with_reducible refine Bf.r_lcR ?_
  | with_reducible refine Bf.r_forL ?_
  | with_reducible refine Bf.r_forZ ?_
  | with_reducible refine Bf.r_forT ?_
  | with_reducible refine Bf.r_forR ?_
  | with_reducible refine Bf.r_forR2 ?_
  | ((with_reducible refine Bf.i_d1 ?h ?_); (case h => walk_at "pfK4"))
  | ((with_reducible refine Bf.i_d0 ?h ?_); (case h => walk_at "pfK4"))
  | ((with_reducible refine Bf.i_n1 ?h ?_); (case h => walk_at "pfK4"))
  | ((with_reducible refine Bf.i_n0 ?h ?_); (case h => walk_at "pfK4")))
local macro_rules | `(tactic| walk_at "rdK4") => `(tactic| repeat walk_at "rd1K4")
namespace Bf
open PySem L2
abbrev s_law : Stmt := topS 57
theorem bi_law : ∀ (kV doc pm : Value) (an : Option Addr) (cdv ct : Value) (us : List Value), us.length = 1 → bindArgs (PySem.W.fnOf "law" "law" (defArgs s_law) (defBody s_law) (defScope s_law) .none kV doc pm an cdv ct) ⟨us, []⟩ = pure ((["_law_script"] : List Str).zip us) := fun _ _ _ _ _ _ us hl => match us, hl with | [_], _ => rfl
theorem sc_law : FnScope ["_law_script", "_law_draws", "_law_thin", "_law_prime_here", "_law_program", "_law_cost_here", "_law_turn", "_law_stop", "_law_part", "_law_back", "_law_middle"] ["_law_script"] (defScope s_law) := C8.fnScope_by (by decide +kernel)
def spLaw (K : PySem.W.Frag) : Sp := fun vs H Q _ => ∃ (xs : List Int) (p : Addr), vs = [.ref p] ∧ SqL K H p (xs.map V.int) ∧ xs.length ≤ 100 ∧ ∀ H', Q (.bl true) H'
def rIsC (C : Addr) : List V → Hp → VK → Prop := fun xs H Q => ∃ a dx fs, xs = [.ref a, .ref C] ∧ H a = some (.ins C dx fs) ∧ Q (.bl true) H
theorem b_isC {X : Cx} {C : Addr} (c : C8.InsC X.K C) : CallR X (.builtin "isinstance") (rIsC C) := C8.call_isC c
theorem ThinAt.same {D : DD} {H H' : Hp} {q : Addr} {n : Nat} {t : Tr} {invs mem : List Int} (h : ThinAt D H q n t invs mem) (s : Same H H') : ThinAt D H' q n t invs mem := by
  obtain ⟨vt, li, lm, h1, h2, h3, h4, h5⟩ := h.ex
  exact ⟨vt, li, lm, s _ _ h1, h2.same s, s _ _ h3, s _ _ h4, h5⟩
theorem ThinAt.ds {D : DD} {H H' : Hp} {q : Addr} {n : Nat} {t : Tr} {invs mem : List Int} (h : ThinAt D H q n t invs mem) (dr : Drw D H) (s : Ds D H H') : ThinAt D H' q n t invs mem := by
  obtain ⟨vt, li, lm, h1, h2, h3, h4, h5, h6, h7⟩ := h.ex
  exact ⟨vt, li, lm, s.kp _ _ h7 h1, h2.tk (Ds.tk dr s) (Tr.flat _), s.kp _ _ h5 h3, s.kp _ _ h6 h4, h5, h6, h7⟩
section
variable {P : Program} {w : World} {K : PySem.W.Frag} {mg : Str → Option Value} {base : Heap} {C : Addr}
theorem ok_law {f : Addr} {fd : FuncData} (T : Gs mg) (G : PgC K C) (IC : C8.InsC K C) (k_Program : ∃ u, mg "Program" = some u ∧ RelV (.ref C) u) (c__law_numbers : C8.Cal P w K mg base 2 "_law_numbers" (spNumbers K) []) (c__law_draw : C8.Cal P w K mg base 2 "_law_draw" spDraw []) (c__law_thin_tree : C8.Cal P w K mg base 9 "_law_thin_tree" spThin [])
    (c_compile_tree : C8.Cal P w K mg base 9 "compile_tree" (spCompile C) []) (c__law_perform : C8.Cal P w K mg base 3 "_law_perform" spLPerf []) (c__law_equal : C8.Cal P w K mg base 10 "_law_equal" (spEq 4) [])
    (m___len__ : C8.Met P w K mg base 1 C "__len__" (spLen C) []) (m_part : C8.Met P w K mg base 9 C "part" (spPart C) []) (m_called_back : C8.Met P w K mg base 10 C "called_back" (spBack C) []) (m_run : C8.Met P w K mg base 5 C "run" (spRun C) [])
    (F : FunD K "law" "law" (defArgs s_law) (defBody s_law) (defScope s_law) [] [] f fd) : FnOk P w K mg base CX0 12 f fd ["_law_script"] (spLaw K) := by
  refine fn_of F sc_law (fun vs H Q E h => ?_) (fun cdv A outer s H vs Q E hr h => ?_)
  · obtain ⟨xs, p, rfl, _⟩ := h
    rfl
  · refine ⟨_, (pss_cons (ps_set (i := 1) sc_law.nd rfl (by first | exact Or.inl rfl | exact Or.inr rfl) (pe_lst (pa_cons (C8.pe_c c__law_numbers hr (by first | decide | omega) rfl (pa_cons (pv 0) pa_nil)) (pa_cons pe_int pa_nil))))
      (pss_cons (ps_set (i := 2) sc_law.nd rfl (by first | exact Or.inl rfl | exact Or.inr rfl) (C8.pe_c c__law_thin_tree hr (by first | decide | omega) rfl (pa_cons (pv 1) pa_nil)))
      (pss_cons (ps_set (i := 3) sc_law.nd rfl (by first | exact Or.inl rfl | exact Or.inr rfl) (pe_ix ix_seq (pv 2) pe_int (fun _ _ => rfl)))
      (pss_cons (ps_set (i := 4) sc_law.nd rfl (by first | exact Or.inl rfl | exact Or.inr rfl) (C8.pe_c c_compile_tree hr (by first | decide | omega) rfl (pa_cons (pe_ix ix_seq (pv 2) pe_int (fun _ _ => rfl)) (pa_cons (pe_ix ix_seq (pv 2) pe_int (fun _ _ => rfl)) pa_nil))))
      (pss_cons (ps_set (i := 5) sc_law.nd rfl (by first | exact Or.inl rfl | exact Or.inr rfl) (pe_callB (call_lenO m___len__ hr (by first | decide | omega)) (by rfl) T.n_len PySem.boot_len (pa_cons (pv 4) pa_nil)))
      (pss_cons (ps_for PassesOwn.never rfl (pi_range1 rfl T.n_range (pa_cons pe_int pa_nil)) (pg_name (i := 6) sc_law.nd rfl (by first | exact Or.inl rfl | exact Or.inr rfl)) (pss_cons (ps_set (i := 7) sc_law.nd rfl (by first | exact Or.inl rfl | exact Or.inr rfl) (pe_ix ix_seq (pe_lst (pa_cons pe_int (pa_cons (pv 5) (pa_cons (pe_op op_mod (C8.pe_c c__law_draw hr (by first | decide | omega) rfl (pa_cons (pv 1) pa_nil)) (pe_op op_add (pv 5) pe_int)) (pa_cons (pe_op op_mod (C8.pe_c c__law_draw hr (by first | decide | omega) rfl (pa_cons (pv 1) pa_nil)) (pe_op op_add (pv 5) pe_int)) pa_nil))))) (pe_op op_mod (C8.pe_c c__law_draw hr (by first | decide | omega) rfl (pa_cons (pv 1) pa_nil)) pe_int) (fun _ _ => rfl)))
      (pss_cons (ps_set (i := 8) sc_law.nd rfl (by first | exact Or.inl rfl | exact Or.inr rfl) (C8.pe_mt m_part hr (by first | decide | omega) (pv 4) (pa_cons (pv 7) pa_nil)))
      (pss_cons (ps_set (i := 9) sc_law.nd rfl (by first | exact Or.inl rfl | exact Or.inr rfl) (C8.pe_mt m_called_back hr (by first | decide | omega) (pv 4) (pa_cons (pv 7) pa_nil)))
      (pss_cons (ps_if (PW.pt (pw_or (pt_not (pt_val (pe_callB (b_isC IC) (by rfl) T.n_isinstance (by decide +kernel) (pa_cons (pv 8) (pa_cons (C8.pe_gc rfl k_Program) pa_nil))))) (pw_or1 (pt_not (pt_val (C8.pe_c c__law_equal hr (by first | decide | omega) rfl (pa_cons (pe_lst (pa_cons (pe_callB (call_lenO m___len__ hr (by first | decide | omega)) (by rfl) T.n_len PySem.boot_len (pa_cons (pv 8) pa_nil)) (pa_cons (pe_callB (call_lenO m___len__ hr (by first | decide | omega)) (by rfl) T.n_len PySem.boot_len (pa_cons (pv 9) pa_nil)) pa_nil))) (pa_cons (pe_lst (pa_cons (pv 7) (pa_cons (pv 7) pa_nil))) pa_nil)))))))) (pss_one (ps_ret pe_bl)) pss_nil)
      (pss_cons (ps_set (i := 10) sc_law.nd rfl (by first | exact Or.inl rfl | exact Or.inr rfl) (C8.pe_mt m_run hr (by first | decide | omega) (pv 8) (pa_cons (pe_callTy b_list (by rfl) T.n_list (by decide +kernel) (pa_cons (pe_ix ix_seq (pv 2) pe_int (fun _ _ => rfl)) pa_nil)) (pa_cons (pe_lst pa_nil) pa_nil))))
      (pss_cons (ps_if (pt_not (pt_val (C8.pe_c c__law_equal hr (by first | decide | omega) rfl (pa_cons (pv 10) (pa_cons (C8.pe_c c__law_perform hr (by first | decide | omega) rfl (pa_cons (pe_slice sl_list (pe_callTy b_list (by rfl) T.n_list (by decide +kernel) (pa_cons (pe_fld (pv 4) rfl) pa_nil)) po_none (po_some (pv 7))) (pa_cons (pv 3) (pa_cons (pe_ix ix_seq (pv 2) pe_int (fun _ _ => rfl)) (pa_cons (pe_ix ix_seq (pv 2) pe_int (fun _ _ => rfl)) pa_nil))))) pa_nil))))) (pss_one (ps_ret pe_bl)) pss_nil)
      (pss_one (ps_if (pt_not (pt_val (C8.pe_c c__law_equal hr (by first | decide | omega) rfl (pa_cons (C8.pe_mt m_run hr (by first | decide | omega) (pv 9) (pa_cons (pv 10) (pa_cons (pe_lst pa_nil) pa_nil))) (pa_cons (pe_ix ix_seq (pv 2) pe_int (fun _ _ => rfl)) pa_nil))))) (pss_one (ps_ret pe_bl)) pss_nil)))))))))
      (pss_one (ps_ret pe_bl)))))))), ?_⟩
    obtain ⟨xs, p, rfl, hp, hlen, k⟩ := h
    walk_at "rdK4"
    refine ⟨xs, p, rfl, hp, hlen, fun l ns H1 nl s1 hl hns => ?_⟩
    walk_at "rdK4"
    refine n_lst (Nat.le_of_ble_eq_true rfl) fun d H2 nd s2 hd => ?_
    have dr : Drw ⟨d, l, ns⟩ H2 := ⟨⟨0, hd, by decide⟩, s2 _ _ hl, hns⟩
    generalize hDD : (⟨d, l, ns⟩ : DD) = D at dr
    have hDd : d = D.d := by rw [← hDD]
    subst hDd
    walk_at "rdK4"
    refine ⟨D, rfl, dr, fun q n t invs mem H3 n1 n5 ok dp sz hcost gi hM thin ds3 => ?_⟩
    obtain ⟨f1, f2, f3, f4, f5⟩ := pOf_fact n1 n5
    have dr3 := ds3.dr
    have thin0 := thin
    obtain ⟨vt, li, lm, hq, rt, hli, hlm, nli, nlm, nq⟩ := thin.ex
    walk_at "rdK4"
    refine ⟨t, n, vt, rfl, n1, n5, rt, ok, by omega, by omega, by omega, fun x ss H4 s4 pr vp hpl => ?_⟩
    have dr4 := dr3.same s4
    have thin4 := thin0.same s4
    walk_at "rdK4"
    refine n_lenP pr (by have := vp.le; omega) ?_
    walk_at "rdK4"
    refine n_forR (fun i σ H' => ∃ u6 u7 u8 u9 u10 : Option V, σ = [some (.ref p), some (.ref D.d), some (.ref q), some (.int (pOf n)), some (.ref x), some (.int ss.length), u6, u7, u8, u9, u10] ∧ Drw D H' ∧ ThinAt D H' q n t invs mem ∧ Prg C H' x (pOf n) 3 0 ss) (by decide)
      ⟨_, _, _, _, _, rfl, dr4, thin4, pr⟩ ?_ ?_
    · rintro i σ H5 hi ⟨u6, u7, u8, u9, u10, rfl, dr5, thin5, pr5⟩
      walk_at "rdK4"
      refine ⟨D, rfl, dr5, fun v6 H6 a6 b6 s6 => ?_⟩
      have p6 := mod_bd v6 (b := (ss.length : Int) + 1) (by omega)
      walk_at "rdK4"
      refine ⟨D, rfl, s6.dr, fun v7 H7 a7 b7 s7 => ?_⟩
      have p7 := mod_bd v7 (b := (ss.length : Int) + 1) (by omega)
      replace s7 := s6.trans s7
      walk_at "rdK4"
      refine n_lst (Nat.le_of_ble_eq_true rfl) fun sl H8 nsl s8 hsl => ?_
      have dr7 := s7.dr
      replace s8 := s7.same s8
      walk_at "rdK4"
      refine ⟨D, rfl, s8.dr, fun v9 H9 a9 b9 s9 => ?_⟩
      have p9 := mod_bd v9 (b := 4) (by decide)
      replace hsl := Ds.new dr7 nsl hsl s9
      replace s9 := s8.trans s9
      walk_at "rdK4"
      refine n_pick (ns := [0, ss.length, v6 % ((ss.length : Int) + 1), v7 % ((ss.length : Int) + 1)]) hsl p9.1 p9.2 fun stp hstp => ?_
      have hsb : 0 ≤ stp ∧ stp ≤ ss.length := by
        simp only [List.mem_cons, List.not_mem_nil, or_false] at hstp
        omega
      have dr9 := s9.dr
      have thin9 := thin5.ds dr5 s9
      have pr9 := pr5.ds dr5 s9
      obtain ⟨vt9, li9, lm9, hq9, rt9, hli9, hlm9, nli9, nlm9, nq9⟩ := thin9.ex
      walk_at "rdK4"
      refine n_part pr9 vp (by with_unfolding_all rfl) hsb fun y H10 s10 pry => ?_
      walk_at "rdK4"
      refine n_back (pr9.same s10) vp (by with_unfolding_all rfl) hsb fun y2 H11 s11 pry2 => ?_
      replace pry := pry.same s11
      replace s11 := s10.trans s11
      have etk : (ss.take stp.toNat).length = stp.toNat := by rw [List.length_take]; omega
      walk_at "rdK4"
      obtain ⟨dxy, qy, wy, hy, hqy, hly⟩ := id pry
      refine ⟨y, dxy, _, rfl, hy, ?_⟩
      walk_at "rdK4"
      refine n_lenP pry (by rw [etk]; have := vp.le; omega) ?_
      walk_at "rdK4"
      refine n_lenP pry2 (by rw [inverse_len, etk]; have := vp.le; omega) ?_
      walk_at "rdK4"
      refine n_lst (Nat.le_of_ble_eq_true rfl) fun e1 H12 ne1 s12 he1 => ?_
      walk_at "rdK4"
      refine n_lst (Nat.le_of_ble_eq_true rfl) fun e2 H13 ne2 s13 he2 => ?_
      replace he1 := s13 _ _ he1
      have es : ((ss.take stp.toNat).length : Int) = stp := by omega
      have es2 : ((Bf.inverse (pOf n : Int) (ss.take stp.toNat)).length : Int) = stp := by rw [inverse_len]; omega
      rw [es, es2] at he1
      have t12 := s12.trans s13
      replace s13 := s11.trans t12
      walk_at "rdK4"
      refine n_eqI (xs := [stp, stp]) he1 he2 (Nat.le_of_ble_eq_true rfl) ?_
      have pry13 := pry.same t12
      have pry213 := pry2.same t12
      have pr13 := pr9.same s13
      have hq13 := s13 _ _ hq9
      have hli13 := s13 _ _ hli9
      have hlm13 := s13 _ _ hlm9
      have vpt := vp.take stp.toNat
      have m0 : Mem (pOf n : Int) 0 ([] : List Int) := ⟨rfl, by simp⟩
      have p2' : 2 ≤ pOf n := by omega
      clear hq hli hlm hq9 hli9 hlm9
      walk_at "rdK4"
      refine n_methP pry13 (fun _ => by with_unfolding_all rfl) ?_
      walk_at "rdK4"
      refine n_listL hlm13 fun l1 H14 nl1 s14 hl1 => ?_
      walk_at "rdK4"
      refine n_lst (by decide) fun l2 H15 nl2 s15 hl2 => ?_
      have t15 := s14.trans s15
      refine ⟨y, l1, l2, _, 3, 0, _, mem, [], rfl, pry13.same t15, vpt, s15 _ _ hl1, hl2, hM, m0, fun qm H16 nqm s16 hqm => ?_⟩
      have t16 := t15.trans s16
      have pr16 := pr13.same t16
      have hq16 := t16 _ _ hq13
      have hli16 := t16 _ _ hli13
      have hlm16 := t16 _ _ hlm13
      clear hq13
      walk_at "rdK4"
      refine n_steps G pr16 fun qp wp hqp hlp => ?_
      walk_at "rdK4"
      refine n_listL hqp fun l3 H17 nl3 s17 hl3 => ?_
      walk_at "rdK4"
      refine n_slL hl3 (cut_to hsb.1) fun l4 H18 nl4 s18 hl4 => ?_
      have t18 := s17.trans s18
      have hq18 := t18 _ _ hq16
      clear hq16
      walk_at "rdK4"
      refine ⟨l4, lm9, li9, pOf n, ss.take stp.toNat, mem, invs, rfl, ⟨_, hl4, by rw [List.map_take]; exact (hlp.same t18).take _⟩, t18 _ _ hlm16, t18 _ _ hli16, gi, p2', by omega, f1, fun s hs => ⟨vpt.ok s hs, hpl s (List.mem_of_mem_take hs)⟩, hM, fun qr H19 nqr s19 hqr => ?_⟩
      have t19 := t18.trans s19
      have hM2 := runs_mem (m := (pOf n : Int)) (by omega) (given := []) hM vpt.ok
      walk_at "rdK4"
      refine n_eqI (t19 _ _ hqm) hqr (by have := hM2.1; omega) ?_
      have hq19 := s19 _ _ hq18
      clear hq18
      walk_at "rdK4"
      have t1619 := t16.trans t19
      refine n_methP (pry213.same t1619) (fun _ => by with_unfolding_all rfl) ?_
      walk_at "rdK4"
      refine n_lst (by decide) fun l5 H20 nl5 s20 hl5 => ?_
      refine ⟨y2, qm, l5, _, 3, 0, _, _, [], rfl, (pry213.same t1619).same s20, vpt.inverse, s20 _ _ (t19 _ _ hqm), hl5, hM2, m0, fun qz H21 nqz s21 hqz => ?_⟩
      rw [runs_undo (by omega) hM vpt.ok] at hqz
      have t21 := s20.trans s21
      have hq21 := t21 _ _ hq19
      clear hq19
      have tall := t1619.trans t21
      walk_at "rdK4"
      refine n_eqI hqz (tall _ _ hlm13) (by have := hM.1; omega) ?_
      walk_at "rdK4"
      have tfin := s13.trans tall
      exact ⟨_, _, _, _, _, rfl, dr9.same tfin, (thin5.ds dr5 s9).same tfin, pr9.same tfin⟩
    · rintro σ H5 ⟨u6, u7, u8, u9, u10, rfl, dr5, thin5, pr5⟩
      walk_at "rdK4"
      exact k _
end
end Bf
/-! a hook with one more fact over the written part; what isinstance asks of an own class -/
namespace Bf
open PySem L2
def insB (K : PySem.W.Frag) (x : Str) : Bool := He.eqO (PySem.W.findIn K (.ref (He.ga K x)) "__class__") (some (some (.builtin "object.__class__"))) && (decide (PySem.W.specialIn K (.builtin "object.__class__") "__get__" = some (some (.builtin "getset_descriptor.__get__"))) && (decide (PySem.W.takesIn K (.builtin "object.__class__") = some true) && decide (PySem.W.mroIn K (He.ga K x) (.type "object") = some true)))
theorem insB_ok {K : PySem.W.Frag} {x : Str} (h : insB K x = true) (c : Cls K (He.ga K x)) : C8.InsC K (He.ga K x) := by
  obtain ⟨h1, h2⟩ := He.ba h
  obtain ⟨h3, h4⟩ := He.ba h2
  obtain ⟨h5, h6⟩ := He.ba h4
  exact ⟨c, He.eqO_ok h1, of_decide_eq_true h3, of_decide_eq_true h5, of_decide_eq_true h6, if_pos (beq_self_eq_true _)⟩
def hookX (n : Nat) (fa : List He.Fa) (fn : List He.DefD) (ex : PySem.W.Frag → Bool) : PySem.W.Hook where
  α := Bool × He.AlD
  obs := fun s => (ex (He.frG s.heap.get? (He.asD s.heap.get? n)), He.obsDG n fa fn s.heap.get?)
  val := fun _ => (true, He.valD fn)
  says := fun _ h => ∃ K : PySem.W.Frag, K.In h ∧ He.SaysD fa fn K ∧ ex K = true
  of := fun _ _ e => ⟨_, He.frG_in, congrArg (fun z : Bool × He.AlD => z.2) e, congrArg (fun z : Bool × He.AlD => z.1) e⟩
  keeps := fun _ _ _ ⟨K, hK, c⟩ k => ⟨K, PySem.W.Frag.In.keeps hK k, c⟩
def obX (n : Nat) (fa : List He.Fa) (fn : List He.DefD) (ex : PySem.W.Frag → Bool) (g : Addr → Option Obj) : Bool × He.AlD := (ex (He.frG g (He.asD g n)), He.obsDG n fa fn g)
theorem obX_eq {n : Nat} {fa : List He.Fa} {fn : List He.DefD} {ex : PySem.W.Frag → Bool} {g : Addr → Option Obj} {s : Shared} (h : ∀ a, g a = s.heap.get? a) : obX n fa fn ex g = (hookX n fa fn ex).obs s := by
  have e : g = s.heap.get? := funext h
  rw [e] <;> rfl
end Bf
namespace Bf
open PySem L2
def ex (K : PySem.W.Frag) : Bool := insB K "Program"
abbrev s_Program___add__ : Stmt := inClass (topS 29) 2
def d0 : He.DefD := ⟨("is_integer", none), "is_integer", "is_integer", defArgs s_is_integer, defBody s_is_integer, defScope s_is_integer, [], []⟩
def d1 : He.DefD := ⟨("is_number", none), "is_number", "is_number", defArgs s_is_number, defBody s_is_number, defScope s_is_number, [], []⟩
def d2 : He.DefD := ⟨("is_prime", none), "is_prime", "is_prime", defArgs s_is_prime, defBody s_is_prime, defScope s_is_prime, [], []⟩
def d3 : He.DefD := ⟨("inverse_of", none), "inverse_of", "inverse_of", defArgs s_inverse_of, defBody s_inverse_of, defScope s_inverse_of, [], []⟩
def d4 : He.DefD := ⟨("weights", none), "weights", "weights", defArgs s_weights, defBody s_weights, defScope s_weights, [], []⟩
def d5 : He.DefD := ⟨("interpolate", none), "interpolate", "interpolate", defArgs s_interpolate, defBody s_interpolate, defScope s_interpolate, [], []⟩
def d6 : He.DefD := ⟨("is_factor", none), "is_factor", "is_factor", defArgs s_is_factor, defBody s_is_factor, defScope s_is_factor, [], []⟩
def d7 : He.DefD := ⟨("is_table", none), "is_table", "is_table", defArgs s_is_table, defBody s_is_table, defScope s_is_table, [], []⟩
def d8 : He.DefD := ⟨("is_add", none), "is_add", "is_add", defArgs s_is_add, defBody s_is_add, defScope s_is_add, [], []⟩
def d9 : He.DefD := ⟨("is_look", none), "is_look", "is_look", defArgs s_is_look, defBody s_is_look, defScope s_is_look, [], []⟩
def d10 : He.DefD := ⟨("is_step", none), "is_step", "is_step", defArgs s_is_step, defBody s_is_step, defScope s_is_step, [], []⟩
def d11 : He.DefD := ⟨("inverse_step", none), "inverse_step", "inverse_step", defArgs s_inverse_step, defBody s_inverse_step, defScope s_inverse_step, [], []⟩
def d12 : He.DefD := ⟨("perform", none), "perform", "perform", defArgs s_perform, defBody s_perform, defScope s_perform, [], []⟩
def d13 : He.DefD := ⟨("check_steps", none), "check_steps", "check_steps", defArgs s_check_steps, defBody s_check_steps, defScope s_check_steps, [], []⟩
def d14 : He.DefD := ⟨("check_numbers", none), "check_numbers", "check_numbers", defArgs s_check_numbers, defBody s_check_numbers, defScope s_check_numbers, [], []⟩
def d15 : He.DefD := ⟨("Program", some "__init__"), "__init__", "Program.__init__", defArgs s_Program___init__, defBody s_Program___init__, defScope s_Program___init__, [], []⟩
def d16 : He.DefD := ⟨("Program", some "__len__"), "__len__", "Program.__len__", defArgs s_Program___len__, defBody s_Program___len__, defScope s_Program___len__, [], []⟩
def d17 : He.DefD := ⟨("Program", some "__add__"), "__add__", "Program.__add__", defArgs s_Program___add__, defBody s_Program___add__, defScope s_Program___add__, [], []⟩
def d18 : He.DefD := ⟨("Program", some "__neg__"), "__neg__", "Program.__neg__", defArgs s_Program___neg__, defBody s_Program___neg__, defScope s_Program___neg__, [], []⟩
def d19 : He.DefD := ⟨("Program", some "run"), "run", "Program.run", defArgs s_Program_run, defBody s_Program_run, defScope s_Program_run, [], []⟩
def d20 : He.DefD := ⟨("Program", some "part"), "part", "Program.part", defArgs s_Program_part, defBody s_Program_part, defScope s_Program_part, [], []⟩
def d21 : He.DefD := ⟨("Program", some "called_back"), "called_back", "Program.called_back", defArgs s_Program_called_back, defBody s_Program_called_back, defScope s_Program_called_back, [], []⟩
def d22 : He.DefD := ⟨("listed", none), "listed", "listed", defArgs s_listed, defBody s_listed, defScope s_listed, [], []⟩
def d23 : He.DefD := ⟨("is_leaf", none), "is_leaf", "is_leaf", defArgs s_is_leaf, defBody s_is_leaf, defScope s_is_leaf, [], []⟩
def d24 : He.DefD := ⟨("is_inner", none), "is_inner", "is_inner", defArgs s_is_inner, defBody s_is_inner, defScope s_is_inner, [], []⟩
def d25 : He.DefD := ⟨("rows_of", none), "rows_of", "rows_of", defArgs s_rows_of, defBody s_rows_of, defScope s_rows_of, [], []⟩
def d26 : He.DefD := ⟨("prime_of", none), "prime_of", "prime_of", defArgs s_prime_of, defBody s_prime_of, defScope s_prime_of, [], []⟩
def d27 : He.DefD := ⟨("tree_cost", none), "tree_cost", "tree_cost", defArgs s_tree_cost, defBody s_tree_cost, defScope s_tree_cost, [], []⟩
def d28 : He.DefD := ⟨("round_tasks", none), "round_tasks", "round_tasks", defArgs s_round_tasks, defBody s_round_tasks, defScope s_round_tasks, [], []⟩
def d29 : He.DefD := ⟨("compile_tree", none), "compile_tree", "compile_tree", defArgs s_compile_tree, defBody s_compile_tree, defScope s_compile_tree, [], []⟩
def d30 : He.DefD := ⟨("_law_mixed", none), "_law_mixed", "_law_mixed", defArgs s__law_mixed, defBody s__law_mixed, defScope s__law_mixed, [], []⟩
def d31 : He.DefD := ⟨("_law_numbers", none), "_law_numbers", "_law_numbers", defArgs s__law_numbers, defBody s__law_numbers, defScope s__law_numbers, [], []⟩
def d32 : He.DefD := ⟨("_law_draw", none), "_law_draw", "_law_draw", defArgs s__law_draw, defBody s__law_draw, defScope s__law_draw, [], []⟩
def d33 : He.DefD := ⟨("_law_equal", none), "_law_equal", "_law_equal", defArgs s__law_equal, defBody s__law_equal, defScope s__law_equal, [], []⟩
def d34 : He.DefD := ⟨("_law_all_equal", none), "_law_all_equal", "_law_all_equal", defArgs s__law_all_equal, defBody s__law_all_equal, defScope s__law_all_equal, [], []⟩
def d35 : He.DefD := ⟨("_law_prime", none), "_law_prime", "_law_prime", defArgs s__law_prime, defBody s__law_prime, defScope s__law_prime, [], []⟩
def d36 : He.DefD := ⟨("_law_table", none), "_law_table", "_law_table", defArgs s__law_table, defBody s__law_table, defScope s__law_table, [], []⟩
def d37 : He.DefD := ⟨("_law_tree", none), "_law_tree", "_law_tree", defArgs s__law_tree, defBody s__law_tree, defScope s__law_tree, [], []⟩
def d38 : He.DefD := ⟨("_law_cost", none), "_law_cost", "_law_cost", defArgs s__law_cost, defBody s__law_cost, defScope s__law_cost, [], []⟩
def d39 : He.DefD := ⟨("_law_inverse", none), "_law_inverse", "_law_inverse", defArgs s__law_inverse, defBody s__law_inverse, defScope s__law_inverse, [], []⟩
def d40 : He.DefD := ⟨("_law_weights", none), "_law_weights", "_law_weights", defArgs s__law_weights, defBody s__law_weights, defScope s__law_weights, [], []⟩
def d41 : He.DefD := ⟨("_law_polynomial", none), "_law_polynomial", "_law_polynomial", defArgs s__law_polynomial, defBody s__law_polynomial, defScope s__law_polynomial, [], []⟩
def d42 : He.DefD := ⟨("_law_perform", none), "_law_perform", "_law_perform", defArgs s__law_perform, defBody s__law_perform, defScope s__law_perform, [], []⟩
def d43 : He.DefD := ⟨("_law_thin_tree", none), "_law_thin_tree", "_law_thin_tree", defArgs s__law_thin_tree, defBody s__law_thin_tree, defScope s__law_thin_tree, [], []⟩
def d44 : He.DefD := ⟨("law", none), "law", "law", defArgs s_law, defBody s_law, defScope s_law, [], []⟩
def fn0 : List He.DefD := [d0, d1, d2, d3, d4, d5, d6, d7, d8, d9, d10, d11, d12, d13, d14, d15, d16, d17, d18, d19, d20, d21, d22, d23, d24, d25, d26, d27, d28, d29, d30, d31, d32, d33, d34, d35, d36, d37, d38, d39, d40, d41, d42, d43, d44]
def fn : List He.DefD := fn0
def fa0 : List He.Fa := [.glo "BrimfulError", .glo "BadStep", .glo "BadMemory", .glo "TooLong", .glo "BadTree", .glo "is_integer", .glo "is_number", .glo "is_prime", .glo "inverse_of", .glo "weights", .glo "interpolate", .int "FACTORS" 3, .glo "is_factor", .glo "is_table", .glo "is_add", .glo "is_look", .glo "is_step", .glo "inverse_step", .glo "perform", .glo "check_steps", .int "MODULUS" 1000000000, .int "CELLS" 60, .int "INPUTS" 60, .int "STEPS" 20000, .glo "check_numbers", .glo "Program", .cls "Program", .mkr "Program", .meth "Program" "__init__", .meth "Program" "__len__"]
def fa1 : List He.Fa := [.meth "Program" "__add__", .meth "Program" "__neg__", .meth "Program" "run", .meth "Program" "part", .meth "Program" "called_back", .noat "Program" "modulus", .noat "Program" "cells", .noat "Program" "inputs", .noat "Program" "steps", .int "VALUES" 40, .int "NODES" 200, .int "NESTED" 40, .glo "listed", .glo "is_leaf", .glo "is_inner", .glo "rows_of", .glo "prime_of", .glo "tree_cost", .glo "round_tasks", .glo "compile_tree", .glo "_law_mixed", .glo "_law_numbers", .glo "_law_draw", .glo "_law_equal", .glo "_law_all_equal", .glo "_law_prime", .glo "_law_table", .glo "_law_tree", .glo "_law_cost", .glo "_law_inverse"]
def fa2 : List He.Fa := [.glo "_law_weights", .glo "_law_polynomial", .glo "_law_perform", .glo "_law_thin_tree", .glo "law", .free "bool", .free "int", .free "isinstance", .free "len", .free "list", .free "max", .free "range", .free "str", .free "tuple", .free "zip"]
def fa : List He.Fa := fa0 ++ fa1 ++ fa2
def loose0 : List PySem.Str := ["BrimfulError", "BadStep", "BadMemory", "TooLong", "BadTree", "is_integer", "is_number", "is_prime", "inverse_of", "weights", "interpolate", "FACTORS", "is_factor", "is_table", "is_add", "is_look", "is_step", "inverse_step", "perform", "check_steps", "MODULUS", "CELLS", "INPUTS", "STEPS", "check_numbers", "Program", "VALUES", "NODES", "NESTED", "listed"]
def loose1 : List PySem.Str := ["is_leaf", "is_inner", "rows_of", "prime_of", "tree_cost", "round_tasks", "compile_tree", "_law_mixed", "_law_numbers", "_law_draw", "_law_equal", "_law_all_equal", "_law_prime", "_law_table", "_law_tree", "_law_cost", "_law_inverse", "_law_weights", "_law_polynomial", "_law_perform", "_law_thin_tree"]
def loose : List PySem.Str := loose0 ++ loose1
abbrev R : PySem.W.OpenRow := PySem.W.OpenLaw.row PySem.Challenge.rw_brimful_k42_whole_trees_are_called_back
abbrev hk : PySem.W.Hook := hookX 5 fa fn ex
def ob (s : PySem.W.SharedT) : Bool × He.AlD := obX 5 fa fn ex (HandSHeadRun.getT s)
theorem ob_eq (s : PySem.W.SharedT) : ob s = hk.obs s.abs := obX_eq (HandSHeadRun.getT_eq s)
theorem run (w : World) : HandSHeadRun.RunEq R (PySem.W.view R.prog [57]) hk ob 3000 loose w := by
  intro os
  kernel_rfl
theorem facts {P : Program} {w : World} {K : PySem.W.Frag} {h : Heap} {mg : Str → Option Value} {f : Addr} (X : K.In h) (G : h.Ns mainGlobals mg) (hfa : mg ("law" : Str) = some (.ref f)) (c : He.SaysD fa fn K) (cx : ex K = true) :
    ∃ fd : FuncData, (∀ (s : Shared) (v : Value), BindsTo s fd ⟨[v], []⟩ [("_law_script", v)]) ∧ ∀ base : Heap, K.In base → base.Ns mainGlobals mg → FnOk P w K mg base CX0 12 f fd ["_law_script"] (spLaw K) := by
  have T : Gs mg := {
      c_FACTORS := by obtain ⟨t, e⟩ := He.int_ok X G (c.fact 11 (f := .int "FACTORS" 3) rfl); exact ⟨_, e, ⟨t, rfl⟩⟩
      c_MODULUS := by obtain ⟨t, e⟩ := He.int_ok X G (c.fact 20 (f := .int "MODULUS" 1000000000) rfl); exact ⟨_, e, ⟨t, rfl⟩⟩
      c_CELLS := by obtain ⟨t, e⟩ := He.int_ok X G (c.fact 21 (f := .int "CELLS" 60) rfl); exact ⟨_, e, ⟨t, rfl⟩⟩
      c_INPUTS := by obtain ⟨t, e⟩ := He.int_ok X G (c.fact 22 (f := .int "INPUTS" 60) rfl); exact ⟨_, e, ⟨t, rfl⟩⟩
      c_STEPS := by obtain ⟨t, e⟩ := He.int_ok X G (c.fact 23 (f := .int "STEPS" 20000) rfl); exact ⟨_, e, ⟨t, rfl⟩⟩
      c_VALUES := by obtain ⟨t, e⟩ := He.int_ok X G (c.fact 39 (f := .int "VALUES" 40) rfl); exact ⟨_, e, ⟨t, rfl⟩⟩
      c_NODES := by obtain ⟨t, e⟩ := He.int_ok X G (c.fact 40 (f := .int "NODES" 200) rfl); exact ⟨_, e, ⟨t, rfl⟩⟩
      c_NESTED := by obtain ⟨t, e⟩ := He.int_ok X G (c.fact 41 (f := .int "NESTED" 40) rfl); exact ⟨_, e, ⟨t, rfl⟩⟩
      n_bool := He.free_ok X G (c.fact 65 (f := .free "bool") rfl)
      n_int := He.free_ok X G (c.fact 66 (f := .free "int") rfl)
      n_isinstance := He.free_ok X G (c.fact 67 (f := .free "isinstance") rfl)
      n_len := He.free_ok X G (c.fact 68 (f := .free "len") rfl)
      n_list := He.free_ok X G (c.fact 69 (f := .free "list") rfl)
      n_max := He.free_ok X G (c.fact 70 (f := .free "max") rfl)
      n_range := He.free_ok X G (c.fact 71 (f := .free "range") rfl)
      n_str := He.free_ok X G (c.fact 72 (f := .free "str") rfl)
      n_tuple := He.free_ok X G (c.fact 73 (f := .free "tuple") rfl)
      n_zip := He.free_ok X G (c.fact 74 (f := .free "zip") rfl) }
  have F_is_integer : DefAt K mg "is_integer" s_is_integer := by
    obtain ⟨fd, F⟩ := c.def_ 0 (d := d0) rfl
    exact ⟨⟨_, fd, F, He.glo_ok X G (c.fact 5 (f := .glo "is_integer") rfl)⟩⟩
  have F_is_number : DefAt K mg "is_number" s_is_number := by
    obtain ⟨fd, F⟩ := c.def_ 1 (d := d1) rfl
    exact ⟨⟨_, fd, F, He.glo_ok X G (c.fact 6 (f := .glo "is_number") rfl)⟩⟩
  have F_is_prime : DefAt K mg "is_prime" s_is_prime := by
    obtain ⟨fd, F⟩ := c.def_ 2 (d := d2) rfl
    exact ⟨⟨_, fd, F, He.glo_ok X G (c.fact 7 (f := .glo "is_prime") rfl)⟩⟩
  have F_inverse_of : DefAt K mg "inverse_of" s_inverse_of := by
    obtain ⟨fd, F⟩ := c.def_ 3 (d := d3) rfl
    exact ⟨⟨_, fd, F, He.glo_ok X G (c.fact 8 (f := .glo "inverse_of") rfl)⟩⟩
  have F_weights : DefAt K mg "weights" s_weights := by
    obtain ⟨fd, F⟩ := c.def_ 4 (d := d4) rfl
    exact ⟨⟨_, fd, F, He.glo_ok X G (c.fact 9 (f := .glo "weights") rfl)⟩⟩
  have F_interpolate : DefAt K mg "interpolate" s_interpolate := by
    obtain ⟨fd, F⟩ := c.def_ 5 (d := d5) rfl
    exact ⟨⟨_, fd, F, He.glo_ok X G (c.fact 10 (f := .glo "interpolate") rfl)⟩⟩
  have F_is_factor : DefAt K mg "is_factor" s_is_factor := by
    obtain ⟨fd, F⟩ := c.def_ 6 (d := d6) rfl
    exact ⟨⟨_, fd, F, He.glo_ok X G (c.fact 12 (f := .glo "is_factor") rfl)⟩⟩
  have F_is_table : DefAt K mg "is_table" s_is_table := by
    obtain ⟨fd, F⟩ := c.def_ 7 (d := d7) rfl
    exact ⟨⟨_, fd, F, He.glo_ok X G (c.fact 13 (f := .glo "is_table") rfl)⟩⟩
  have F_is_add : DefAt K mg "is_add" s_is_add := by
    obtain ⟨fd, F⟩ := c.def_ 8 (d := d8) rfl
    exact ⟨⟨_, fd, F, He.glo_ok X G (c.fact 14 (f := .glo "is_add") rfl)⟩⟩
  have F_is_look : DefAt K mg "is_look" s_is_look := by
    obtain ⟨fd, F⟩ := c.def_ 9 (d := d9) rfl
    exact ⟨⟨_, fd, F, He.glo_ok X G (c.fact 15 (f := .glo "is_look") rfl)⟩⟩
  have F_is_step : DefAt K mg "is_step" s_is_step := by
    obtain ⟨fd, F⟩ := c.def_ 10 (d := d10) rfl
    exact ⟨⟨_, fd, F, He.glo_ok X G (c.fact 16 (f := .glo "is_step") rfl)⟩⟩
  have F_inverse_step : DefAt K mg "inverse_step" s_inverse_step := by
    obtain ⟨fd, F⟩ := c.def_ 11 (d := d11) rfl
    exact ⟨⟨_, fd, F, He.glo_ok X G (c.fact 17 (f := .glo "inverse_step") rfl)⟩⟩
  have F_perform : DefAt K mg "perform" s_perform := by
    obtain ⟨fd, F⟩ := c.def_ 12 (d := d12) rfl
    exact ⟨⟨_, fd, F, He.glo_ok X G (c.fact 18 (f := .glo "perform") rfl)⟩⟩
  have F_check_steps : DefAt K mg "check_steps" s_check_steps := by
    obtain ⟨fd, F⟩ := c.def_ 13 (d := d13) rfl
    exact ⟨⟨_, fd, F, He.glo_ok X G (c.fact 19 (f := .glo "check_steps") rfl)⟩⟩
  have F_check_numbers : DefAt K mg "check_numbers" s_check_numbers := by
    obtain ⟨fd, F⟩ := c.def_ 14 (d := d14) rfl
    exact ⟨⟨_, fd, F, He.glo_ok X G (c.fact 24 (f := .glo "check_numbers") rfl)⟩⟩
  have M_Program : MakAt K mg "Program" (He.ga K "Program") "Program.__init__" s_Program___init__ := by
    obtain ⟨fd, F⟩ := c.def_ 15 (d := d15) rfl
    exact ⟨⟨_, fd, F, He.mkr_ok (c.fact 27 (f := .mkr "Program") rfl), He.glo_ok X G (c.fact 25 (f := .glo "Program") rfl)⟩⟩
  have F_Program___len__ : MetAt K (He.ga K "Program") "__len__" "Program.__len__" s_Program___len__ := by
    obtain ⟨fd, F⟩ := c.def_ 16 (d := d16) rfl
    exact ⟨⟨_, fd, F, He.meth_ok (c.fact 29 (f := .meth "Program" "__len__") rfl)⟩⟩
  have F_Program___add__ : MetAt K (He.ga K "Program") "__add__" "Program.__add__" s_Program___add__ := by
    obtain ⟨fd, F⟩ := c.def_ 17 (d := d17) rfl
    exact ⟨⟨_, fd, F, He.meth_ok (c.fact 30 (f := .meth "Program" "__add__") rfl)⟩⟩
  have F_Program___neg__ : MetAt K (He.ga K "Program") "__neg__" "Program.__neg__" s_Program___neg__ := by
    obtain ⟨fd, F⟩ := c.def_ 18 (d := d18) rfl
    exact ⟨⟨_, fd, F, He.meth_ok (c.fact 31 (f := .meth "Program" "__neg__") rfl)⟩⟩
  have F_Program_run : MetAt K (He.ga K "Program") "run" "Program.run" s_Program_run := by
    obtain ⟨fd, F⟩ := c.def_ 19 (d := d19) rfl
    exact ⟨⟨_, fd, F, He.meth_ok (c.fact 32 (f := .meth "Program" "run") rfl)⟩⟩
  have F_Program_part : MetAt K (He.ga K "Program") "part" "Program.part" s_Program_part := by
    obtain ⟨fd, F⟩ := c.def_ 20 (d := d20) rfl
    exact ⟨⟨_, fd, F, He.meth_ok (c.fact 33 (f := .meth "Program" "part") rfl)⟩⟩
  have F_Program_called_back : MetAt K (He.ga K "Program") "called_back" "Program.called_back" s_Program_called_back := by
    obtain ⟨fd, F⟩ := c.def_ 21 (d := d21) rfl
    exact ⟨⟨_, fd, F, He.meth_ok (c.fact 34 (f := .meth "Program" "called_back") rfl)⟩⟩
  have F_listed : DefAt K mg "listed" s_listed := by
    obtain ⟨fd, F⟩ := c.def_ 22 (d := d22) rfl
    exact ⟨⟨_, fd, F, He.glo_ok X G (c.fact 42 (f := .glo "listed") rfl)⟩⟩
  have F_is_leaf : DefAt K mg "is_leaf" s_is_leaf := by
    obtain ⟨fd, F⟩ := c.def_ 23 (d := d23) rfl
    exact ⟨⟨_, fd, F, He.glo_ok X G (c.fact 43 (f := .glo "is_leaf") rfl)⟩⟩
  have F_is_inner : DefAt K mg "is_inner" s_is_inner := by
    obtain ⟨fd, F⟩ := c.def_ 24 (d := d24) rfl
    exact ⟨⟨_, fd, F, He.glo_ok X G (c.fact 44 (f := .glo "is_inner") rfl)⟩⟩
  have F_rows_of : DefAt K mg "rows_of" s_rows_of := by
    obtain ⟨fd, F⟩ := c.def_ 25 (d := d25) rfl
    exact ⟨⟨_, fd, F, He.glo_ok X G (c.fact 45 (f := .glo "rows_of") rfl)⟩⟩
  have F_prime_of : DefAt K mg "prime_of" s_prime_of := by
    obtain ⟨fd, F⟩ := c.def_ 26 (d := d26) rfl
    exact ⟨⟨_, fd, F, He.glo_ok X G (c.fact 46 (f := .glo "prime_of") rfl)⟩⟩
  have F_tree_cost : DefAt K mg "tree_cost" s_tree_cost := by
    obtain ⟨fd, F⟩ := c.def_ 27 (d := d27) rfl
    exact ⟨⟨_, fd, F, He.glo_ok X G (c.fact 47 (f := .glo "tree_cost") rfl)⟩⟩
  have F_round_tasks : DefAt K mg "round_tasks" s_round_tasks := by
    obtain ⟨fd, F⟩ := c.def_ 28 (d := d28) rfl
    exact ⟨⟨_, fd, F, He.glo_ok X G (c.fact 48 (f := .glo "round_tasks") rfl)⟩⟩
  have F_compile_tree : DefAt K mg "compile_tree" s_compile_tree := by
    obtain ⟨fd, F⟩ := c.def_ 29 (d := d29) rfl
    exact ⟨⟨_, fd, F, He.glo_ok X G (c.fact 49 (f := .glo "compile_tree") rfl)⟩⟩
  have F__law_mixed : DefAt K mg "_law_mixed" s__law_mixed := by
    obtain ⟨fd, F⟩ := c.def_ 30 (d := d30) rfl
    exact ⟨⟨_, fd, F, He.glo_ok X G (c.fact 50 (f := .glo "_law_mixed") rfl)⟩⟩
  have F__law_numbers : DefAt K mg "_law_numbers" s__law_numbers := by
    obtain ⟨fd, F⟩ := c.def_ 31 (d := d31) rfl
    exact ⟨⟨_, fd, F, He.glo_ok X G (c.fact 51 (f := .glo "_law_numbers") rfl)⟩⟩
  have F__law_draw : DefAt K mg "_law_draw" s__law_draw := by
    obtain ⟨fd, F⟩ := c.def_ 32 (d := d32) rfl
    exact ⟨⟨_, fd, F, He.glo_ok X G (c.fact 52 (f := .glo "_law_draw") rfl)⟩⟩
  have F__law_equal : DefAt K mg "_law_equal" s__law_equal := by
    obtain ⟨fd, F⟩ := c.def_ 33 (d := d33) rfl
    exact ⟨⟨_, fd, F, He.glo_ok X G (c.fact 53 (f := .glo "_law_equal") rfl)⟩⟩
  have F__law_all_equal : DefAt K mg "_law_all_equal" s__law_all_equal := by
    obtain ⟨fd, F⟩ := c.def_ 34 (d := d34) rfl
    exact ⟨⟨_, fd, F, He.glo_ok X G (c.fact 54 (f := .glo "_law_all_equal") rfl)⟩⟩
  have F__law_prime : DefAt K mg "_law_prime" s__law_prime := by
    obtain ⟨fd, F⟩ := c.def_ 35 (d := d35) rfl
    exact ⟨⟨_, fd, F, He.glo_ok X G (c.fact 55 (f := .glo "_law_prime") rfl)⟩⟩
  have F__law_table : DefAt K mg "_law_table" s__law_table := by
    obtain ⟨fd, F⟩ := c.def_ 36 (d := d36) rfl
    exact ⟨⟨_, fd, F, He.glo_ok X G (c.fact 56 (f := .glo "_law_table") rfl)⟩⟩
  have F__law_tree : DefAt K mg "_law_tree" s__law_tree := by
    obtain ⟨fd, F⟩ := c.def_ 37 (d := d37) rfl
    exact ⟨⟨_, fd, F, He.glo_ok X G (c.fact 57 (f := .glo "_law_tree") rfl)⟩⟩
  have F__law_cost : DefAt K mg "_law_cost" s__law_cost := by
    obtain ⟨fd, F⟩ := c.def_ 38 (d := d38) rfl
    exact ⟨⟨_, fd, F, He.glo_ok X G (c.fact 58 (f := .glo "_law_cost") rfl)⟩⟩
  have F__law_inverse : DefAt K mg "_law_inverse" s__law_inverse := by
    obtain ⟨fd, F⟩ := c.def_ 39 (d := d39) rfl
    exact ⟨⟨_, fd, F, He.glo_ok X G (c.fact 59 (f := .glo "_law_inverse") rfl)⟩⟩
  have F__law_weights : DefAt K mg "_law_weights" s__law_weights := by
    obtain ⟨fd, F⟩ := c.def_ 40 (d := d40) rfl
    exact ⟨⟨_, fd, F, He.glo_ok X G (c.fact 60 (f := .glo "_law_weights") rfl)⟩⟩
  have F__law_polynomial : DefAt K mg "_law_polynomial" s__law_polynomial := by
    obtain ⟨fd, F⟩ := c.def_ 41 (d := d41) rfl
    exact ⟨⟨_, fd, F, He.glo_ok X G (c.fact 61 (f := .glo "_law_polynomial") rfl)⟩⟩
  have F__law_perform : DefAt K mg "_law_perform" s__law_perform := by
    obtain ⟨fd, F⟩ := c.def_ 42 (d := d42) rfl
    exact ⟨⟨_, fd, F, He.glo_ok X G (c.fact 62 (f := .glo "_law_perform") rfl)⟩⟩
  have F__law_thin_tree : DefAt K mg "_law_thin_tree" s__law_thin_tree := by
    obtain ⟨fd, F⟩ := c.def_ 43 (d := d43) rfl
    exact ⟨⟨_, fd, F, He.glo_ok X G (c.fact 63 (f := .glo "_law_thin_tree") rfl)⟩⟩
  have k_Program : ∃ u, mg "Program" = some u ∧ RelV (.ref (He.ga K "Program")) u := ⟨_, He.glo_ok X G (c.fact 25 (f := .glo "Program") rfl), rfl⟩
  have C_Program := He.cls_ok (c.fact 26 (f := .cls "Program") rfl)
  have A_Program_modulus := He.noat_ok (c.fact 35 (f := .noat "Program" "modulus") rfl)
  have A_Program_cells := He.noat_ok (c.fact 36 (f := .noat "Program" "cells") rfl)
  have A_Program_inputs := He.noat_ok (c.fact 37 (f := .noat "Program" "inputs") rfl)
  have A_Program_steps := He.noat_ok (c.fact 38 (f := .noat "Program" "steps") rfl)
  obtain ⟨fdl, Fl⟩ := c.def_ 44 (d := d44) rfl
  have el := hfa.symm.trans (He.glo_ok X G (c.fact 64 (f := .glo "law") rfl))
  cases el
  have GP : PgC K (He.ga K "Program") := ⟨C_Program, A_Program_modulus, A_Program_cells, A_Program_inputs, A_Program_steps⟩
  have b := FunD.bindsA (ps := ["_law_script"]) Fl fun _ _ _ _ _ _ us hl => match us, hl with | [_], _ => rfl
  refine ⟨fdl, fun s v => b s [v] rfl, fun base _ _ => ?_⟩
  have c_is_integer := cal_is_integer (P := P) (w := w) (base := base) T F_is_integer
  have c_is_number := cal_is_number (P := P) (w := w) (base := base) T c_is_integer F_is_number
  have c_is_prime := cal_is_prime (P := P) (w := w) (base := base) T F_is_prime
  have c_inverse_of := cal_inverse_of (P := P) (w := w) (base := base) T F_inverse_of
  have c_weights := cal_weights (P := P) (w := w) (base := base) T c_inverse_of F_weights
  have c_interpolate := cal_interpolate (P := P) (w := w) (base := base) T c_weights F_interpolate
  have c_is_factor := cal_is_factor (P := P) (w := w) (base := base) T c_is_number F_is_factor
  have c_is_table := cal_is_table (P := P) (w := w) (base := base) T c_is_number F_is_table
  have c_is_add := cal_is_add (P := P) (w := w) (base := base) T c_is_number c_is_factor F_is_add
  have c_is_look := cal_is_look (P := P) (w := w) (base := base) T c_is_number c_is_integer c_is_table F_is_look
  have c_is_step := cal_is_step (P := P) (w := w) (base := base) T c_is_number c_inverse_of c_is_add c_is_look F_is_step
  have c_inverse_step := cal_inverse_step (P := P) (w := w) (base := base) T c_inverse_of F_inverse_step
  have c_check_numbers := cal_check_numbers (P := P) (w := w) (base := base) T c_is_number F_check_numbers
  have c_check_steps := cal_check_steps (P := P) (w := w) (base := base) T c_is_prime c_is_step F_check_steps
  have c_perform := cal_perform (P := P) (w := w) (base := base) T c_interpolate F_perform
  have c_Program := mak_Program (P := P) (w := w) (base := base) T GP c_is_integer c_check_steps M_Program
  have m_len := met_len (P := P) (w := w) (mg := mg) (base := base) T GP F_Program___len__
  have m_part := met_part (P := P) (w := w) (base := base) T GP c_is_integer c_Program F_Program_part
  have m_neg := met_neg (P := P) (w := w) (base := base) T GP c_inverse_step c_Program F_Program___neg__
  have m_back := met_back (P := P) (w := w) (base := base) T GP m_part m_neg F_Program_called_back
  have m_run := met_run (P := P) (w := w) (base := base) T GP c_check_numbers c_perform F_Program_run
  have IC := insB_ok cx C_Program
  have c_is_leaf := cal_is_leaf (P := P) (w := w) (base := base) T c_is_number F_is_leaf
  have c_is_inner := cal_is_inner (P := P) (w := w) (base := base) T c_is_table F_is_inner
  have c_listed := cal_listed (P := P) (w := w) (base := base) T c_is_leaf c_is_inner F_listed
  have c_rows_of := cal_rows_of (P := P) (w := w) (base := base) T c_is_integer c_listed F_rows_of
  have c_prime_of := cal_prime_of (P := P) (w := w) (base := base) T c_is_integer c_is_prime F_prime_of
  have c_tree_cost := cal_tree_cost (P := P) (w := w) (base := base) T c_rows_of c_prime_of F_tree_cost
  have c_round_tasks := cal_round_tasks (P := P) (w := w) (base := base) T c_inverse_of F_round_tasks
  have c_compile_tree := cal_compile_tree (P := P) (w := w) (base := base) T c_is_integer c_rows_of c_tree_cost c_prime_of c_round_tasks c_Program F_compile_tree
  have c_mixed := cal__law_mixed (P := P) (w := w) (base := base) T F__law_mixed
  have c_numbers := cal__law_numbers (P := P) (w := w) (base := base) T c_mixed F__law_numbers
  have c_draw := cal__law_draw (P := P) (w := w) (base := base) T c_mixed F__law_draw
  have c_equal := cal__law_equal (P := P) (w := w) (base := base) T F__law_equal F__law_all_equal 4
  have c_lprime := cal__law_prime (P := P) (w := w) (base := base) T F__law_prime
  have c_linv := cal__law_inverse (P := P) (w := w) (base := base) T F__law_inverse
  have c_lweights := cal__law_weights (P := P) (w := w) (base := base) T F__law_weights
  have c_lpoly := cal__law_polynomial (P := P) (w := w) (base := base) T c_lweights F__law_polynomial
  have c_ltable := cal__law_table (P := P) (w := w) (base := base) T c_draw F__law_table
  have c_lperf := cal__law_perform (P := P) (w := w) (base := base) T c_lpoly F__law_perform
  have c_lcost := cal__law_cost (P := P) (w := w) (base := base) T F__law_cost 4
  have c_ltree := cal__law_tree (P := P) (w := w) (base := base) T c_draw c_ltable F__law_tree 4
  have c_thin := cal__law_thin_tree (P := P) (w := w) (base := base) T c_draw c_lprime c_ltree c_lcost c_linv F__law_thin_tree
  exact ok_law T GP IC k_Program c_numbers c_draw c_thin c_compile_tree c_lperf c_equal m_len m_part m_back m_run Fl
end Bf
open PySem PySem.W PySem.Calls PyProof.Rows
theorem PySem.Challenge.cw_brimful_k42_whole_trees_are_called_back_holds : PySem.Challenge.rw_brimful_k42_whole_trees_are_called_back.Holds := by
  w_on; o_law
  refine HandSHeadRun.head_any (r := OpenLaw.row PySem.Challenge.rw_brimful_k42_whole_trees_are_called_back) (q := view (OpenLaw.row PySem.Challenge.rw_brimful_k42_whole_trees_are_called_back).prog [57]) (H := Bf.hk) (ob := Bf.ob) (M := 3000) (loose := Bf.loose) (d := HandSHeadRun.topDef (OpenLaw.row PySem.Challenge.rw_brimful_k42_whole_trees_are_called_back).prog 57) (kwd := []) Bf.ob_eq
    (by kernel_rfl) (fun s => by kernel_rfl) Bf.run (by kernel_rfl) (by kernel_rfl) (by kernel_rfl) (by rfl) (by first | assumption | decide +kernel) (by decide +kernel) ⟨rfl, rfl, rfl, rfl, rfl, by decide +kernel⟩ ?hw ?hc
  case hw => w_witness2
  case hc =>
    refine L2.walk_ofE (l := PySem.Challenge.rw_brimful_k42_whole_trees_are_called_back) (n := 63) (k := 12) (x := "_law_script") (CX := L2.CX0) rfl (by decide) (by kernel_rfl) ⟨rfl, by decide, by decide⟩ ?F (fun _ _ _ _ z => z)
    intro w mg fa h Y G hmg0
    obtain ⟨K, KX, c, cx⟩ := Y
    have hmg : mg ("law" : PySem.Str) = some (.ref fa) := by
      have e : (HandSHeadRun.topDef (OpenLaw.row PySem.Challenge.rw_brimful_k42_whole_trees_are_called_back).prog 57).name = ("law" : PySem.Str) := by kernel_rfl
      rw [← e]
      exact hmg0
    obtain ⟨fd, hb, hF⟩ := Bf.facts (P := (PySem.Challenge.rw_brimful_k42_whole_trees_are_called_back).prog) (w := w) KX G hmg c cx
    exact ⟨K, fd, Bf.spLaw K, KX, hb, fun H a ns hl _ hS => ⟨ns, a, rfl, hS, by omega, fun _ => rfl⟩, hF⟩
