import PyProof.Rows.All
import Wide.All
import OpenK.AllK
import Wide.FinOn
import KE.KStateDown
import HandS.ForMost
import HandS.Exc
import HandS.ExcOwn
import HandS.TryOnly
import HandS.TryMany
import HandS.WordsExc
import HandS.Defaults
import HandS.MakeKw
import HandS.Flow
import HandS.IsInst
import HandS.FStr
import HandS.TupAny
import HandS.TupMul
import HandS.TupLe
import HandS.StrMore
import HandS.Small
import HandS.RaiseMore
import HandS.Wide
import HandS.Deep
import HandS.Zip
import KE.KTryMore
import KE.KExcIs
import HandS.Head0
import HandS.Head1
import HandS.Head2
import HandS.HeadEnd
import HandS.HeadHook1
import HandS.HeadHook2
import HandS.Codes
import PySem.Challenge.RW_paperkin_k02_squeezed
set_option Elab.async false
set_option linter.all false
set_option maxRecDepth 100000
set_option maxHeartbeats 2000000
namespace PP
open PySem PySem.Spec PyProof.Rows L2
abbrev SS := L2.St

/-! ### weakening -/
section
variable {X : Cx}
theorem PE.weak {e : Expr} {t t' : TE} (h : PE X e t) (w : ∀ σ H Q, t' σ H Q → ∃ Q', t σ H Q' ∧ ∀ v H', Q' v H' → Q v H') : PE X e t' := ⟨fun pins s σ H Q I q => by
  obtain ⟨Q', a, b⟩ := w σ H Q q
  exact thn (h.run pins s σ H Q' I a) fun u s' ⟨v, H', J, r, z⟩ => ⟨v, H', J, r, b v H' z⟩⟩
theorem PE.imp {e : Expr} {t t' : TE} (h : PE X e t) (w : ∀ σ H Q, t' σ H Q → t σ H Q) : PE X e t' := ⟨fun pins s σ H Q I q => h.run pins s σ H Q I (w σ H Q q)⟩
/-- made monotone -/
def mE (t : TE) : TE := fun σ H Q => ∃ Q', t σ H Q' ∧ ∀ v H', Q' v H' → Q v H'
theorem PE.m {e : Expr} {t : TE} (h : PE X e t) : PE X e (mE t) := PE.weak h fun _ _ _ z => z
theorem PT.imp {e : Expr} {t t' : TT} (h : PT X e t) (w : ∀ σ H Q, t' σ H Q → t σ H Q) : PT X e t' := ⟨fun pins s σ H Q I q => h.run pins s σ H Q I (w σ H Q q)⟩
theorem PS.imp {e : Stmt} {t t' : TS} (h : PS X e t) (w : ∀ D σ H, t' D σ H → t D σ H) : PS X e t' := ⟨fun pins s σ H D I q => h.run pins s σ H D I (w D σ H q)⟩
theorem PI.weak {tg e : Expr} {t t' : TI} (h : PI X tg e t) (w : ∀ σ H R, t' σ H R → ∃ R', t σ H R' ∧ ∀ J H', R' J H' → R J H') : PI X tg e t' := ⟨fun pins s σ H R I q => by
  obtain ⟨R', a, b⟩ := w σ H R q
  exact thn (h.run pins s σ H R' I a) fun v s1 q1 => thn q1 fun itv s2 ⟨it, fp, tn, J, H', e, I2, T, st, f, z⟩ => ⟨it, fp, tn, J, H', e, I2, T, st, f, b J H' z⟩⟩
theorem OpR.imp {f : Value → Value → Sem Value} {r r' : R2} (h : OpR X f r) (w : ∀ x y H Q, r' x y H Q → r x y H Q) : OpR X f r' := fun pins s σ H x y v u Q I rx ry q => h pins s σ H x y v u Q I rx ry (w x y H Q q)
theorem CallR.imp {f : Value} {r r' : List V → Hp → VK → Prop} (h : CallR X f r) (w : ∀ x H Q, r' x H Q → r x H Q) : CallR X f r' := fun pins s σ H x us Q I rx q => h pins s σ H x us Q I rx (w x H Q q)
end

/-! ### a for, by what is walked -/
/-- a walk over given items, ok what stays true of the walked thing -/
def goL (ok : Hp → Prop) (g : TG) (tb : TS) (D : Ends) : List V → SS → Hp → Prop
  | [], σ, H => ok H ∧ D.nx σ H
  | v :: r, σ, H => ok H ∧ g v σ H fun σ2 H2 => tb { D with nx := goL ok g tb D r, ct := goL ok g tb D r, bk := D.nx } σ2 H2
/-- a walk whose items are new tuples -/
def goF (ok : Hp → Prop) (g : TG) (tb : TS) (D : Ends) : List (List V) → SS → Hp → Prop
  | [], σ, H => ok H ∧ D.nx σ H
  | vs :: r, σ, H => ok H ∧ ∀ T, H T = none → g (.ref T) σ (upd H T (.tup vs)) fun σ2 H2 => tb { D with nx := goF ok g tb D r, ct := goF ok g tb D r, bk := D.nx } σ2 H2
/-- what tFor asks behind the iterator -/
def FW (J : It) (g : TG) (tb : TS) (D : Ends) (σ : SS) (H1 : Hp) : Prop := ∃ W : Nat → Nat → SS → Hp → Prop, (∃ m, W 0 m σ H1) ∧ ∀ i m σ H, W i m σ H →
  (J.stop i H ∧ D.nx σ H) ∨ (J.go i H ∧ ∃ N : SS → Hp → Prop, (∀ σ' H', N σ' H' → ∃ m', m' < m ∧ W (i + 1) m' σ' H') ∧ ∀ x H', J.yld i H x H' → g x σ H' fun σ2 H2 => tb { D with nx := N, ct := N, bk := D.nx } σ2 H2)
theorem tFor_eq (wi : TI) (g : TG) (tb : TS) : tFor wi g tb = fun D σ H => wi σ H fun J H1 => FW J g tb D σ H1 := rfl
section
variable {K : PySem.W.Frag} {g : TG} {tb : TS} {D : Ends}
theorem drop_cons {α : Type} {xs : List α} {i : Nat} {x : α} (h : xs[i]? = some x) : xs.drop i = x :: xs.drop (i + 1) := by
  obtain ⟨h1, rfl⟩ := List.getElem?_eq_some_iff.mp h
  exact List.drop_eq_getElem_cons h1
theorem drop_len {α : Type} (xs : List α) : xs.drop xs.length = [] := List.drop_length
/-- any walk of n items that yields, at turn i, what R says -/
theorem fw_of {α : Type} {J : It} {xs : List α} (P : List α → SS → Hp → Prop) {σ : SS} {H : Hp} (h0 : P xs σ H)
    (hgo : ∀ i x σ H, xs[i]? = some x → P (x :: xs.drop (i + 1)) σ H → J.go i H ∧ ∀ v H', J.yld i H v H' → g v σ H' fun σ2 H2 => tb { D with nx := P (xs.drop (i + 1)), ct := P (xs.drop (i + 1)), bk := D.nx } σ2 H2)
    (hstop : ∀ σ H, P [] σ H → J.stop xs.length H ∧ D.nx σ H) : FW J g tb D σ H := by
  refine ⟨fun i m σ H => m = xs.length - i ∧ i ≤ xs.length ∧ P (xs.drop i) σ H, ⟨xs.length, by simp, Nat.zero_le _, by simpa using h0⟩, ?_⟩
  rintro i m σ H ⟨rfl, hi, p⟩
  by_cases hlt : i < xs.length
  · have hx : xs[i]? = some xs[i] := by simp [hlt]
    rw [drop_cons hx] at p
    obtain ⟨a, b⟩ := hgo i _ σ H hx p
    exact .inr ⟨a, P (xs.drop (i + 1)), fun σ' H' p' => ⟨xs.length - (i + 1), by omega, rfl, hlt, p'⟩, b⟩
  · have e : i = xs.length := by omega
    subst e
    rw [drop_len] at p
    exact .inl (hstop σ H p)
theorem fw_list {a : Addr} {xs : List V} {σ : SS} {H : Hp} (h : goL (fun H => SqL K H a xs) g tb D xs σ H) : FW (Itl K a) g tb D σ H :=
  fw_of (goL (fun H => SqL K H a xs) g tb D) h (fun i x σ H hx ⟨ok, q⟩ => ⟨⟨xs, x, ok, hx⟩, fun v H' ⟨e, y⟩ => by
    subst e
    have ev : v = x := Option.some.inj ((y xs ok).symm.trans hx)
    subst ev
    exact q⟩) fun σ H ⟨ok, q⟩ => ⟨⟨xs, ok, Nat.le_refl _⟩, q⟩
theorem fw_tup {a : Addr} {xs : List V} {σ : SS} {H : Hp} (h : goL (fun H => SqT K H a xs) g tb D xs σ H) : FW (Itt K a) g tb D σ H :=
  fw_of (goL (fun H => SqT K H a xs) g tb D) h (fun i x σ H hx ⟨ok, q⟩ => ⟨⟨xs, x, ok, hx⟩, fun v H' ⟨e, y⟩ => by
    subst e
    have ev : v = x := Option.some.inj ((y xs ok).symm.trans hx)
    subst ev
    exact q⟩) fun σ H ⟨ok, q⟩ => ⟨⟨xs, ok, Nat.le_refl _⟩, q⟩
/-- the upTo lo, lo + 1, .., n of them -/
def upTo (lo : Int) : Nat → List V
  | 0 => []
  | n + 1 => .int lo :: upTo (lo + 1) n
theorem upTo_length : ∀ (n : Nat) (lo : Int), (upTo lo n).length = n
  | 0, _ => rfl
  | n + 1, lo => congrArg Nat.succ (upTo_length n (lo + 1))
theorem upTo_get : ∀ (n : Nat) (lo : Int) (i : Nat), i < n → (upTo lo n)[i]? = some (.int (lo + i))
  | 0, _, _, h => absurd h (Nat.not_lt_zero _)
  | n + 1, lo, 0, _ => by simp [upTo]
  | n + 1, lo, i + 1, h => by
    show (upTo (lo + 1) n)[i]? = _
    rw [upTo_get n (lo + 1) i (Nat.lt_of_succ_lt_succ h)]
    congr 2
    omega
theorem fw_range {lo : Int} {n : Nat} {σ : SS} {H : Hp} (h : goL (fun _ => True) g tb D (upTo lo n) σ H) : FW (Itr lo n) g tb D σ H :=
  fw_of (goL (fun _ => True) g tb D) h (fun i x σ H hx ⟨_, q⟩ => by
    have hi : i < n := by
      have := (List.getElem?_eq_some_iff.mp hx).1
      rwa [upTo_length] at this
    refine ⟨hi, fun v H' ⟨e, y⟩ => ?_⟩
    subst e y
    have ev : V.int (lo + i) = x := Option.some.inj ((upTo_get n lo i hi).symm.trans hx)
    rw [ev]
    exact q) fun σ H ⟨_, q⟩ => ⟨by rw [upTo_length]; exact Nat.le_refl _, q⟩
/-- a text's signs -/
def signs (x : Str) : List V := x.cps.toList.map fun c => .str ⟨#[c]⟩
theorem fw_str {x : Str} {σ : SS} {H : Hp} (h : goL (fun _ => True) g tb D (signs x) σ H) : FW (Its x) g tb D σ H :=
  fw_of (goL (fun _ => True) g tb D) h (fun i v σ H hx ⟨_, q⟩ => by
    unfold signs at hx
    rw [List.getElem?_map] at hx
    cases e : x.cps.toList[i]? with
    | none => rw [e] at hx; cases hx
    | some c =>
      rw [e] at hx
      have hv : V.str ⟨#[c]⟩ = v := Option.some.inj hx
      have hc : x.cps[i]? = some c := by rw [← Array.getElem?_toList]; exact e
      refine ⟨(Array.getElem?_eq_some_iff.mp hc).1, fun w H' ⟨e1, c', hc', ew⟩ => ?_⟩
      subst e1
      rw [hc] at hc'
      cases hc'
      rw [ew, hv]
      exact q) fun σ H ⟨_, q⟩ => ⟨by unfold signs; rw [List.length_map, Array.length_toList]; exact Nat.le_refl _, q⟩
/-- enumerate's pairs -/
def enumP (k : Int) : List V → List (List V)
  | [] => []
  | x :: xs => [.int k, x] :: enumP (k + 1) xs
theorem enumP_length : ∀ (xs : List V) (k : Int), (enumP k xs).length = xs.length
  | [], _ => rfl
  | _ :: xs, k => congrArg Nat.succ (enumP_length xs (k + 1))
theorem enumP_get : ∀ (xs : List V) (k : Int) (i : Nat) (p : List V), (enumP k xs)[i]? = some p → ∃ x, xs[i]? = some x ∧ p = [.int (k + i), x]
  | [], _, _, _, h => by simp [enumP] at h
  | x :: xs, k, 0, p, h => by
    simp [enumP] at h
    exact ⟨x, rfl, by rw [← h]; simp⟩
  | x :: xs, k, i + 1, p, h => by
    obtain ⟨y, h1, h2⟩ := enumP_get xs (k + 1) i p (by simpa [enumP] using h)
    refine ⟨y, by simpa using h1, ?_⟩
    rw [h2]
    congr 2
    omega
theorem fw_enum {a : Addr} {xs : List V} {σ : SS} {H : Hp} (h : goF (fun H => SqL K H a xs) g tb D (enumP 0 xs) σ H) : FW (Ite K a) g tb D σ H :=
  fw_of (goF (fun H => SqL K H a xs) g tb D) h (fun i p σ H hp ⟨ok, q⟩ => by
    obtain ⟨x, hx, rfl⟩ := enumP_get xs 0 i p hp
    refine ⟨⟨xs, x, ok, hx⟩, fun v H' ⟨T, y, ev, hT, eH, hy⟩ => ?_⟩
    have ey : y = x := Option.some.inj ((hy xs ok).symm.trans hx)
    subst ev eH ey
    have q' := q T hT
    rw [Int.zero_add] at q'
    exact q') fun σ H ⟨ok, q⟩ => ⟨⟨xs, ok, by rw [enumP_length]; exact Nat.le_refl _⟩, q⟩
/-- zip's pairs -/
def zipP : List V → List V → List (List V)
  | x :: xs, y :: ys => [x, y] :: zipP xs ys
  | _, _ => []
theorem zipP_length : ∀ (xs ys : List V), (zipP xs ys).length = min xs.length ys.length
  | [], _ => by simp [zipP]
  | _ :: _, [] => by simp [zipP]
  | _ :: xs, _ :: ys => by simp [zipP, zipP_length xs ys, Nat.succ_min_succ]
theorem zipP_get : ∀ (xs ys : List V) (i : Nat) (p : List V), (zipP xs ys)[i]? = some p → ∃ x y, xs[i]? = some x ∧ ys[i]? = some y ∧ p = [x, y]
  | [], _, _, _, h => by simp [zipP] at h
  | _ :: _, [], _, _, h => by simp [zipP] at h
  | x :: xs, y :: ys, 0, p, h => by simp [zipP] at h; exact ⟨x, y, rfl, rfl, h.symm⟩
  | x :: xs, y :: ys, i + 1, p, h => by
    obtain ⟨u, v, h1, h2, h3⟩ := zipP_get xs ys i p (by simpa [zipP] using h)
    exact ⟨u, v, by simpa using h1, by simpa using h2, h3⟩
theorem fw_zip {a b : Addr} {xs ys : List V} {σ : SS} {H : Hp} (h : goF (fun H => SqL K H a xs ∧ SqL K H b ys) g tb D (zipP xs ys) σ H) : FW (Itz K a b) g tb D σ H :=
  fw_of (goF (fun H => SqL K H a xs ∧ SqL K H b ys) g tb D) h (fun i p σ H hp ⟨ok, q⟩ => by
    obtain ⟨x, y, hx, hy, rfl⟩ := zipP_get xs ys i p hp
    refine ⟨⟨xs, ys, x, y, ok.1, ok.2, hx, hy⟩, fun v H' ⟨T, x', y', ev, hT, eH, h1, h2⟩ => ?_⟩
    have e1 : x' = x := Option.some.inj ((h1 xs ok.1).symm.trans hx)
    have e2 : y' = y := Option.some.inj ((h2 ys ok.2).symm.trans hy)
    subst ev eH e1 e2
    exact q T hT) fun σ H ⟨ok, q⟩ => ⟨⟨xs, ys, ok.1, ok.2, by rw [zipP_length]; omega⟩, q⟩
end

/-! ### what is walked, by values -/
/-- the walk of a value: a list, a tuple, a text -/
def walkV (K : PySem.W.Frag) (x : V) (g : TG) (tb : TS) (D : Ends) (σ : SS) (H : Hp) : Prop :=
  (∃ a xs, x = .ref a ∧ SqL K H a xs ∧ goL (fun H => SqL K H a xs) g tb D xs σ H) ∨ (∃ a xs, x = .ref a ∧ SqT K H a xs ∧ goL (fun H => SqT K H a xs) g tb D xs σ H) ∨ (∃ z, x = .str z ∧ goL (fun _ => True) g tb D (signs z) σ H)
def iSeq (K : PySem.W.Frag) (te : TE) : TI := fun σ H R => te σ H fun x H1 => (∃ a, x = .ref a ∧ (∃ xs, SqL K H1 a xs) ∧ R (Itl K a) H1) ∨ (∃ a, x = .ref a ∧ (∃ xs, SqT K H1 a xs) ∧ R (Itt K a) H1) ∨ (∃ z, x = .str z ∧ R (Its z) H1)
section
variable {X : Cx} {tg : Expr}
theorem pi_seq {l : Expr} {tl : TE} (hl : PE X l tl) : PI X tg l (iSeq X.K tl) := by
  refine ⟨fun pins s σ H R I h => ?_⟩
  refine thn (hl.run pins s σ H _ I h) fun v s1 ⟨x, H1, I1, r1, q1⟩ => ?_
  rcases q1 with ⟨a, e, ⟨xs, hq⟩, q⟩ | ⟨a, e, ⟨xs, hq⟩, q⟩ | ⟨z, e, q⟩
  · subst e
    cases r1
    obtain ⟨its, rv, p, hz⟩ := I1.list hq
    refine wpAny_pyIter_list p.isList ?_
    refine ⟨s1.heap.objs.size, [s1.heap.objs.size], _, _, H1, rfl, I1.kept (t' := s1.toks) fun b o e => Heap.get?_push_of_some _ e, turn_list a _, ⟨_, Heap.get?_push_size _ rfl, rfl, rfl⟩, fun b hb => ?_, q⟩
    have e : b = s1.heap.objs.size := by simpa using hb
    subst e
    exact I1.fpOk (Nat.le_refl _) (I1.hok.fresh (Nat.le_refl _))
  · subst e
    cases r1
    obtain ⟨its, rv, p, hz⟩ := I1.tuple hq
    refine wpAny_pyIter_tuple (show s1.heap.IsTuple a its.toArray from p) ?_
    refine ⟨s1.heap.objs.size, [s1.heap.objs.size], _, _, H1, rfl, I1.kept (t' := s1.toks) fun b o e => Heap.get?_push_of_some _ e, turn_tuple a _, ⟨_, Heap.get?_push_size _ rfl, rfl, rfl⟩, fun b hb => ?_, q⟩
    have e : b = s1.heap.objs.size := by simpa using hb
    subst e
    exact I1.fpOk (Nat.le_refl _) (I1.hok.fresh (Nat.le_refl _))
  · subst e
    obtain ⟨t, rfl⟩ := r1
    cases ha : z.cps.all (· < 128)
    · exact wpAny_pyIter_wide ha (pi_one (tk := s1.toks) I1 _ (turn_str _ z t "str_iterator" (.inr rfl)) ⟨_, Heap.get?_push_size _ rfl, rfl, rfl⟩ q)
    · exact wpAny_pyIter_ascii ha (pi_one (tk := s1.toks) I1 _ (turn_str _ z t "str_ascii_iterator" (.inl rfl)) ⟨_, Heap.get?_push_size _ rfl, rfl, rfl⟩ q)
end
/-- for g in e: b -/
def uFor (K : PySem.W.Frag) (te : TE) (g : TG) (tb : TS) : TS := fun D σ H => te σ H fun x H1 => walkV K x g tb D σ H1
/-- for g in range(..): b -/
def uForR1 (ta : TE) (g : TG) (tb : TS) : TS := fun D σ H => ta σ H fun x H1 => ∃ j : Int, x = .int j ∧ -(2 ^ 62) ≤ j ∧ j < 2 ^ 62 ∧ goL (fun _ => True) g tb D (upTo 0 j.toNat) σ H1
def uForR2 (ta tb' : TE) (g : TG) (tb : TS) : TS := fun D σ H => ta σ H fun x H1 => tb' σ H1 fun y H2 => ∃ i j : Int, x = .int i ∧ y = .int j ∧ (-(2 ^ 62) ≤ i ∧ i < 2 ^ 62 ∧ -(2 ^ 62) ≤ j ∧ j < 2 ^ 62) ∧ goL (fun _ => True) g tb D (upTo i (j - i).toNat) σ H2
/-- for g in enumerate(e) -/
def uForE (K : PySem.W.Frag) (te : TE) (g : TG) (tb : TS) : TS := fun D σ H => te σ H fun x H1 => ∃ a xs, x = .ref a ∧ SqL K H1 a xs ∧ goF (fun H => SqL K H a xs) g tb D (enumP 0 xs) σ H1
/-- for g in zip(e, f) -/
def uForZ (K : PySem.W.Frag) (te tf : TE) (g : TG) (tb : TS) : TS := fun D σ H => te σ H fun x H1 => tf σ H1 fun y H2 => ∃ a xs b ys, x = .ref a ∧ y = .ref b ∧ SqL K H2 a xs ∧ SqL K H2 b ys ∧ goF (fun H => SqL K H a xs ∧ SqL K H b ys) g tb D (zipP xs ys) σ H2
section
variable {X : Cx} {tg : Expr} {body : List Stmt} {g : TG} {tb : TS} {pos : Pos}
theorem ps_forI {iter : Expr} {wi : TI} {t : TS} (hp : PassesOwn (model X.prog X.w) X.A X.env X.xe) (hc : X.calm = true) (hi : PI X tg iter wi) (hg : PG X tg g) (hb : PSs X body tb)
    (w : ∀ D σ H, t D σ H → ∃ R', wi σ H R' ∧ ∀ J H', R' J H' → FW J g tb D σ H') (hs : ∀ x, foldedSetIterable iter X.env x = pure x := by intro _; rfl) : PS X (.For tg iter body [] pos) t := by
  refine ⟨fun pins s σ H D I h => ?_⟩
  exact (ps_for (wi := fun σ' H' R => σ' = σ ∧ H' = H ∧ R = fun J H1 => FW J g tb D σ H1) hp hc (PI.weak hi fun σ' H' R ⟨e1, e2, e3⟩ => by subst e1 e2 e3; exact w D σ' H' h) hg hb hs).run pins s σ H D I ⟨rfl, rfl, rfl⟩
theorem ps_forV {iter : Expr} {te : TE} (hp : PassesOwn (model X.prog X.w) X.A X.env X.xe) (hc : X.calm = true) (he : PE X iter te) (hg : PG X tg g) (hb : PSs X body tb)
    (hs : ∀ x, foldedSetIterable iter X.env x = pure x := by intro _; rfl) : PS X (.For tg iter body [] pos) (uFor X.K te g tb) :=
  ps_forI hp hc (pi_seq (PE.m he)) hg hb (fun D σ H h => ⟨fun J H1 => FW J g tb D σ H1, ⟨_, h, fun x H1 q => by
    rcases q with ⟨a, xs, e, hq, q⟩ | ⟨a, xs, e, hq, q⟩ | ⟨z, e, q⟩
    · exact .inl ⟨a, e, ⟨xs, hq⟩, fw_list q⟩
    · exact .inr (.inl ⟨a, e, ⟨xs, hq⟩, fw_tup q⟩)
    · exact .inr (.inr ⟨z, e, fw_str q⟩)⟩, fun _ _ z => z⟩) hs
theorem ps_forR1 {a : Expr} {ta : TE} {p p2 : Pos} (hp : PassesOwn (model X.prog X.w) X.A X.env X.xe) (hc : X.calm = true) (hgl : Gl X "range") (hm : X.mg "range" = none) (ha : PE X a ta) (hg : PG X tg g) (hb : PSs X body tb)
    (hs1 : starEach [a] X.env = [(false, eval a X.env)] := by rfl) (hs : ∀ x, foldedSetIterable (.Call (.Name "range" p) [a] [] p2) X.env x = pure x := by intro _; rfl) : PS X (.For tg (.Call (.Name "range" p) [a] [] p2) body [] pos) (uForR1 ta g tb) :=
  ps_forI hp hc (pi_range1 hgl hm (pa_cons (PE.m ha) pa_nil hs1) hs1) hg hb (fun D σ H h => ⟨fun J H1 => FW J g tb D σ H1, ⟨_, h, fun x H1 ⟨j, e, q1, q2, q⟩ => ⟨j, by rw [e], q1, q2, fw_range q⟩⟩, fun _ _ z => z⟩) hs
theorem ps_forR2 {a b : Expr} {ta tb' : TE} {p p2 : Pos} (hp : PassesOwn (model X.prog X.w) X.A X.env X.xe) (hc : X.calm = true) (hgl : Gl X "range") (hm : X.mg "range" = none) (ha : PE X a ta) (hb' : PE X b tb') (hg : PG X tg g) (hb : PSs X body tb)
    (hs0 : starEach [a, b] X.env = (false, eval a X.env) :: starEach [b] X.env := by rfl) (hs1 : starEach [a, b] X.env = [(false, eval a X.env), (false, eval b X.env)] := by rfl) (hs2 : starEach [b] X.env = [(false, eval b X.env)] := by rfl) (hs : ∀ x, foldedSetIterable (.Call (.Name "range" p) [a, b] [] p2) X.env x = pure x := by intro _; rfl) : PS X (.For tg (.Call (.Name "range" p) [a, b] [] p2) body [] pos) (uForR2 ta tb' g tb) :=
  ps_forI hp hc (pi_range2 hgl hm (pa_cons (PE.m ha) (pa_cons (PE.m hb') pa_nil hs2) hs0) hs1 hs2) hg hb (fun D σ H h => ⟨fun J H1 => FW J g tb D σ H1, ⟨_, h, fun x H1 q0 => ⟨_, q0, fun y H2 ⟨i, j, e1, e2, q1, q⟩ => ⟨i, j, by rw [e1, e2], q1, fw_range q⟩⟩⟩, fun _ _ z => z⟩) hs
theorem ps_forE {a : Expr} {ta : TE} {elts : List Expr} {kk : Nat} {p p2 tpos : Pos} (hp : PassesOwn (model X.prog X.w) X.A X.env X.xe) (hc : X.calm = true) (hgl : Gl X "enumerate") (hm : X.mg "enumerate" = none) (ha : PE X a ta) (hg : PG X (.Tuple elts kk tpos) g) (hb : PSs X body tb)
    (hs1 : starEach [a] X.env = [(false, eval a X.env)] := by rfl) (hs : ∀ x, foldedSetIterable (.Call (.Name "enumerate" p) [a] [] p2) X.env x = pure x := by intro _; rfl) : PS X (.For (.Tuple elts kk tpos) (.Call (.Name "enumerate" p) [a] [] p2) body [] pos) (uForE X.K ta g tb) :=
  ps_forI hp hc (pi_enum hgl hm (pa_cons (PE.m ha) pa_nil hs1) hs1) hg hb (fun D σ H h => ⟨fun J H1 => FW J g tb D σ H1, ⟨_, h, fun x H1 ⟨a, xs, e, hq, q⟩ => ⟨a, xs, by rw [e], hq, fw_enum q⟩⟩, fun _ _ z => z⟩) hs
theorem ps_forZ {a b : Expr} {ta tb' : TE} {elts : List Expr} {kk : Nat} {p p2 tpos : Pos} (hp : PassesOwn (model X.prog X.w) X.A X.env X.xe) (hc : X.calm = true) (hgl : Gl X "zip") (hm : X.mg "zip" = none) (ha : PE X a ta) (hb' : PE X b tb') (hg : PG X (.Tuple elts kk tpos) g) (hb : PSs X body tb)
    (hs1 : starEach [a, b] X.env = (false, eval a X.env) :: starEach [b] X.env := by rfl) (hs2 : starEach [b] X.env = [(false, eval b X.env)] := by rfl) (hpl : (backTo p2 (starEach [b] X.env)).any (·.1) = false := by rfl) (hs : ∀ x, foldedSetIterable (.Call (.Name "zip" p) [a, b] [] p2) X.env x = pure x := by intro _; rfl) :
    PS X (.For (.Tuple elts kk tpos) (.Call (.Name "zip" p) [a, b] [] p2) body [] pos) (uForZ X.K ta tb' g tb) :=
  ps_forI hp hc (pi_zip hgl hm (pa_cons (PE.m ha) (pa_cons (PE.m hb') pa_nil hs2) hs1) hs1 hpl) hg hb (fun D σ H h => ⟨fun J H1 => FW J g tb D σ H1, ⟨_, h, fun x H1 q0 => ⟨_, q0, fun y H2 ⟨a, xs, b, ys, e1, e2, h1, h2, q⟩ => ⟨a, b, xs, ys, by rw [e1, e2], h1, h2, fw_zip q⟩⟩⟩, fun _ _ z => z⟩) hs
end
end PP

set_option Elab.async false
set_option linter.all false
set_option maxRecDepth 100000
set_option maxHeartbeats 2000000
namespace PP
open PySem PySem.Spec PyProof.Rows L2

/-! ### list comprehensions -/
/-- behind the target and the tests: the element onto the list at D -/
def stepC (tt : TT) (te : TE) (vs : List Nat) (σ : SS) (D : Addr) (N : Hp → Prop) : SS → Hp → Prop := fun σ2 H2 => wipe σ2 vs = wipe σ vs ∧ tt σ2 H2 fun b H3 =>
  if b = true then te σ2 H3 fun y H4 => ∃ acc, H4 D = some (.lst acc) ∧ acc.length < sizeLine ∧ N (upd H4 D (.lst (acc ++ [y]))) else N H3
def goC (ok : Hp → Prop) (g : TG) (tt : TT) (te : TE) (vs : List Nat) (σ : SS) (D : Addr) (Q : VK) : List V → Hp → Prop
  | [], H => ok H ∧ Q (.ref D) H
  | v :: r, H => ok H ∧ g v (wipe σ vs) H (stepC tt te vs σ D (goC ok g tt te vs σ D Q r))
def goCF (ok : Hp → Prop) (g : TG) (tt : TT) (te : TE) (vs : List Nat) (σ : SS) (D : Addr) (Q : VK) : List (List V) → Hp → Prop
  | [], H => ok H ∧ Q (.ref D) H
  | ws :: r, H => ok H ∧ ∀ T, H T = none → g (.ref T) (wipe σ vs) (upd H T (.tup ws)) (stepC tt te vs σ D (goCF ok g tt te vs σ D Q r))
/-- what tLc asks behind the iterator -/
def CW (J : It) (g : TG) (tt : TT) (te : TE) (vs : List Nat) (σ : SS) (Q : VK) (H1 : Hp) : Prop := ∀ D, H1 D = none → ∃ W : Nat → Nat → Hp → Prop, (∃ m, W 0 m (upd H1 D (.lst []))) ∧ ∀ i m H, W i m H →
  (J.stop i H ∧ Q (.ref D) H) ∨ (J.go i H ∧ ∃ Nx : Hp → Prop, (∀ H', Nx H' → ∃ m', m' < m ∧ W (i + 1) m' H') ∧ ∀ x H', J.yld i H x H' → g x (wipe σ vs) H' (stepC tt te vs σ D Nx))
section
variable {K : PySem.W.Frag} {g : TG} {tt : TT} {te : TE} {vs : List Nat} {σ : SS} {Q : VK}
theorem cw_of {α : Type} {J : It} {xs : List α} {H1 : Hp} (P : Addr → List α → Hp → Prop) (h0 : ∀ D, H1 D = none → P D xs (upd H1 D (.lst [])))
    (hgo : ∀ D i x H, xs[i]? = some x → P D (x :: xs.drop (i + 1)) H → J.go i H ∧ ∀ v H', J.yld i H v H' → g v (wipe σ vs) H' (stepC tt te vs σ D (P D (xs.drop (i + 1)))))
    (hstop : ∀ D H, P D [] H → J.stop xs.length H ∧ Q (.ref D) H) : CW J g tt te vs σ Q H1 := by
  intro D hD
  refine ⟨fun i m H => m = xs.length - i ∧ i ≤ xs.length ∧ P D (xs.drop i) H, ⟨xs.length, by simp, Nat.zero_le _, by simpa using h0 D hD⟩, ?_⟩
  rintro i m H ⟨rfl, hi, p⟩
  by_cases hlt : i < xs.length
  · have hx : xs[i]? = some xs[i] := by simp [hlt]
    rw [drop_cons hx] at p
    obtain ⟨a, b⟩ := hgo D i _ H hx p
    exact .inr ⟨a, P D (xs.drop (i + 1)), fun H' p' => ⟨xs.length - (i + 1), by omega, rfl, hlt, p'⟩, b⟩
  · have e : i = xs.length := by omega
    subst e
    rw [drop_len] at p
    exact .inl (hstop D H p)
theorem cw_list {a : Addr} {xs : List V} {H : Hp} (h : ∀ D, H D = none → goC (fun H => SqL K H a xs) g tt te vs σ D Q xs (upd H D (.lst []))) : CW (Itl K a) g tt te vs σ Q H :=
  cw_of (fun D => goC (fun H => SqL K H a xs) g tt te vs σ D Q) h (fun D i x H hx ⟨ok, q⟩ => ⟨⟨xs, x, ok, hx⟩, fun v H' ⟨e, y⟩ => by
    subst e
    have ev : v = x := Option.some.inj ((y xs ok).symm.trans hx)
    subst ev
    exact q⟩) fun D H ⟨ok, q⟩ => ⟨⟨xs, ok, Nat.le_refl _⟩, q⟩
theorem cw_tup {a : Addr} {xs : List V} {H : Hp} (h : ∀ D, H D = none → goC (fun H => SqT K H a xs) g tt te vs σ D Q xs (upd H D (.lst []))) : CW (Itt K a) g tt te vs σ Q H :=
  cw_of (fun D => goC (fun H => SqT K H a xs) g tt te vs σ D Q) h (fun D i x H hx ⟨ok, q⟩ => ⟨⟨xs, x, ok, hx⟩, fun v H' ⟨e, y⟩ => by
    subst e
    have ev : v = x := Option.some.inj ((y xs ok).symm.trans hx)
    subst ev
    exact q⟩) fun D H ⟨ok, q⟩ => ⟨⟨xs, ok, Nat.le_refl _⟩, q⟩
theorem cw_range {lo : Int} {n : Nat} {H : Hp} (h : ∀ D, H D = none → goC (fun _ => True) g tt te vs σ D Q (upTo lo n) (upd H D (.lst []))) : CW (Itr lo n) g tt te vs σ Q H :=
  cw_of (fun D => goC (fun _ => True) g tt te vs σ D Q) h (fun D i x H hx ⟨_, q⟩ => by
    have hi : i < n := by
      have := (List.getElem?_eq_some_iff.mp hx).1
      rwa [upTo_length] at this
    refine ⟨hi, fun v H' ⟨e, y⟩ => ?_⟩
    subst e y
    have ev : V.int (lo + i) = x := Option.some.inj ((upTo_get n lo i hi).symm.trans hx)
    rw [ev]
    exact q) fun D H ⟨_, q⟩ => ⟨by rw [upTo_length]; exact Nat.le_refl _, q⟩
theorem cw_str {x : Str} {H : Hp} (h : ∀ D, H D = none → goC (fun _ => True) g tt te vs σ D Q (signs x) (upd H D (.lst []))) : CW (Its x) g tt te vs σ Q H :=
  cw_of (fun D => goC (fun _ => True) g tt te vs σ D Q) h (fun D i v H hx ⟨_, q⟩ => by
    unfold signs at hx
    rw [List.getElem?_map] at hx
    cases e : x.cps.toList[i]? with
    | none => rw [e] at hx; cases hx
    | some c =>
      rw [e] at hx
      have hv : V.str ⟨#[c]⟩ = v := Option.some.inj hx
      have hc : x.cps[i]? = some c := by rw [← Array.getElem?_toList]; exact e
      refine ⟨(Array.getElem?_eq_some_iff.mp hc).1, fun w H' ⟨e1, c', hc', ew⟩ => ?_⟩
      subst e1
      rw [hc] at hc'
      cases hc'
      rw [ew, hv]
      exact q) fun D H ⟨_, q⟩ => ⟨by unfold signs; rw [List.length_map, Array.length_toList]; exact Nat.le_refl _, q⟩
theorem cw_enum {a : Addr} {xs : List V} {H : Hp} (h : ∀ D, H D = none → goCF (fun H => SqL K H a xs) g tt te vs σ D Q (enumP 0 xs) (upd H D (.lst []))) : CW (Ite K a) g tt te vs σ Q H :=
  cw_of (fun D => goCF (fun H => SqL K H a xs) g tt te vs σ D Q) h (fun D i p H hp ⟨ok, q⟩ => by
    obtain ⟨x, hx, rfl⟩ := enumP_get xs 0 i p hp
    refine ⟨⟨xs, x, ok, hx⟩, fun v H' ⟨T, y, ev, hT, eH, hy⟩ => ?_⟩
    have ey : y = x := Option.some.inj ((hy xs ok).symm.trans hx)
    subst ev eH ey
    have q' := q T hT
    rw [Int.zero_add] at q'
    exact q') fun D H ⟨ok, q⟩ => ⟨⟨xs, ok, by rw [enumP_length]; exact Nat.le_refl _⟩, q⟩
theorem cw_zip {a b : Addr} {xs ys : List V} {H : Hp} (h : ∀ D, H D = none → goCF (fun H => SqL K H a xs ∧ SqL K H b ys) g tt te vs σ D Q (zipP xs ys) (upd H D (.lst []))) : CW (Itz K a b) g tt te vs σ Q H :=
  cw_of (fun D => goCF (fun H => SqL K H a xs ∧ SqL K H b ys) g tt te vs σ D Q) h (fun D i p H hp ⟨ok, q⟩ => by
    obtain ⟨x, y, hx, hy, rfl⟩ := zipP_get xs ys i p hp
    refine ⟨⟨xs, ys, x, y, ok.1, ok.2, hx, hy⟩, fun v H' ⟨T, x', y', ev, hT, eH, h1, h2⟩ => ?_⟩
    have e1 : x' = x := Option.some.inj ((h1 xs ok.1).symm.trans hx)
    have e2 : y' = y := Option.some.inj ((h2 ys ok.2).symm.trans hy)
    subst ev eH e1 e2
    exact q T hT) fun D H ⟨ok, q⟩ => ⟨⟨xs, ys, ok.1, ok.2, by rw [zipP_length]; omega⟩, q⟩
end
/-- the walk of a value by a comprehension -/
def walkC (K : PySem.W.Frag) (x : V) (g : TG) (tt : TT) (te : TE) (vs : List Nat) (σ : SS) (Q : VK) (H : Hp) : Prop :=
  (∃ a xs, x = .ref a ∧ SqL K H a xs ∧ ∀ D, H D = none → goC (fun H => SqL K H a xs) g tt te vs σ D Q xs (upd H D (.lst []))) ∨
  (∃ a xs, x = .ref a ∧ SqT K H a xs ∧ ∀ D, H D = none → goC (fun H => SqT K H a xs) g tt te vs σ D Q xs (upd H D (.lst []))) ∨
  (∃ z, x = .str z ∧ ∀ D, H D = none → goC (fun _ => True) g tt te vs σ D Q (signs z) (upd H D (.lst [])))
/-- [te for g in ts if tt] -/
def uLc (K : PySem.W.Frag) (ts : TE) (g : TG) (tt : TT) (te : TE) (vs : List Nat) : TE := fun σ H Q => ts σ H fun x H1 => walkC K x g tt te vs σ Q H1
def uLcR1 (ta : TE) (g : TG) (tt : TT) (te : TE) (vs : List Nat) : TE := fun σ H Q => ta σ H fun x H1 => ∃ j : Int, x = .int j ∧ -(2 ^ 62) ≤ j ∧ j < 2 ^ 62 ∧ ∀ D, H1 D = none → goC (fun _ => True) g tt te vs σ D Q (upTo 0 j.toNat) (upd H1 D (.lst []))
def uLcR2 (ta tb : TE) (g : TG) (tt : TT) (te : TE) (vs : List Nat) : TE := fun σ H Q => ta σ H fun x H1 => tb σ H1 fun y H2 => ∃ i j : Int, x = .int i ∧ y = .int j ∧ (-(2 ^ 62) ≤ i ∧ i < 2 ^ 62 ∧ -(2 ^ 62) ≤ j ∧ j < 2 ^ 62) ∧ ∀ D, H2 D = none → goC (fun _ => True) g tt te vs σ D Q (upTo i (j - i).toNat) (upd H2 D (.lst []))
def uLcE (K : PySem.W.Frag) (ta : TE) (g : TG) (tt : TT) (te : TE) (vs : List Nat) : TE := fun σ H Q => ta σ H fun x H1 => ∃ a xs, x = .ref a ∧ SqL K H1 a xs ∧ ∀ D, H1 D = none → goCF (fun H => SqL K H a xs) g tt te vs σ D Q (enumP 0 xs) (upd H1 D (.lst []))
def uLcZ (K : PySem.W.Frag) (ta tb : TE) (g : TG) (tt : TT) (te : TE) (vs : List Nat) : TE := fun σ H Q => ta σ H fun x H1 => tb σ H1 fun y H2 => ∃ a xs b ys, x = .ref a ∧ y = .ref b ∧ SqL K H2 a xs ∧ SqL K H2 b ys ∧ ∀ D, H2 D = none → goCF (fun H => SqL K H a xs ∧ SqL K H b ys) g tt te vs σ D Q (zipP xs ys) (upd H2 D (.lst []))
/-- a walk's rule and what it gives to a comprehension -/
structure LcI (X : Cx) (tg iter : Expr) (ts : TG → TT → TE → List Nat → TE) : Prop where
  ex : ∃ wi : TI, PI X tg iter wi ∧ ∀ g tt te vs σ H Q, ts g tt te vs σ H Q → ∃ R, wi σ H R ∧ ∀ J H', R J H' → CW J g tt te vs σ Q H'
  fs : ∀ x, foldedSetIterable iter X.env x = pure x
section
variable {X : Cx} {tg : Expr}
theorem li_seq {l : Expr} {tl : TE} (hl : PE X l tl) (hs : ∀ x, foldedSetIterable l X.env x = pure x := by intro _; rfl) : LcI X tg l (uLc X.K tl) := ⟨⟨_, pi_seq (PE.m hl), fun g tt te vs σ H Q h => ⟨fun J H' => CW J g tt te vs σ Q H', ⟨_, h, fun x H1 q => by
    rcases q with ⟨a, xs, e, hq, q⟩ | ⟨a, xs, e, hq, q⟩ | ⟨z, e, q⟩
    · exact .inl ⟨a, e, ⟨xs, hq⟩, cw_list q⟩
    · exact .inr (.inl ⟨a, e, ⟨xs, hq⟩, cw_tup q⟩)
    · exact .inr (.inr ⟨z, e, cw_str q⟩)⟩, fun _ _ z => z⟩⟩, hs⟩
theorem li_r1 {a : Expr} {ta : TE} {p p2 : Pos} (hgl : Gl X "range") (hm : X.mg "range" = none) (ha : PE X a ta) (hs1 : starEach [a] X.env = [(false, eval a X.env)] := by rfl) (hs : ∀ x, foldedSetIterable (.Call (.Name "range" p) [a] [] p2) X.env x = pure x := by intro _; rfl) :
    LcI X tg (.Call (.Name "range" p) [a] [] p2) (uLcR1 ta) := ⟨⟨_, pi_range1 hgl hm (pa_cons (PE.m ha) pa_nil hs1) hs1, fun g tt te vs σ H Q h => ⟨fun J H' => CW J g tt te vs σ Q H', ⟨_, h, fun x H1 ⟨j, e, q1, q2, q⟩ => ⟨j, by rw [e], q1, q2, cw_range q⟩⟩, fun _ _ z => z⟩⟩, hs⟩
theorem li_r2 {a b : Expr} {ta tb : TE} {p p2 : Pos} (hgl : Gl X "range") (hm : X.mg "range" = none) (ha : PE X a ta) (hb : PE X b tb)
    (hs0 : starEach [a, b] X.env = (false, eval a X.env) :: starEach [b] X.env := by rfl) (hs1 : starEach [a, b] X.env = [(false, eval a X.env), (false, eval b X.env)] := by rfl) (hs2 : starEach [b] X.env = [(false, eval b X.env)] := by rfl) (hs : ∀ x, foldedSetIterable (.Call (.Name "range" p) [a, b] [] p2) X.env x = pure x := by intro _; rfl) :
    LcI X tg (.Call (.Name "range" p) [a, b] [] p2) (uLcR2 ta tb) := ⟨⟨_, pi_range2 hgl hm (pa_cons (PE.m ha) (pa_cons (PE.m hb) pa_nil hs2) hs0) hs1 hs2, fun g tt te vs σ H Q h => ⟨fun J H' => CW J g tt te vs σ Q H', ⟨_, h, fun x H1 q0 => ⟨_, q0, fun y H2 ⟨i, j, e1, e2, q1, q⟩ => ⟨i, j, by rw [e1, e2], q1, cw_range q⟩⟩⟩, fun _ _ z => z⟩⟩, hs⟩
theorem li_e {a : Expr} {ta : TE} {elts : List Expr} {kk : Nat} {p p2 tpos : Pos} (hgl : Gl X "enumerate") (hm : X.mg "enumerate" = none) (ha : PE X a ta) (hs1 : starEach [a] X.env = [(false, eval a X.env)] := by rfl) (hs : ∀ x, foldedSetIterable (.Call (.Name "enumerate" p) [a] [] p2) X.env x = pure x := by intro _; rfl) :
    LcI X (.Tuple elts kk tpos) (.Call (.Name "enumerate" p) [a] [] p2) (uLcE X.K ta) := ⟨⟨_, pi_enum hgl hm (pa_cons (PE.m ha) pa_nil hs1) hs1, fun g tt te vs σ H Q h => ⟨fun J H' => CW J g tt te vs σ Q H', ⟨_, h, fun x H1 ⟨a, xs, e, hq, q⟩ => ⟨a, xs, by rw [e], hq, cw_enum q⟩⟩, fun _ _ z => z⟩⟩, hs⟩
theorem li_z {a b : Expr} {ta tb : TE} {elts : List Expr} {kk : Nat} {p p2 tpos : Pos} (hgl : Gl X "zip") (hm : X.mg "zip" = none) (ha : PE X a ta) (hb : PE X b tb)
    (hs1 : starEach [a, b] X.env = (false, eval a X.env) :: starEach [b] X.env := by rfl) (hs2 : starEach [b] X.env = [(false, eval b X.env)] := by rfl) (hpl : (backTo p2 (starEach [b] X.env)).any (·.1) = false := by rfl) (hs : ∀ x, foldedSetIterable (.Call (.Name "zip" p) [a, b] [] p2) X.env x = pure x := by intro _; rfl) :
    LcI X (.Tuple elts kk tpos) (.Call (.Name "zip" p) [a, b] [] p2) (uLcZ X.K ta tb) := ⟨⟨_, pi_zip hgl hm (pa_cons (PE.m ha) (pa_cons (PE.m hb) pa_nil hs2) hs1) hs1 hpl, fun g tt te vs σ H Q h => ⟨fun J H' => CW J g tt te vs σ Q H', ⟨_, h, fun x H1 q0 => ⟨_, q0, fun y H2 ⟨a, xs, b, ys, e1, e2, h1, h2, q⟩ => ⟨a, b, xs, ys, by rw [e1, e2], h1, h2, cw_zip q⟩⟩⟩, fun _ _ z => z⟩⟩, hs⟩
variable {iter elt : Expr} {ifs : List Expr} {scope : Scope} {own : List (Str × Nat)} {pos : Pos} {g : TG} {tt : TT} {te : TE} {ts : TG → TT → TE → List Nat → TE}
theorem pe_lcI {N : List Str} {sc : Scope} (hNe : X.N = N) (hse : X.env.scope = sc) (hc : X.calm = true) (hN : N.Nodup) (hi : LcI X tg iter ts) (ok : blkC N sc scope own = true)
    (hg : ∀ (s : Shared) (H : Hp) (C : Addr) (cl : List (Str × Addr)) (fp : List Addr), PG (X.blk s H scope (compEnvC scope cl C X.env) fp) tg g) (ht : ∀ (s : Shared) (H : Hp) (C : Addr) (cl : List (Str × Addr)) (fp : List Addr), PTs (X.blk s H scope (compEnvC scope cl C X.env) fp) ifs tt)
    (he : ∀ (s : Shared) (H : Hp) (C : Addr) (cl : List (Str × Addr)) (fp : List Addr), PE (X.blk s H scope (compEnvC scope cl C X.env) fp) elt te) :
    PE X (.ListComp elt [⟨tg, iter, ifs, 0⟩] scope pos) (ts g tt te (own.map (·.2))) := by
  subst hNe hse
  obtain ⟨⟨wi, hp, w⟩, fs⟩ := hi
  refine ⟨fun pins s σ H Q I h => ?_⟩
  have := pe_lc (wi := fun σ' H' R => σ' = σ ∧ H' = H ∧ R = fun J H1 => CW J g tt te (own.map (·.2)) σ Q H1) hc hN (PI.weak hp fun σ' H' R ⟨e1, e2, e3⟩ => by subst e1 e2 e3; exact w _ _ _ _ _ _ _ h) (blkOk_by ok) hg ht he fs (pos := pos)
  exact this.run pins s σ H Q I ⟨rfl, rfl, rfl⟩
theorem ps_lcI {i : Nat} {y : Str} {py spos : Pos} {N : List Str} {sc : Scope} (hNe : X.N = N) (hse : X.env.scope = sc) (hc : X.calm = true) (hN : N.Nodup) (hy : X.N[i]? = some y) (hyl : X.env.scope.names.lookup y = some .local)
    (hsw : swapsWith (.ListComp elt [⟨tg, iter, ifs, 0⟩] scope pos) (some (.Name y py)) spos.line X.env = pure true) (hi : LcI X tg iter ts) (ok : blkC N sc scope own = true)
    (hg : ∀ (s : Shared) (H : Hp) (C : Addr) (cl : List (Str × Addr)) (fp : List Addr), PG (X.blk s H scope (compEnvC scope cl C X.env) fp) tg g) (ht : ∀ (s : Shared) (H : Hp) (C : Addr) (cl : List (Str × Addr)) (fp : List Addr), PTs (X.blk s H scope (compEnvC scope cl C X.env) fp) ifs tt)
    (he : ∀ (s : Shared) (H : Hp) (C : Addr) (cl : List (Str × Addr)) (fp : List Addr), PE (X.blk s H scope (compEnvC scope cl C X.env) fp) elt te) :
    PS X (.Assign [.Name y py] (.ListComp elt [⟨tg, iter, ifs, 0⟩] scope pos) spos) (tAsg (ts g tt te (own.map (·.2))) (gName i)) := by
  subst hNe hse
  obtain ⟨⟨wi, hp, w⟩, fs⟩ := hi
  refine ⟨fun pins s σ H D I h => ?_⟩
  have := ps_setLc (wi := fun σ' H' R => σ' = σ ∧ H' = H ∧ R = fun J H1 => CW J g tt te (own.map (·.2)) σ (fun x H1 => gName i x σ H1 D.nx) H1) hc hN hy hyl hsw (PI.weak hp fun σ' H' R ⟨e1, e2, e3⟩ => by subst e1 e2 e3; exact w _ _ _ _ _ _ _ h) (blkOk_by ok) hg ht he fs
  exact this.run pins s σ H D I ⟨rfl, rfl, rfl⟩
end

end PP

set_option Elab.async false
set_option linter.all false
set_option maxRecDepth 100000
set_option maxHeartbeats 2000000
namespace PP
open PySem PySem.Spec PyProof.Rows L2
/-! ### operators, whatever the values are -/
/-- a text, n times -/
def strRep (z : Str) (n : Nat) : Str := ⟨(List.replicate n z.cps.toList).flatten.toArray⟩
theorem strRep_length (z : Str) (n : Nat) : (strRep z n).length = z.length * n := by
  unfold strRep Str.length
  simp [Nat.mul_comm]
theorem foldl_cps (c : Array Nat) : ∀ (n : Nat) (acc : Array Nat), (List.replicate n c).foldl (· ++ ·) acc = acc ++ (List.replicate n c.toList).flatten.toArray
  | 0, acc => by simp
  | n + 1, acc => by
    rw [List.replicate_succ, List.foldl_cons, foldl_cps c n, List.replicate_succ, List.flatten_cons, Array.append_assoc]
    apply congrArg
    rw [← Array.toList_inj]
    simp
theorem sizeLine_num : (sizeLine : Nat) = 16777216 := sizeLine_eq
section
variable {X : Cx}
/-- a text times an int -/
def rMulS : R2 := fun x y H Q => ∃ (z : Str) (n : Int), x = V.str z ∧ y = V.int n ∧ -1000000 ≤ n ∧ n ≤ 1000000 ∧ z.length * n.toNat ≤ sizeLine ∧ Q (V.str (strRep z n.toNat)) H
theorem op_mulS : OpR X (binaryOp .Mult) rMulS := by
  intro pins s σ H x y v u Q I rx ry h
  obtain ⟨z, n, rfl, rfl, h1, h2, hz, q⟩ := h
  obtain ⟨t, rfl⟩ := rx
  obtain ⟨t', rfl⟩ := ry
  have hs := sizeLine_num
  refine PySem.P.mul_str ?_ (fun a b => ?_) (fun a b => ?_) ?_
  · have e1 : ¬ n < -(2 ^ 63 : Int) := by omega
    have e2 : ¬ n ≥ 2 ^ 63 := by omega
    rw [decide_eq_false e1, decide_eq_false e2]; rfl
  · have hn : 1 ≤ n.toNat := by omega
    have hl : z.length ≤ z.length * n.toNat := Nat.le_mul_of_pos_right _ hn
    have h3 : (16777216 : Int) ≤ (2 ^ 63 - 1) / n := by
      refine Int.le_ediv_of_mul_le (by omega) ?_
      have : (16777216 : Int) * n ≤ 16777216 * 1000000 := Int.mul_le_mul_of_nonneg_left h2 (by decide)
      exact Int.le_trans this (by decide)
    omega
  · unfold Builtin.Str.tooLong
    exact decide_eq_false (by omega)
  · have ev : ∀ k, EP X pins σ Q (.str (strRep z n.toNat) k) { s with toks := s.toks + 1 } := fun k => ⟨.str _, H, I.tok _, ⟨_, rfl⟩, q⟩
    by_cases c : n < 1
    · rw [if_pos c]
      refine ⟨by decide, ?_⟩
      have e : strRep z n.toNat = Str.empty := by
        have : n.toNat = 0 := by omega
        unfold strRep
        rw [this]; rfl
      have := ev s.toks
      rw [e] at this
      exact this
    · rw [if_neg c]
      by_cases d : (n == 1 || z.length == 0) = true
      · rw [if_pos d]
        have e : strRep z n.toNat = z := by
          unfold strRep
          rcases (Bool.or_eq_true _ _).mp d with d | d
          · have : n.toNat = 1 := by have := beq_iff_eq.mp d; omega
            rw [this]; simp
          · have h0 : z.cps.size = 0 := beq_iff_eq.mp d
            have hz' : z.cps = #[] := Array.eq_empty_of_size_eq_zero h0
            obtain ⟨c⟩ := z
            simp only at hz'
            subst hz'
            simp
        exact ⟨.str z, H, I, ⟨t, rfl⟩, by rw [← e]; exact q⟩
      · rw [if_neg d]
        have e : (List.replicate n.toNat z.cps).foldl (· ++ ·) #[] = (List.replicate n.toNat z.cps.toList).flatten.toArray := by
          rw [foldl_cps]; simp
        rw [e]
        refine ⟨?_, ev s.toks⟩
        have := strRep_length z n.toNat
        unfold strRep at this
        omega
/-- a list and a list (the script, too) -/
def rCatL (K : PySem.W.Frag) : R2 := fun x y H Q => ∃ l b xs zs, x = V.ref l ∧ y = V.ref b ∧ SqL K H l xs ∧ SqL K H b zs ∧ xs.length + zs.length ≤ sizeLine ∧ ∀ p, H p = none → Q (V.ref p) (upd H p (.lst (xs ++ zs)))
theorem op_catL : OpR X (binaryOp .Add) (rCatL X.K) := by
  intro pins s σ H x y v u Q I rx ry h
  obtain ⟨l, b, xs, zs, rfl, rfl, hH, hB, hz, q⟩ := h
  cases rx
  cases ry
  obtain ⟨its, r, ⟨⟨oc, od, dt, sl⟩, n, e, hc, hd, hs⟩, z⟩ := I.list hH
  obtain ⟨its2, r2, ⟨⟨oc2, od2, dt2, sl2⟩, n2, e2, hc2, hd2, hs2⟩, z2⟩ := I.list hB
  simp only at hc hd hs hc2 hd2 hs2
  subst hc hd hs hc2 hd2 hs2
  have hl := r.length
  have hl2 := r2.length
  have ea : its.toArray ++ its2.toArray = (its ++ its2).toArray := by simp
  refine concat_meets ⟨_, e, rfl⟩ ⟨_, e2, rfl⟩ noFill_list_add seq_list_add PySem.F.slot_list_add PySem.F.entry_list_add (PySem.F.args_list_add_2 _ _) (list_addW l b its.toArray its2.toArray n n2 none none sl sl2 (by simp only [List.size_toArray]; omega)) ⟨e, e2, ?_⟩
  rw [ea]
  exact ⟨.ref _, _, I.lnew (t' := s.toks) (r.append r2) (by rw [List.length_append]; omega), rfl, q _ I.fresh⟩
def rAddI : R2 := rI0 fun i j => .int (i + j)
def rAddS : R2 := fun x y H Q => ∃ i j, x = V.str i ∧ y = V.str j ∧ i.length + j.length ≤ sizeLine ∧ Q (V.str (i ++ j)) H
def uAdd (K : PySem.W.Frag) : R2 := fun x y H Q => rAddI x y H Q ∨ rAddS x y H Q ∨ rCatL K x y H Q ∨ rCatA K x y H Q
theorem op_uAdd : OpR X (binaryOp .Add) (uAdd X.K) := op_add.or (op_add_str.or (op_catL.or op_catA))
def uSub : R2 := rI0 fun i j => .int (i - j)
theorem op_uSub : OpR X (binaryOp .Sub) uSub := op_sub
def rMulI : R2 := rI CMul fun i j => .int (i * j)
def uMul (K : PySem.W.Frag) : R2 := fun x y H Q => rMulI x y H Q ∨ rMulS x y H Q ∨ rRep x y H Q ∨ rRepT K x y H Q
theorem op_uMul : OpR X (binaryOp .Mult) (uMul X.K) := op_mul.or (op_mulS.or (op_rep.or op_repT))
def uFdiv : R2 := rI CDiv fun i j => .int (i / j)
theorem op_uFdiv : OpR X (binaryOp .FloorDiv) uFdiv := op_fdiv
def uMod : R2 := rI (fun _ j => 0 < j) fun i j => .int (i % j)
theorem op_uMod : OpR X (binaryOp .Mod) uMod := op_mod
def uPow : R2 := rI CPow fun i j => .int (i ^ j.toNat)
theorem op_uPow : OpR X (binaryOp .Pow) uPow := op_pow
/-- == of plain values and of data -/
def uEq (K : PySem.W.Frag) : R2 := fun x y H Q => rEq x y H Q ∨ rEqD K x y H Q
theorem op_uEq (hu : X.A.units + 64 < cLine) : OpR X (compareOp .Eq) (uEq X.K) := op_eq.or (op_eqD hu)
def uNe (K : PySem.W.Frag) : R2 := fun x y H Q => rNe x y H Q ∨ rNeD K x y H Q
theorem op_uNe (hu : X.A.units + 64 < cLine) : OpR X (compareOp .NotEq) (uNe X.K) := op_ne.or (op_neD hu)
def uLt : R2 := fun x y H Q => rI0 (fun i j => .bl (decide (i < j))) x y H Q ∨ ∃ i j, x = V.str i ∧ y = V.str j ∧ Q (.bl (decide (i.cps.toList < j.cps.toList))) H
theorem op_uLt : OpR X (compareOp .Lt) uLt := op_lt.or op_lt_str
def uLe : R2 := fun x y H Q => rI0 (fun i j => .bl (decide (i ≤ j))) x y H Q ∨ ∃ i j, x = V.str i ∧ y = V.str j ∧ Q (.bl (!decide (j.cps.toList < i.cps.toList))) H
theorem op_uLe : OpR X (compareOp .LtE) uLe := op_le.or op_le_str
def uGt : R2 := fun x y H Q => rI0 (fun i j => .bl (decide (j < i))) x y H Q ∨ ∃ i j, x = V.str i ∧ y = V.str j ∧ Q (.bl (decide (j.cps.toList < i.cps.toList))) H
theorem op_uGt : OpR X (compareOp .Gt) uGt := op_gt.or op_gt_str
def uGe : R2 := fun x y H Q => rI0 (fun i j => .bl (decide (j ≤ i))) x y H Q ∨ ∃ i j, x = V.str i ∧ y = V.str j ∧ Q (.bl (!decide (i.cps.toList < j.cps.toList))) H
theorem op_uGe : OpR X (compareOp .GtE) uGe := op_ge.or op_ge_str
def rInSign : R2 := fun x y H Q => ∃ (c : Nat) (z : Str), x = V.str ⟨#[c]⟩ ∧ y = V.str z ∧ Q (.bl (decide (c ∈ z.cps.toList))) H
def rNotInSign : R2 := fun x y H Q => ∃ (c : Nat) (z : Str), x = V.str ⟨#[c]⟩ ∧ y = V.str z ∧ Q (.bl (!decide (c ∈ z.cps.toList))) H
/-- in: one sign in a text, a flat value in a list or tuple of such, data in a list of data -/
def uIn (K : PySem.W.Frag) : R2 := fun x y H Q => rInSign x y H Q ∨ rIn K false x y H Q ∨ rInD K x y H Q
theorem op_uIn (hu : X.A.units + 65 < cLine) : OpR X (compareOp .In) (uIn X.K) := op_in_sign.or (op_in_seq.or (op_inD hu))
def uNotIn (K : PySem.W.Frag) : R2 := fun x y H Q => rNotInSign x y H Q ∨ rIn K true x y H Q ∨ rNotInD K x y H Q
theorem op_uNotIn (hu : X.A.units + 65 < cLine) : OpR X (compareOp .NotIn) (uNotIn X.K) := op_notIn_sign.or (op_notIn_seq.or (op_notInD hu))
def uIsN : R2 := fun x y H Q => y = V.non ∧ Q (.bl (decide (x = .non))) H
def uNotN : R2 := fun x y H Q => y = V.non ∧ Q (.bl (!decide (x = .non))) H
def uIs : R2 := fun x y H Q => uIsN x y H Q ∨ ∃ a b, x = V.bl a ∧ y = V.bl b ∧ Q (.bl (decide (a = b))) H
theorem op_uIs : OpR X (compareOp .Is) uIs := op_isN.or op_is_bl
def uIsNot : R2 := fun x y H Q => uNotN x y H Q ∨ ∃ a b, x = V.bl a ∧ y = V.bl b ∧ Q (.bl (!decide (a = b))) H
theorem op_uIsNot : OpR X (compareOp .IsNot) uIsNot := op_notN.or op_isnot_bl
/-- o[i] of a list, a tuple, a text -/
def uIx (K : PySem.W.Frag) : R2 := rIx K
theorem ix_u : IxR X (uIx X.K) := ix_seq
/-- o[i:j] of a list, a tuple, a text -/
def rSlS : V → Option Int → Option Int → Hp → VK → Prop := fun x lo hi H Q => ∃ z, x = V.str z ∧ z.length ≤ sizeLine ∧ Q (.str (cutS z lo hi)) H
def uSl (K : PySem.W.Frag) : V → Option Int → Option Int → Hp → VK → Prop := fun x lo hi H Q => rSlL K x lo hi H Q ∨ rSlA K x lo hi H Q ∨ rSlS x lo hi H Q
end
end PP

set_option Elab.async false
set_option linter.all false
set_option maxRecDepth 100000
set_option maxHeartbeats 2000000
namespace PP
open PySem PySem.Spec PyProof.Rows L2
/-! ### what is handed in at a call -/
section
variable {X : Cx} {n m : Nat} {e : Expr} {es : List Expr} {kws : List Keyword} {te : TE} {t tk : TA} {pos kpos : Pos} {nm : Option Str} {ks : List Str}
structure PAL (X : Cx) (es : List Expr) (t : TA) (n : Nat) : Prop where
  run : ∀ (pos : Pos) (pins : List (Addr × Obj)) (s : Shared) (σ : SS) (H : Hp) (Q : List V → Hp → Prop), Inv X pins σ H s → t σ H Q → wpAny (model X.prog X.w) X.A (spliced (backTo pos (starEach es X.env))) (AP X pins σ fun vs H1 => vs.length = n ∧ Q vs H1) X.xe s
theorem pl_nil : PAL X [] tNil 0 := ⟨fun _ _ _ _ H Q I h => Calls.spliced_nil ⟨[], H, I, .nil, rfl, h⟩⟩
theorem pl_cons (ha : PE X e te) (hr : PAL X es t n) (hs : starEach (e :: es) X.env = (false, eval e X.env) :: starEach es X.env := by rfl) : PAL X (e :: es) (tCons te t) (n + 1) := by
  refine ⟨fun pos pins s σ H Q I h => ?_⟩
  rw [hs]
  show wpAny _ _ (spliced ((false, eval e X.env) :: backTo pos (starEach es X.env))) _ _ s
  refine Calls.spliced_cons (thn (ha.run pins s σ H _ I h) fun u s1 ⟨x, H1, I1, r1, q1⟩ => ?_)
  exact thn (hr.run pos pins s1 σ H1 _ I1 q1) fun us s2 ⟨xs, H2, I2, r2, l, q2⟩ => ⟨x :: xs, H2, I2, .cons r1 r2, congrArg Nat.succ l, q2⟩
theorem PAL.pa (h : PAL X es t n) : PA X es t := ⟨fun pos pins s σ H Q I q => thn (h.run pos pins s σ H Q I q) fun us s' ⟨vs, H1, J, r, l, z⟩ => ⟨vs, H1, J, r, z⟩⟩
structure PKL (X : Cx) (kws : List Keyword) (t : TA) (n : Nat) : Prop where
  run : ∀ (pos : Pos) (pins : List (Addr × Obj)) (s : Shared) (σ : SS) (H : Hp) (Q : List V → Hp → Prop), Inv X pins σ H s → t σ H Q → wpAny (model X.prog X.w) X.A (evalAll ((backToKw pos (keywordEach kws X.env)).map (·.2))) (AP X pins σ fun vs H1 => vs.length = n ∧ Q vs H1) X.xe s
theorem kl_nil : PKL X [] tNil 0 := ⟨fun _ _ _ _ H Q I h => wpAny_evalAll_nil ⟨[], H, I, .nil, rfl, h⟩⟩
theorem kl_cons (ha : PE X e te) (hr : PKL X kws t n) : PKL X (⟨nm, e, kpos⟩ :: kws) (tCons te t) (n + 1) := by
  refine ⟨fun pos pins s σ H Q I h => ?_⟩
  show wpAny _ _ (evalAll ((do let v ← eval e X.env; standAt pos; pure v) :: (backToKw pos (keywordEach kws X.env)).map (·.2))) _ _ s
  refine wpAny_evalAll_cons (wpAny_bind (thn (ha.run pins s σ H _ I h) fun u s1 ⟨x, H1, I1, r1, q1⟩ => wpAny_bind (wpAny_standAt (wpAny_pure ?_))))
  exact thn (hr.run pos pins s1 σ H1 _ I1 q1) fun us s2 ⟨xs, H2, I2, r2, l, q2⟩ => ⟨x :: xs, H2, I2, .cons r1 r2, congrArg Nat.succ l, q2⟩
/-- all that is handed in at a call: n values, then keywords named ks -/
structure AR (X : Cx) (pos : Pos) (es : List Expr) (kws : List Keyword) (t tk : TA) (n : Nat) (ks : List Str) : Prop where
  run : ∀ (pins : List (Addr × Obj)) (s : Shared) (σ : SS) (H : Hp) (Q : List V → List V → Hp → Prop) (f : Value) (first : List Value) (R : Value → Shared → Prop) (E : Value → Shared → Prop), PySem.W.keepIn X.K f = true → Inv X pins σ H s → t σ H (fun vs H1 => tk σ H1 fun zs H2 => Q vs zs H2) → E = X.xe →
    (∀ us ws s' vs zs H', Inv X pins σ H' s' → Vals vs us → Vals zs ws → vs.length = n → zs.length = ks.length → Q vs zs H' → wpAny (model X.prog X.w) X.A (call f (first ++ us) (ks.zip ws)) R E s') →
    wpAny (model X.prog X.w) X.A (callWith pos f first (backTo pos (starEach es X.env)) (backToKw pos (keywordEach kws X.env))) R E s
theorem ar_pos (ha : PAL X (e :: es) t n) (he : starEach (e :: es) X.env = (false, eval e X.env) :: starEach es X.env := by rfl) (hpl : (backTo pos (starEach es X.env)).any (·.1) = false := by rfl) : AR X pos (e :: es) [] t tNil n [] := by
  refine ⟨fun pins s σ H Q f first R E hk I h eE hq => ?_⟩
  subst eE
  refine PySem.W.callWith_K (h₀ := X.base) I.ok.mod.kin hk (thn (ha.run pos pins s σ H _ I h) fun us s1 ⟨vs, H1, I1, r, l, q⟩ => ⟨I1.kIn, ?_⟩) he hpl
  exact hq us [] s1 vs [] H1 I1 r .nil l rfl q
theorem ar_nil : AR X pos [] [] tNil tNil 0 [] := by
  refine ⟨fun pins s σ H Q f first R E hk I h eE hq => ?_⟩
  subst eE
  exact PySem.W.callWith_K0 I.kIn hk (hq [] [] s [] [] H I .nil .nil rfl rfl h)
theorem ar_both (ha : PAL X (e :: es) t n) (hkw : PKL X kws tk ks.length) (hall : (backToKw pos (keywordEach kws X.env)).all (·.1.isSome) = true := by rfl) (hks : (backToKw pos (keywordEach kws X.env)).filterMap (·.1) = ks := by rfl)
    (he : starEach (e :: es) X.env = (false, eval e X.env) :: starEach es X.env := by rfl)
    (hpl : ((backTo pos (starEach (e :: es) X.env)).any (·.1) || (backToKw pos (keywordEach kws X.env)).any (·.1.isNone)) = false := by rfl) : AR X pos (e :: es) kws t tk n ks := by
  refine ⟨fun pins s σ H Q f first R E hk I h eE hq => ?_⟩
  subst eE
  refine PySem.W.callWith_KW (h₀ := X.base) I.ok.mod.kin hk hall (thn (ha.run pos pins s σ H _ I h) fun us s1 ⟨vs, H1, I1, r, l, q⟩ => ?_) hpl he
  refine thn (hkw.run pos pins s1 σ H1 _ I1 q) fun ws s2 ⟨zs, H2, I2, rz, l2, q2⟩ => ⟨I2.kIn, ?_⟩
  rw [hks]
  exact hq us ws s2 vs zs H2 I2 r rz l l2 q2
theorem ar_kw (hkw : PKL X kws tk ks.length) (hall : (backToKw pos (keywordEach kws X.env)).all (·.1.isSome) = true := by rfl) (hks : (backToKw pos (keywordEach kws X.env)).filterMap (·.1) = ks := by rfl)
    (hpl : ((backTo pos (starEach [] X.env)).any (·.1) || (backToKw pos (keywordEach kws X.env)).any (·.1.isNone)) = false := by rfl) : AR X pos [] kws tNil tk 0 ks := by
  refine ⟨fun pins s σ H Q f first R E hk I h eE hq => ?_⟩
  subst eE
  refine PySem.W.callWith_KW0 (h₀ := X.base) I.ok.mod.kin hk hall (thn (hkw.run pos pins s σ H _ I h) fun ws s2 ⟨zs, H2, I2, rz, l2, q2⟩ => ⟨I2.kIn, ?_⟩) hpl
  rw [hks]
  exact hq [] ws s2 [] zs H2 I2 .nil rz rfl l2 q2
end
/-! ### calls of own defs: whatever is raised goes to the wish W -/
def uCall (sp : Sp) (gV : List V → List V → List V) (W : WX) (t tk : TA) : TE := fun σ H Q => t σ H fun vs H1 => tk σ H1 fun zs H2 => sp (gV vs zs) H2 Q (WE W σ)
def uMeth (C : Addr) (m : Str) (sp : Sp) (gV : List V → List V → List V) (W : WX) (ta : TE) (t tk : TA) : TE := fun σ H Q => ta σ H fun x H1 => ∃ a dx fs, x = V.ref a ∧ H1 a = some (.ins C dx fs) ∧ fs.lookup m = none ∧
  t σ H1 fun vs H2 => tk σ H2 fun zs H3 => sp (gV (V.ref a :: vs) zs) H3 Q (WE W σ)
/-- C(..): a new instance and its dict, then __init__ -/
def uMake (C : Addr) (sp : Sp) (gV : List V → List V → List V) (W : WX) (t tk : TA) : TE := fun σ H Q => t σ H fun vs H1 => tk σ H1 fun zs H2 => ∀ x dx, H2 x = none → H2 dx = none → dx ≠ x →
  sp (gV (V.ref x :: vs) zs) (upd (upd H2 dx (.own x)) x (.ins C dx [])) (fun v H3 => v = .non ∧ Q (V.ref x) H3) (WE W σ)
section
variable {X : Cx} {k n : Nat} {f C : Addr} {fd : FuncData} {ps ks : List Str} {sp : Sp} {W : WX} {x m : Str} {p pos apos : Pos} {o : Expr} {es : List Expr} {kws : List Keyword} {ta : TE} {t tk : TA} {g : List Value → List Value → List Value} {gV : List V → List V → List V}
theorem run_fnG {pins : List (Addr × Obj)} {σ : SS} {H : Hp} {s : Shared} {Q : VK} {us ws : List Value} {vs zs : List V} (F : FnOk X.prog X.w X.K X.mg X.base (L2.CX X.prog X.w) k f fd ps sp) (hr : Room k X.A) (hb : KBn X.K fd ps n ks g gV) (tk : Takes X W)
    (I : Inv X pins σ H s) (r : Vals vs us) (rz : Vals zs ws) (l1 : vs.length = n) (l2 : zs.length = ks.length) (h : sp (gV vs zs) H Q (WE W σ)) : wpAny (model X.prog X.w) X.A (call (.ref f) us (ks.zip ws)) (EP X pins σ Q) X.xe s := by
  have r2 := hb.rel r rz
  refine wpAny_call (codeAny_mono (F.run X.A X.stack s H ⟨us, ks.zip ws⟩ (g us ws) (gV vs zs) Q (WE W σ) hr I.env0 (hb.to s us ws I.kIn (r.length.symm.trans l1) (rz.length.symm.trans l2)) r2 h) fun r s' hq => ?_)
  cases r with
  | error e => exact passAt tk σ pins H s e s' I hq
  | ok fl =>
    cases fl with
    | ret u => exact I.after hq
    | next => exact False.elim hq
    | brk => exact False.elim hq
    | cont => exact False.elim hq
theorem pe_uCall (F : FnOk X.prog X.w X.K X.mg X.base (L2.CX X.prog X.w) k f fd ps sp) (hr : Room k X.A) (hg : Gl X x) (hm : X.mg x = some (.ref f)) (hk : PySem.W.keepIn X.K (.ref f) = true) (hb : KBn X.K fd ps n ks g gV) (tk' : Takes X W)
    (ha : AR X pos es kws t tk n ks) (hdb : (x == ("__debug__" : Str)) = false := by decide) : PE X (.Call (.Name x p) es kws pos) (uCall sp gV W t tk) := by
  refine ⟨fun pins s σ H Q I h => ?_⟩
  refine wpAny_Call_Name_kw (ld_glob I hg hm ?_ hdb)
  exact ha.run pins s σ H _ (.ref f) [] _ _ hk I h rfl fun us ws s' vs zs H' J r rz l l2 q => run_fnG F hr hb tk' J r rz l l2 q
theorem pe_uMeth {pl : Sem Bool} (he : PE X o ta) (c : Cls X.K C) (hm : Meth X.K C m f) (F : FnOk X.prog X.w X.K X.mg X.base (L2.CX X.prog X.w) k f fd ps sp) (hr : Room k X.A) (hb : KBn X.K fd ps (n + 1) ks g gV) (tk' : Takes X W)
    (ha : AR X pos es kws t tk n ks)
    (ht : eval (.Call (.Attribute o m apos) es kws pos) X.env = (do
      let ov ← eval o X.env
      standAt apos.atName
      let (f, first) ← holding [ov] (getMethod ov m pl)
      callWith pos f first (backTo pos (starEach es X.env)) (backToKw pos (keywordEach kws X.env))) := by rfl) : PE X (.Call (.Attribute o m apos) es kws pos) (uMeth C m sp gV W ta t tk) := by
  refine ⟨fun pins s σ H Q I h => ?_⟩
  refine PySem.W.methodCall_KW (pl := pl) (thn (he.run pins s σ H _ I h) fun u s1 ⟨x, H1, I1, rx, a, dx, fs, ex, ea, l, q⟩ => ?_) ht
  subst ex
  obtain rfl : u = Value.ref a := rx
  refine getmeth_ok I1 ea c hm l ?_
  exact ha.run pins s1 σ H1 _ (.ref f) [.ref a] _ _ hm.kp I1 q rfl fun us ws s' vs zs H' J r rz l l2 q => run_fnG (us := .ref a :: us) (vs := V.ref a :: vs) F hr hb tk' J (.cons rfl r) rz (congrArg Nat.succ l) l2 q
theorem pe_uMake (M : Mk X.K C f) (F : FnOk X.prog X.w X.K X.mg X.base (L2.CX X.prog X.w) k f fd ps sp) (hr : Room (k + 1) X.A) (hg : Gl X x) (hm : X.mg x = some (.ref C)) (hb : KBn X.K fd ps (n + 1) ks g gV) (tk' : Takes X W)
    (ha : AR X pos es kws t tk n ks) (hdb : (x == ("__debug__" : Str)) = false := by decide) : PE X (.Call (.Name x p) es kws pos) (uMake C sp gV W t tk) := by
  refine ⟨fun pins s σ H Q I h => ?_⟩
  refine wpAny_Call_Name_kw (ld_glob I hg hm ?_ hdb)
  refine ha.run pins s σ H _ (.ref C) [] _ _ M.kp I h rfl fun us ws s1 vs zs H1 J r rz l l2 q => ?_
  have hq := q (s1.heap.objs.size + 1) s1.heap.objs.size (J.hok.fresh (Nat.le_succ _)) (J.hok.fresh (Nat.le_refl _)) (Nat.ne_of_lt (Nat.lt_succ_self _))
  have I2 := Inv.made (C := C) J
  have r1 : Vals (V.ref (s1.heap.objs.size + 1) :: vs) (Value.ref (s1.heap.objs.size + 1) :: us) := .cons rfl r
  have r2 := hb.rel r1 rz
  have e1 : (Value.ref (s1.heap.objs.size + 1) :: us).length = n + 1 := r1.length.symm.trans (congrArg Nat.succ l)
  have e2 : ws.length = ks.length := rz.length.symm.trans l2
  refine wpAny_call (make_map (f := f) J.kIn M.makes M.init (beq_iff_eq.mp M.fn) (codeAny_mono (F.run _ X.stack _ _ ⟨Value.ref (s1.heap.objs.size + 1) :: us, ks.zip ws⟩ (g (Value.ref (s1.heap.objs.size + 1) :: us) ws) _ _ (WE W σ) (hr.make C us (ks.zip ws))
    (I2.env0.make C us (ks.zip ws)) (hb.to _ (Value.ref (s1.heap.objs.size + 1) :: us) ws I2.kIn e1 e2) r2 hq) fun r s' hq' => ?_))
  cases r with
  | error e => exact passAt tk' σ pins _ _ e s' I2 hq'
  | ok fl =>
    cases fl with
    | ret u =>
      obtain ⟨v, H', I3, rv, ev, q3⟩ := I2.after hq'
      subst ev
      exact ⟨rv, ⟨V.ref (s1.heap.objs.size + 1), H', I3, rfl, q3⟩⟩
    | next => exact False.elim hq'
    | brk => exact False.elim hq'
    | cont => exact False.elim hq'
end
/-! ### how values come to parameters -/
section
variable {K : PySem.W.Frag} {x qual : Str} {params : Arguments} {body : List Stmt} {scope : Scope} {dvs : List V} {kws : List (Str × V)} {f : Addr} {fd : FuncData} {ps : List Str}
/-- by place alone, all of them (no defaults) -/
theorem FunD.kbA (F : FunD K x qual params body scope [] kws f fd) (n : Nat)
    (h : ∀ (kV doc pm : Value) (an : Option Addr) (cdv ct : Value) (us : List Value), us.length = n → bindArgs (PySem.W.fnOf x qual params body scope .none kV doc pm an cdv ct) ⟨us, []⟩ = pure (ps.zip us)) : KBn K fd ps n [] (fun us _ => us) (fun vs _ => vs) := by
  obtain ⟨oc, od, dV, kV, doc, pm, an, cdv, ct, osl, rfl, lk, hcd, ⟨_, rfl⟩ | ⟨hD, _⟩, hK⟩ := F.ex
  · refine ⟨fun s us ws X l1 l2 => ?_, fun r _ => r⟩
    have e : ([] : List Str).zip ws = [] := by simp
    rw [e]
    exact .of_eq (h kV doc pm an cdv ct us l1)
  · exact absurd rfl hD
/-- some by name, none left out (no defaults) -/
theorem FunD.kbK (F : FunD K x qual params body scope [] kws f fd) (n : Nat) (ks : List Str) (g : {α : Type} → List α → List α → List α)
    (hrel : ∀ {vs zs : List V} {us ws : List Value}, Vals vs us → Vals zs ws → Vals (g vs zs) (g us ws))
    (h : ∀ (kV doc pm : Value) (an : Option Addr) (cdv ct : Value) (us ws : List Value), us.length = n → ws.length = ks.length → bindArgs (PySem.W.fnOf x qual params body scope .none kV doc pm an cdv ct) ⟨us, ks.zip ws⟩ = pure (ps.zip (g us ws))) : KBn K fd ps n ks (fun us ws => g us ws) (fun vs zs => g vs zs) := by
  obtain ⟨oc, od, dV, kV, doc, pm, an, cdv, ct, osl, rfl, lk, hcd, ⟨_, rfl⟩ | ⟨hD, _⟩, hK⟩ := F.ex
  · exact ⟨fun s us ws X l1 l2 => .of_eq (h kV doc pm an cdv ct us ws l1 l2), fun r r' => hrel r r'⟩
  · exact absurd rfl hD
end
end PP

set_option Elab.async false
set_option linter.all false
set_option maxRecDepth 100000
set_option maxHeartbeats 2000000
namespace PP
open PySem PySem.W PySem.Calls PyProof.Rows
section
variable {M : Model} {K : Frag}
theorem forIn_walk {α : Type} {A : Around} {E : Value → Shared → Prop} {s : Shared} {β : Type} (f : α → β → Sem (ForInStep β)) (b : β) : ∀ (l : List α) {Q : β → Shared → Prop}, (∀ c ∈ l, ∀ Q' : ForInStep β → Shared → Prop, Q' (.yield b) s → wpAny M A (f c b) Q' E s) → Q b s → wpAny M A (forIn l b f) Q E s
  | [], Q, _, q => by rw [List.forIn_nil]; exact wpAny_pure q
  | c :: l, Q, h, q => by
    rw [List.forIn_cons]
    exact wpAny_bind (h c (List.mem_cons_self ..) _ (forIn_walk f b l (fun c' hc => h c' (List.mem_cons_of_mem _ hc)) q))
theorem exm_each {h : Heap} {cls : Value} (X : K.In h) : ∀ {cs : List Value} {b : Bool}, exmAny K cls cs = some b → ∀ c ∈ cs, ∃ v, exmOne K cls c = some v
  | [], _, _, _, hc => by cases hc
  | c :: cs, b, hx, c', hc => by
    obtain ⟨b1, d1, x1, y1, z1⟩ := exmAny_cons hx
    rcases List.mem_cons.mp hc with rfl | hc
    · exact ⟨b1, x1⟩
    · exact exm_each X y1 c' hc
theorem exm_tup {cs : List Value} {cls : Value} {tp e : Addr} {b : Bool} {h : Heap} (X : K.In h) (LT : Looks M h (typeOf (.ref e)) cls) (hp : h.get? tp = some { cls := .type "tuple", data := .seq cs.toArray }) (hx : exmAny K cls cs = some b) :
    Looks M h (excMatches (.ref e) (.ref tp)) b := by
  intro A Q E s k₀ q
  obtain ⟨hh, g, d, tk, os⟩ := s
  have k : ∀ b o, h.get? b = some o → hh.get? b = some o := k₀
  have LT0 : Looks M h (isInstance (.ref tp) (.type "tuple")) true := ((Looks.ld hp).andThen .now).andThen (Looks.of_pure isSubtype_tuple_tuple)
  have hp' := k _ _ hp
  unfold excMatches
  refine wpAny_bind ((LT0.keeps k).at ?_)
  dsimp only
  rw [if_pos rfl]
  have main : wpAny M A (do
      for c in cs do
        if !(← isExcClass c) then
          rule "try.except-non-exception-class"
          raiseError "TypeError" "catching classes that do not inherit from BaseException is not allowed"
      let te ← typeOf (.ref e)
      for c in cs do
        if ← isSubtype te c then return true
      return false) Q E ⟨hh, g, d, tk, os⟩ := by
    refine wpAny_bind (forIn_walk _ _ cs (fun c hc Q' q' => ?_) ?_)
    · obtain ⟨v, hv⟩ := exm_each X hx c hc
      have e1 := (exm_cls (M := M) X hv).1.keeps k
      refine wpAny_bind (e1.at ?_)
      simp only [Bool.not_true, Bool.false_eq_true, if_false]
      exact wpAny_pure q'
    · refine wpAny_bind ((LT.keeps k).at ?_)
      have loop : ∀ (l : List Value) (r : Bool), exmAny K cls l = some r → ∀ (R : Option Bool × PUnit → Shared → Prop), R (if r then some true else none, ⟨⟩) ⟨hh, g, d, tk, os⟩ →
          wpAny M A (forIn l ((none, ⟨⟩) : Option Bool × PUnit) fun c r => do
            if ← isSubtype cls c then return ForInStep.done (some true, ⟨⟩) else return ForInStep.yield (none, ⟨⟩)) R E ⟨hh, g, d, tk, os⟩ := by
        intro l
        induction l with
        | nil =>
          intro r hr R hR
          cases hr
          rw [List.forIn_nil]
          exact wpAny_pure hR
        | cons c l ih =>
          intro r hr R hR
          obtain ⟨b1, d1, x1, y1, z1⟩ := exmAny_cons hr
          rw [List.forIn_cons]
          refine wpAny_bind (wpAny_bind (((exm_cls (M := M) X x1).2.keeps k).at ?_))
          subst z1
          cases b1 with
          | true => exact wpAny_pure (wpAny_pure hR)
          | false => exact wpAny_pure (ih d1 y1 R hR)
      refine wpAny_bind (loop cs b hx _ ?_)
      cases b <;> exact wpAny_pure q
  first
    | exact wpAny_bind (wpAny_seqItems hp' rfl main)
    | exact wpAny_bind (wpAny_bind (wpAny_seqItems hp' rfl (wpAny_pure main)))
end
end PP
namespace PP
open PySem PySem.Spec PyProof.Rows L2
section
variable {X : Cx} {pins : List (Addr × Obj)} {σ : SS} {H : Hp} {s : Shared}
/-- an object that stands already is tracked from now on -/
theorem inv_track {a : Addr} {o : HO} (I : Inv X pins σ H s) (na : H a = none) (h0 : X.s_0.heap.get? a = none) (nL : X.env.locals ≠ a) (nC : ∀ x c, X.env.cells.lookup x = some c → c ≠ a) (nP : ∀ p ∈ X.pn ++ pins, p.1 ≠ a)
    (new : ObjOk X.prog X.w (upd H a o) s.heap a o) : Inv X pins σ (upd H a o) s := by
  have n0 : ∀ {b : Addr} {u : Obj}, X.s_0.heap.get? b = some u → b ≠ a := fun {b u} e z => by rw [z, h0] at e; cases e
  refine ⟨I.ok, I.os, I.bare, ⟨I.base.keep, I.base.slot, fun b u q n hx => by rw [upd_ne (n0 q)]; exact I.base.free b u q n hx, I.base.there, fun b xs q => ?_, fun b u xs q => ?_, fun b ps q => ?_⟩, I.loc, I.cell, by rw [upd_ne nL]; exact I.free, fun x c e => by rw [upd_ne (nC x c e)]; exact I.freeC x c e, fun p hp => ?_, fun b u q => ?_, I.len⟩
  · have e := I.base.tups b xs q
    rw [upd_ne (ne_of_none e na)]; exact e
  · have e := I.base.frzs b u xs q
    rw [upd_ne (ne_of_none e na)]; exact e
  · obtain ⟨m, e⟩ := I.base.tbls b ps q
    exact ⟨m, by rw [upd_ne (ne_of_none e na)]; exact e⟩
  · obtain ⟨e, n, ne, nf, d⟩ := I.pin p hp
    exact ⟨e, by rw [upd_ne (nP p hp)]; exact n, ne, nf, d⟩
  · by_cases hb : b = a
    · subst hb
      rw [upd_same] at q
      cases q
      exact new
    · rw [upd_ne hb] at q
      exact (I.hok b u q).stay (fun _ _ _ z => z) (fun c q => by rw [upd_ne (ne_of_none q na)]; exact q) fun c xs q => by rw [upd_ne (ne_of_none q na)]; exact q
/-- an exception that was caught, at a: its class, its dict -/
def exv (a : Addr) (cls : Value) (d : Option Addr) : HO := .ext fun h => ∃ oe vs, h.get? a = some oe ∧ Zc cls d oe ∧ oe.data = .fields vs
theorem exv_ok {P : Program} {w : World} {H : Hp} {h : Heap} {a : Addr} {cls : Value} {d : Option Addr} {oe : Obj} {vs : Array Value} (e : h.get? a = some oe) (z : Zc cls d oe) (hd : oe.data = .fields vs) : ObjOk P w H h a (exv a cls d) :=
  ⟨⟨oe, vs, e, z, hd⟩, ⟨oe, e⟩, fun _ _ ⟨o, v, q, r⟩ k => ⟨o, v, k o q, r⟩⟩
theorem inv_toSuite (I : Inv X pins σ H s) (a : Addr) : Inv (X.suite a (X.pn ++ pins)) [] σ H s :=
  ⟨I.ok.suite _ _, I.os, I.bare, I.base, I.loc, I.cell, I.free, I.freeC, fun p hp => I.pin p (by rw [List.append_nil] at hp; exact hp), I.hok, I.len⟩
theorem inv_ofSuite {a : Addr} {pn' : List (Addr × Obj)} (I : Inv (X.suite a (X.pn ++ pins)) pn' σ H s) (ok : X.Ok) : Inv X pins σ H s :=
  ⟨ok, I.os, I.bare, I.base, I.loc, I.cell, I.free, I.freeC, fun p hp => I.pin p (List.mem_append_left _ hp), I.hok, I.len⟩
end
theorem flying_keeps {base h h' : Heap} {l : List Env} {e : Addr} {Z : Obj → Prop} (x : HandSPX.FlyingZ base l e Z h) (k : ∀ b o, h.get? b = some o → h'.get? b = some o) : HandSPX.FlyingZ base l e Z h' := by
  obtain ⟨k1, k2, k3, oe, vs, T, oT, ts, he, hz, hd, h1, hnT, hTe, hT, hdT, h3⟩ := x
  exact ⟨fun b o q => k b o (k1 b o q), k2, k3.of_keeps fun b o q _ => ⟨o, k b o q, rfl⟩, oe, vs, T, oT, ts, k _ _ he, hz, hd, h1, hnT, hTe, k _ _ hT, hdT, h3⟩
/-- what an except clause of several classes wishes -/
def wTup (K : PySem.W.Frag) (cs : List Value) (i : Nat) (ts : TS) (Wout : WX) (D : Ends) : WX := fun cls d σ H =>
  ∃ b, PySem.W.exmAny K cls cs = some b ∧ (b = true → ∀ a, H a = none → ts { nx := fun σ' H' => D.nx (σ'.set i none) H', rt := D.rt, bk := fun σ' H' => D.bk (σ'.set i none) H', ct := fun σ' H' => D.ct (σ'.set i none) H' } (σ.set i (some (V.ref a))) (upd H a (exv a cls d))) ∧
    (b = false → Wout cls d σ H)
/-- try: tb  except (cs) as n: ts -/
def uTry (K : PySem.W.Frag) (cs : List Value) (i : Nat) (tb : WX → TS) (ts : TS) (Wout : WX) : TS := fun D σ H => tb (wTup K cs i ts Wout D) D σ H
inductive NamesAll (X : Cx) : List Expr → List Value → Prop
  | nil : NamesAll X [] []
  | cons {x : Str} {c : Value} {np : Pos} {es : List Expr} {cs : List Value} (h : Names X x c) (r : NamesAll X es cs) : NamesAll X (.Name x np :: es) (c :: cs)
section
variable {X : Cx}
theorem names_eval {es : List Expr} {cs : List Value} (h : NamesAll X es cs) : ∀ {pins : List (Addr × Obj)} {σ : SS} {H : Hp} {s : Shared} {E : Value → Shared → Prop} {pos : Pos} {Q : List Value → Shared → Prop}, Inv X pins σ H s → Q cs s →
    wpAny (model X.prog X.w) X.A (spliced (backTo pos (starEach es X.env))) Q E s := by
  induction h with
  | nil => intro pins σ H s E pos Q I q; exact Calls.spliced_nil q
  | @cons x c np es cs h r ih =>
    intro pins σ H s E pos Q I q
    have hst : starEach (.Name x np :: es) X.env = (false, eval (.Name x np) X.env) :: starEach es X.env := by rfl
    rw [hst]
    show wpAny _ _ (spliced ((false, eval (.Name x np) X.env) :: backTo pos (starEach es X.env))) _ _ s
    refine Calls.spliced_cons ?_
    obtain ⟨hg, hdbg, hm | ⟨hm, hv, hnn⟩⟩ := h
    · exact ld_glob I hg hm (ih I q) hdbg
    · exact ld_blt I hg hm hv (ih I q) hnn hdbg
end
section
variable {X : Cx} {n : Str} {cs : List Value} {i : Nat} {body suite : List Stmt} {b₀ : Stmt} {pos pos' tpos : Pos} {tes : List Expr} {kk : Nat} {tb : WX → TS} {ts : TS} {Wout : WX}
theorem ps_uTry (hs : X.stack = X.env :: X.outer) (hf : X.env.frame = some X.env.locals) (hex : X.ex = []) (hN : X.N.Nodup) (hi : X.N[i]? = some n) (hln : X.env.kindOf n = some .local) (hc : NamesAll X tes cs) (hcl : cs.length ≤ 1000) (tk : Takes X Wout)
    (hb : ∀ (W : WX) (pn : List (Addr × Obj)) (xe : Value → Shared → Prop), Takes (X.tr pn xe) W → PassesOwn (model X.prog X.w) X.A X.env xe → PSs (X.tr pn xe) body (tb W))
    (hsu : ∀ (a : Addr) (pn : List (Addr × Obj)), PSs (X.suite a pn) (b₀ :: suite) ts) :
    PS X (.Try body [.ExceptHandler (some (.Tuple tes kk tpos)) (some n) (b₀ :: suite) pos'] [] [] pos) (uTry X.K cs i tb ts Wout) := by
  refine ⟨fun pins s σ H D I h => ?_⟩
  have ok := I.ok
  have hfr : X.A.frames = some (X.env :: X.outer) := by rw [ok.frames, hs]
  have hloc : Loc X.env.scope n := .inl hln
  refine wpAny_Try_except ?_
  refine wpAny_mono ((hb (wTup X.K cs i ts Wout D) (X.pn ++ pins) (fun e s₁ => wpAny (model X.prog X.w) X.A (noteFrame e X.env) (fun _ s₂ => wpAny (model X.prog X.w) X.A (setFlight e none) (fun _ s₃ =>
    wpAny (model X.prog X.w) X.A (handleBy e X.env [.ExceptHandler (some (.Tuple tes kk tpos)) (some n) (b₀ :: suite) pos']) (SP X pins D) X.xe s₃) X.xe s₂) X.xe s₁) (fun u s' xx => ?_) PassesOwn.looking).run [] s σ H D (I.toTry _) h) (fun f s1 hsp => ?_) (fun e s1 he => he)
  · -- the catch
    obtain ⟨a, B, sI, pins', σ', H', cls, d, rfl, J', nb, up, sky, na, os, ag, b, hb1, hyes, hno⟩ := xx
    have J : Inv X pins σ' H' sI := J'.ofTry ok
    have sky' : Sky B (X.env :: X.outer) a (Zc cls d) X.env.locals s'.heap := by rw [← hs]; exact sky
    show wpAny (model X.prog X.w) X.A (noteFrame (.ref a) X.env) _ _ _
    refine Sky.land Zc.steady hfr hf sky' fun h3 fl3 up3 => ?_
    have J3 : Inv X pins σ' H' { s' with heap := h3 } := J.landed nb fl3.1 (up.trans up3) os ag
    obtain ⟨oe3, vs3, he3, hz3, hd3⟩ := fl3.there
    have notFr : ∀ {h : Heap} {o : Obj} {vs : Array Value}, h.FunFrames B (X.env :: X.outer) → h.get? a = some o → o.data = .fields vs → a ∉ frs (X.env :: X.outer) := fun {h o vs} ff e dd hm => by
      obtain ⟨_, o', e', hnf⟩ := ff.mem hm
      rw [e] at e'; cases e'
      exact hnf _ dd
    have nfr := notFr fl3.2.2.1 he3 hd3
    have nfs : a ∉ frs X.stack := by rw [hs]; exact nfr
    have nsI : sI.heap.get? a = none := by
      cases e : sI.heap.get? a with
      | none => rfl
      | some o =>
        have e2 := nb a o e nfs
        rw [fl3.2.1] at e2
        cases e2
    have nL : a ≠ X.env.locals := fun z => nfr (List.mem_filterMap.mpr ⟨X.env, List.mem_cons_self, by rw [hf, z]⟩)
    have nF : a ∉ X.fs := fun hm => by
      obtain ⟨e, he, q⟩ := List.mem_filterMap.mp hm
      exact nfr (List.mem_filterMap.mpr ⟨e, List.mem_cons_of_mem _ he, q⟩)
    have n0 : X.s_0.heap.get? a = none := by
      cases e : X.s_0.heap.get? a with
      | none => rfl
      | some o =>
        obtain ⟨o', e2⟩ := J.base.there a o e (by rw [hex]; simp)
        rw [nsI] at e2
        cases e2
    have nC : ∀ x c, X.env.cells.lookup x = some c → c ≠ a := fun x c e z => by
      obtain ⟨v, o, e2, _⟩ := J.cell x c e
      rw [z, nsI] at e2
      cases e2
    have nP : ∀ p ∈ X.pn ++ pins, p.1 ≠ a := fun p hp z => by
      have e2 := (J.pin p hp).1
      rw [z, nsI] at e2
      cases e2
    have S3 := inv_toSuite J3 a
    refine wpAny_handleBy_cons (codeAny_handlers_test ?_) (by intro q; cases q)
    have LT : PySem.W.Looks (model X.prog X.w) h3 (typeOf (.ref a)) cls := fun A Q E s k q => wpAny_typeOf_ref (k _ _ he3) (by rw [hz3.1]; exact q)
    have hcN : NamesAll (X.suite a (X.pn ++ pins)) tes cs := by
      have : ∀ {es : List Expr} {cs : List Value}, NamesAll X es cs → NamesAll (X.suite a (X.pn ++ pins)) es cs := by
        intro es cs h
        induction h with
        | nil => exact .nil
        | cons h r ih => exact .cons h ih
      exact this hc
    have hsz : cs.length ≤ sizeLine := by rw [sizeLine_num]; omega
    refine wpAny_Tuple (names_eval hcN S3 ⟨hsz, ?_⟩)
    have k4 : ∀ b o, h3.get? b = some o → (h3.push { cls := .type "tuple", data := .seq cs.toArray }).get? b = some o := fun b o e => Heap.get?_push_of_some _ e
    have J4 : Inv X pins σ' H' { s' with heap := h3.push { cls := .type "tuple", data := .seq cs.toArray } } := J3.kept (t' := s'.toks) k4
    have LM := PP.exm_tup (M := model X.prog X.w) (tp := h3.objs.size) (J4.kIn) (LT.keeps k4) (Heap.get?_push_size _ rfl) hb1
    refine LM.here ?_
    cases b with
    | true =>
      refine codeAny_handlers_suite_as ?_
      have fl3' : HandSPX.FlyingZ B (X.env :: X.outer) a (Zc cls d) (h3.push { cls := .type "tuple", data := .seq cs.toArray }) := flying_keeps fl3 k4
      refine HandSPX.lands_againZ fl3' fun h4 fl4 up4 => ?_
      have J5 : Inv X pins σ' H' { s' with heap := h4 } := J.landed nb fl4.1 ((up.trans up3).trans ((Heap.UpToSlots.of_keeps k4).trans up4)) os ag
      obtain ⟨oe4, vs4, he4, hz4, hd4⟩ := fl4.there
      have J6 : Inv X pins σ' (upd H' a (exv a cls d)) { s' with heap := h4 } := inv_track J5 na n0 (Ne.symm nL) nC nP (exv_ok he4 hz4 hd4)
      have S6 := inv_toSuite J6 a
      refine store_ok (X := X.suite a (X.pn ++ pins)) (v := .ref a) S6 hN hi hloc rfl (fun s5 S5 => ?_) (.inr hln)
      refine wpAny_mono ((hsu a (X.pn ++ pins)).run [] s5 _ _ _ S5 (hyes rfl a na)) (fun f s6 hsp => ?_) (fun _ _ z => False.elim z)
      have end_ : ∀ {σ6 : SS} {H6 : Hp} {Q : Shared → Prop}, Inv (X.suite a (X.pn ++ pins)) [] σ6 H6 s6 → (∀ s7, Inv X pins (σ6.set i none) H6 s7 → Q s7) →
          wpAny (model X.prog X.w) X.A (do bindName X.env n .none; unbindBehindTheSuite X.env n pos') (fun _ s7 => Q s7) X.xe s6 := fun {σ6 H6 Q} S6 hq => gone_ok (inv_ofSuite S6 ok) hN hi hln hq
      cases f with
      | next =>
        obtain ⟨σ6, H6, S6, q6⟩ := hsp
        exact end_ S6 fun s7 J7 => ⟨_, _, J7, q6⟩
      | brk =>
        obtain ⟨σ6, H6, S6, q6⟩ := hsp
        exact end_ S6 fun s7 J7 => ⟨_, _, J7, q6⟩
      | cont =>
        obtain ⟨σ6, H6, S6, q6⟩ := hsp
        exact end_ S6 fun s7 J7 => ⟨_, _, J7, q6⟩
      | ret u =>
        obtain ⟨v6, σ6, H6, S6, r6, q6⟩ := hsp
        exact end_ S6 fun s7 J7 => ⟨_, _, _, J7, r6, q6⟩
    | false =>
      show wpAny _ X.A (handleBy (.ref a) X.env []) _ _ _
      refine wpAny_handleBy_nil ?_
      have fl3' : HandSPX.FlyingZ B (X.env :: X.outer) a (Zc cls d) (h3.push { cls := .type "tuple", data := .seq cs.toArray }) := flying_keeps fl3 k4
      obtain ⟨k1, k2, k3, oe, vs, T, oT, ts', he, hz, hd, h1, hr⟩ := id fl3'
      unfold PySem.passOn
      refine wpAny_bind (wpAny_field he hd h1 ?_)
      rw [if_neg (show ¬ ((Value.ref T == Value.none) = true) from by simp)]
      have fin : wpAny (model X.prog X.w) X.A (setFlight (.ref a) X.env.frame) (fun _ s4 => wpAny (model X.prog X.w) X.A (throw (.ref a) : Sem Flow) (SP X pins D) X.xe s4) X.xe { s' with heap := h3.push { cls := .type "tuple", data := .seq cs.toArray } } := by
        rw [hf]
        refine HandSPX.setFlight_upZ fl3' fun h4 hh4 up4 => wpAny_throw (tk _ _ ?_)
        exact ⟨a, B, sI, pins, σ', H', cls, d, rfl, J, nb, (up.trans up3).trans ((Heap.UpToSlots.of_keeps k4).trans up4), .inr (.inr (by rw [hs]; exact hh4)), na, os, ag, hno rfl⟩
      first
        | exact wpAny_bind (wpAny_pure (wpAny_bind fin))
        | exact wpAny_bind fin
  · cases f with
    | next =>
      obtain ⟨σ', H', J', q⟩ := hsp
      exact wpAny_execs_nil ⟨σ', H', J'.ofTry ok, q⟩
    | brk =>
      obtain ⟨σ', H', J', q⟩ := hsp
      exact ⟨σ', H', J'.ofTry ok, q⟩
    | cont =>
      obtain ⟨σ', H', J', q⟩ := hsp
      exact ⟨σ', H', J'.ofTry ok, q⟩
    | ret u =>
      obtain ⟨v, σ', H', J', r, q⟩ := hsp
      exact ⟨v, σ', H', J'.ofTry ok, r, q⟩
end
end PP

set_option Elab.async false
set_option linter.all false
set_option maxRecDepth 100000
set_option maxHeartbeats 2000000
namespace PP
open PySem PySem.Spec PyProof.Rows L2
/-! ### exceptions that were caught, as values -/
/-- what the written part says of an own class of exceptions -/
structure ExcC (K : PySem.W.Frag) (C : Addr) : Prop where
  cl : (PySem.W.clsIn K C).isSome = true
  ga : PySem.W.findIn K (.ref C) "__getattribute__" = some (some (.builtin "BaseException.__getattribute__"))
  gt : PySem.W.findIn K (.ref C) "__getattr__" = some none
  sub : PySem.W.subIn K (.ref C) (.type "BaseException") = some true
  ca : PySem.W.findIn K (.ref C) "__class__" = some (some (.builtin "object.__class__"))
  sp : PySem.W.specialIn K (.builtin "object.__class__") "__get__" = some (some (.builtin "getset_descriptor.__get__"))
  tk : PySem.W.takesIn K (.builtin "object.__class__") = some true
  mr : PySem.W.mroIn K C (.type "object") = some true
  hd : PySem.W.hasDictIn K C = true
/-- at a: an exception of the class at C, with these fields -/
def IsExc (H : Hp) (a C : Addr) (fs : List (Str × V)) : Prop := (H a = some (exv a (.ref C) none) ∧ fs = []) ∨ ∃ dx, H a = some (exv a (.ref C) (some dx)) ∧ H dx = some (.xd fs)
section
variable {X : Cx} {pins : List (Addr × Obj)} {σ : SS} {H : Hp} {s : Shared}
theorem exv_at {a : Addr} {cls : Value} {d : Option Addr} (I : Inv X pins σ H s) (h : H a = some (exv a cls d)) : ∃ oe vs, s.heap.get? a = some oe ∧ Zc cls d oe ∧ oe.data = .fields vs := by
  have x : ObjOk X.prog X.w H s.heap a (.ext fun h => ∃ oe vs, h.get? a = some oe ∧ Zc cls d oe ∧ oe.data = .fields vs) := I.hok a _ h
  exact x.1
theorem exc_inst {a C : Addr} {fs : List (Str × V)} (I : Inv X pins σ H s) (h : IsExc H a C fs) : ∃ (oe : Obj) (od : Option Obj), PySem.W.InstAt s.heap a oe C od ∧ ((od = none ∧ fs = []) ∨ ∃ (o : Obj) (mA : Str → Option Value), od = some o ∧ (∀ name, PySem.W.lookIn name o = some (mA name)) ∧ ∀ f, RelO (fs.lookup f) (mA f)) := by
  rcases h with ⟨h, rfl⟩ | ⟨dx, h, hx⟩
  · obtain ⟨oe, vs, ho, hz, hd⟩ := exv_at I h
    exact ⟨oe, none, ⟨ho, hz.1, by unfold PySem.W.notCls; rw [hd] <;> rfl, by rw [hz.2]; trivial⟩, .inl ⟨rfl, rfl⟩⟩
  · obtain ⟨oe, vs, ho, hz, hd⟩ := exv_at I h
    obtain ⟨mA, hns, hr⟩ : ObjOk X.prog X.w H s.heap dx (.xd fs) := I.hok dx _ hx
    obtain ⟨od, hod, hl⟩ := lookIn_ns hns
    exact ⟨oe, some od, ⟨ho, hz.1, by unfold PySem.W.notCls; rw [hd] <;> rfl, by rw [hz.2]; exact hod⟩, .inr ⟨od, mA, rfl, hl, hr⟩⟩
end
/-- a value's type -/
inductive TyY (K : PySem.W.Frag) (H : Hp) : V → Value → Prop where
  | base {x : V} {t : Value} (h : TyX K H x t) : TyY K H x t
  | exc {a C : Addr} {fs : List (Str × V)} (h : IsExc H a C fs) (c : ExcC K C) : TyY K H (.ref a) (.ref C)
section
variable {X : Cx} {pins : List (Addr × Obj)} {σ : SS} {H : Hp} {s : Shared}
theorem kit_ofY {x : V} {u t : Value} (I : Inv X pins σ H s) (rx : RelV x u) (ty : TyY X.K H x t) : ∃ P : Heap → Prop, PySem.W.KitX X.K u t P ∧ P s.heap ∧ u ≠ .builtin "__main__.__loader__#opaque" := by
  cases ty with
  | base h => exact kit_of I rx h
  | @exc a C fs h c =>
    cases (show u = Value.ref a from rx)
    obtain ⟨oe, od, J, _⟩ := exc_inst I h
    exact ⟨_, PySem.W.kitx_exc c.cl c.ga c.gt c.sub c.ca c.sp c.tk c.mr, J, fun z => nomatch z⟩
end
/-- isinstance(x, c), isinstance(x, (c1, c2, ..)) -/
def rIsi1 (K : PySem.W.Frag) : List V → Hp → VK → Prop := fun xs H Q => ∃ (x c : V) (t u : Value) (b : Bool), xs = [x, c] ∧ ClsV c u ∧ TyY K H x t ∧ PySem.W.kitOne K t u = some b ∧ Q (.bl b) H
def rIsiN (K : PySem.W.Frag) : List V → Hp → VK → Prop := fun xs H Q => ∃ (x : V) (tp : Addr) (cs : List V) (t : Value) (us : List Value) (b : Bool), xs = [x, .ref tp] ∧ H tp = some (.tup cs) ∧ Paired ClsV cs us ∧ TyY K H x t ∧ PySem.W.kitAny K t us = some b ∧ Q (.bl b) H
def uIsi (K : PySem.W.Frag) : List V → Hp → VK → Prop := fun xs H Q => rIsi1 K xs H Q ∨ rIsiN K xs H Q
section
variable {X : Cx}
theorem call_isi1 : CallR X (.builtin "isinstance") (rIsi1 X.K) := by
  intro pins s σ H xs us Q I r h
  obtain ⟨x, c, t, u, b, rfl, k, ty, e, q⟩ := h
  obtain ⟨u1, u2, rfl, r1, r2⟩ := vals2 r
  have e2 := k.eq r2
  subst e2
  obtain ⟨P, Z, p, hx⟩ := kit_ofY I r1 ty
  exact PySem.W.kia_one Z I.kIn p e hx fun tk => ⟨.bl b, H, I.tok tk, rfl, q⟩
theorem call_isiN : CallR X (.builtin "isinstance") (rIsiN X.K) := by
  intro pins s σ H xs us Q I r h
  obtain ⟨x, tp, cs, t, ws, b, rfl, hT, k, ty, e, q⟩ := h
  obtain ⟨u1, u2, rfl, r1, r2⟩ := vals2 r
  cases (show u2 = Value.ref tp from r2)
  obtain ⟨P, Z, p, hx⟩ := kit_ofY I r1 ty
  obtain ⟨_, its, rv, o, h1, h2, n, h3⟩ := (show ObjOk X.prog X.w H s.heap tp (.tup cs) from I.hok tp _ hT)
  have e3 := ClsV.all k rv
  subst e3
  obtain ⟨oc, od, dt, sl⟩ := o
  simp only at h2 h3
  subst h2 h3
  exact PySem.W.kia_tup Z I.kIn p h1 e hx fun tk => ⟨.bl b, H, I.tok tk, rfl, q⟩
theorem call_uIsi : CallR X (.builtin "isinstance") (uIsi X.K) := call_isi1.or call_isiN
end
/-! ### attributes -/
/-- e.f, f of an exception -/
def rFldX (K : PySem.W.Frag) (f : Str) (x : V) (H : Hp) (Q : VK) : Prop := ∃ a C fs v, x = V.ref a ∧ IsExc H a C fs ∧ ExcC K C ∧ PySem.W.findIn K (.ref C) f = some none ∧ fs.lookup f = some v ∧ Q v H
def rFldI (K : PySem.W.Frag) (f : Str) (x : V) (H : Hp) (Q : VK) : Prop := ∃ a C dx fs v, x = V.ref a ∧ H a = some (.ins C dx fs) ∧ Cls K C ∧ NoAttr K C f ∧ fs.lookup f = some v ∧ Q v H
def uFld (K : PySem.W.Frag) (ta : TE) (f : Str) : TE := fun σ H Q => ta σ H fun x H1 => rFldI K f x H1 Q ∨ rFldX K f x H1 Q
section
variable {X : Cx} {e : Expr} {f : Str} {pos : Pos} {ta : TE}
theorem pe_uFld (he : PE X e ta) (hb : attributeBase e f X.env (eval e X.env) = eval e X.env := by rfl) : PE X (.Attribute e f pos) (uFld X.K ta f) := by
  refine ⟨fun pins s σ H Q I h => ?_⟩
  refine attr_of hb (thn (he.run pins s σ H _ I h) fun u s1 ⟨x, H1, I1, rx, q⟩ => ?_)
  rcases q with ⟨a, C, dx, fs, v, ex, ea, c, n, l, q⟩ | ⟨a, C, fs, v, ex, ea, c, n, l, q⟩
  · subst ex
    obtain rfl : u = Value.ref a := rx
    exact getattr_ok I1 ea c n l fun u' s2 I2 ru => ⟨v, H1, I2, ru, q⟩
  · subst ex
    obtain rfl : u = Value.ref a := rx
    obtain ⟨oe, od, J, ho⟩ := exc_inst I1 ea
    rcases ho with ⟨rfl, rfl⟩ | ⟨o, mA, rfl, hl, hr⟩
    · cases l
    · obtain ⟨u, hu, ru⟩ := RelO.some_of (v := v) (o := mA f) (by rw [← l]; exact hr f)
      exact HandSPX.exc_get I1.kIn J c.ga c.gt c.sub (PySem.W.findObj_own c.hd n rfl (by rw [hl, hu])) (handed_of ru) ⟨v, H1, I1.tok _, ru, q⟩
end
/-! ### built-in functions, whatever the values are -/
section
variable {X : Cx}
def uLen (K : PySem.W.Frag) : List V → Hp → VK → Prop := fun xs H Q => (∃ x n, xs = [x] ∧ LenV K x H n ∧ Q (V.int n) H) ∨ (∃ a kvs, xs = [V.ref a] ∧ H a = some (.dK kvs) ∧ Q (.int kvs.length) H)
theorem call_uLen : CallR X (.builtin "len") (uLen X.K) := call_len.or call_lenD
/-- int(x) of an int, a bool -/
def uInt : List V → Hp → VK → Prop := fun xs H Q => (∃ i, xs = [V.int i] ∧ Q (.int i) H) ∨ ∃ k, xs = [V.bl k] ∧ Q (.int (if k then 1 else 0)) H
theorem call_uInt : CallR X (.type "int") uInt := call_int1
def uStr : List V → Hp → VK → Prop := fun xs H Q => (∃ i, xs = [V.int i] ∧ i.natAbs.log2 < 1920 ∧ Q (.str (toString i)) H) ∨ (∃ a, xs = [V.str a] ∧ Q (.str a) H)
theorem call_uStr : CallR X (.type "str") uStr := call_str_int.or SkE.call_str_str
theorem call_uAll (hc : X.calm = true) : CallR X (.builtin "all") (rAll X.K) := cr_all hc
theorem call_uAny (hc : X.calm = true) : CallR X (.builtin "any") (rAny X.K) := cr_any hc
def uList (K : PySem.W.Frag) : List V → Hp → VK → Prop := fun xs H Q => ∃ p ys, xs = [V.ref p] ∧ (SqL K H p ys ∨ SqT K H p ys) ∧ ∀ l, H l = none → Q (.ref l) (upd H l (.lst ys))
theorem call_uList : CallR X (.type "list") (uList X.K) := call_list_of
def uTuple (K : PySem.W.Frag) : List V → Hp → VK → Prop := fun xs H Q => ∃ p ys, xs = [V.ref p] ∧ ((SqL K H p ys ∧ ∀ l, H l = none → Q (.ref l) (upd H l (.tup ys))) ∨ (SqT K H p ys ∧ Q (.ref p) H))
theorem call_uTuple : CallR X (.type "tuple") (uTuple X.K) := call_tuple_of
/-- max, min of two ints -/
def uMax2 : List V → Hp → VK → Prop := fun xs H Q => ∃ i j, xs = [V.int i, V.int j] ∧ Q (.int (if j > i then j else i)) H
def uMin2 : List V → Hp → VK → Prop := fun xs H Q => ∃ i j, xs = [V.int i, V.int j] ∧ Q (.int (if j < i then j else i)) H
end
/-! ### raise -/
def uRaise (mk : SS → Hp → XK → Prop) (W : WX) : TS := fun _ σ H => mk σ H fun cls d H' => W cls d σ H'
/-- C(..), C an own class of exceptions without __init__ -/
def mkOwn (C : Addr) (t : TA) : SS → Hp → XK → Prop := fun σ H Q => t σ H fun vs H1 => vs.length ≤ sizeLine ∧ Q (.ref C) none H1
section
variable {X : Cx} {W : WX}
theorem ps_uRaise {e : Expr} {mk : SS → Hp → XK → Prop} {pos : Pos} (hc : X.calm = true) (tk : Takes X W) (he : PMk X e mk) : PS X (.Raise (some e) none pos) (uRaise mk W) := ps_raise hc tk he
theorem pmk_uOwn {C : Addr} {bmB : List Value} {B newId initId : String} {x : Str} {p pos : Pos} {e : Expr} {es : List Expr} {t : TA} (F : ExcBaseFacts B newId initId bmB) (q : PySem.W.excIn X.K C bmB newId = true) (gC : X.mg x = some (.ref C))
    (kC : PySem.W.keepIn X.K (.ref C) = true) (r : Raises X (.ref C)) (hg : Gl X x) (ha : PA X (e :: es) t) (hdb : (x == ("__debug__" : Str)) = false := by decide)
    (he : starEach (e :: es) X.env = (false, eval e X.env) :: starEach es X.env := by rfl) (hpl : (backTo pos (starEach es X.env)).any (·.1) = false := by rfl) :
    PMk X (.Call (.Name x p) (e :: es) [] pos) (mkOwn C t) := pmk_ownA F q gC kC r hg ha hdb he hpl
end
/-! ### tests -/
/-- an expression's truth, whatever it is -/
def uTru (K : PySem.W.Frag) (t : TE) : TT := fun σ H Q => t σ H fun x H1 => ∃ k, TruV K x H1 k ∧ Q k H1
end PP

set_option Elab.async false
set_option linter.all false
set_option maxRecDepth 100000
set_option maxHeartbeats 2000000
namespace PP
open PySem PySem.Spec PyProof.Rows L2
/-! ### the head's facts: those of the modules' Hook, and one more truth -/
abbrev AlP : Type := Bool × He.AlD
def SaysP (fa : List He.Fa) (fn : List He.DefD) (ex : PySem.W.Frag → Bool) (K : PySem.W.Frag) : Prop := He.SaysD fa fn K ∧ ex K = true
def obsP (n : Nat) (fa : List He.Fa) (fn : List He.DefD) (ex : PySem.W.Frag → Bool) (g : Addr → Option Obj) : AlP := (ex (He.frG g (He.asD g n)), He.obsD fa fn (He.frG g (He.asD g n)))
def hookP (n : Nat) (fa : List He.Fa) (fn : List He.DefD) (ex : PySem.W.Frag → Bool) : PySem.W.Hook where
  α := AlP
  obs := fun s => obsP n fa fn ex s.heap.get?
  val := fun _ => (true, He.valD fn)
  says := fun _ h => ∃ K : PySem.W.Frag, K.In h ∧ SaysP fa fn ex K
  of := fun _ _ e => ⟨_, He.frG_in, congrArg (fun z : AlP => z.2) e, congrArg (fun z : AlP => z.1) e⟩
  keeps := fun _ _ _ ⟨K, hK, c⟩ k => ⟨K, PySem.W.Frag.In.keeps hK k, c⟩
theorem obsP_eq {n : Nat} {fa : List He.Fa} {fn : List He.DefD} {ex : PySem.W.Frag → Bool} {g : Addr → Option Obj} {s : Shared} (h : ∀ a, g a = s.heap.get? a) : obsP n fa fn ex g = (hookP n fa fn ex).obs s := by
  have e : g = s.heap.get? := funext h
  rw [e] <;> rfl
/-! ### facts about classes, as truths -/
def eqOO (a b : Option (Option Value)) : Bool := decide (a = b)
/-- of an own class of exceptions, by name -/
def excB (K : PySem.W.Frag) (x : Str) : Bool :=
  (PySem.W.clsIn K (He.ga K x)).isSome && (decide (PySem.W.findIn K (.ref (He.ga K x)) "__getattribute__" = some (some (.builtin "BaseException.__getattribute__"))) && (decide (PySem.W.findIn K (.ref (He.ga K x)) "__getattr__" = some none) &&
  (decide (PySem.W.subIn K (.ref (He.ga K x)) (.type "BaseException") = some true) && (decide (PySem.W.findIn K (.ref (He.ga K x)) "__class__" = some (some (.builtin "object.__class__"))) &&
  (decide (PySem.W.specialIn K (.builtin "object.__class__") "__get__" = some (some (.builtin "getset_descriptor.__get__"))) && (decide (PySem.W.takesIn K (.builtin "object.__class__") = some true) &&
  (decide (PySem.W.mroIn K (He.ga K x) (.type "object") = some true) && (PySem.W.hasDictIn K (He.ga K x) && (decide (PySem.W.typeIn K (.ref (He.ga K x)) = some (.type "type")) && PySem.W.keepIn K (.ref (He.ga K x)))))))))))
structure ExcF (K : PySem.W.Frag) (x : Str) : Prop where
  c : ExcC K (He.ga K x)
  ty : PySem.W.typeIn K (.ref (He.ga K x)) = some (.type "type")
  kp : PySem.W.keepIn K (.ref (He.ga K x)) = true
theorem excB_ok {K : PySem.W.Frag} {x : Str} (h : excB K x = true) : ExcF K x := by
  unfold excB at h
  simp only [Bool.and_eq_true, decide_eq_true_eq] at h
  obtain ⟨h1, h2, h3, h4, h5, h6, h7, h8, h9, h10, h11⟩ := h
  exact ⟨⟨h1, h2, h3, h4, h5, h6, h7, h8, h9⟩, h10, h11⟩
/-- a class as a fact names it: an own one, a built-in one -/
inductive Cn where
  | own (x : Str) | ty (n : String)
  deriving DecidableEq
def Cn.v (K : PySem.W.Frag) : Cn → Value
  | .own x => .ref (He.ga K x)
  | .ty n => .type n
/-- isinstance's answers -/
def kitB (K : PySem.W.Frag) (l : List (Cn × Cn × Bool)) : Bool := l.all fun p => decide (PySem.W.kitOne K (p.1.v K) (p.2.1.v K) = some p.2.2)
theorem kitB_ok {K : PySem.W.Frag} {l : List (Cn × Cn × Bool)} (h : kitB K l = true) {a b : Cn} {r : Bool} (m : (a, b, r) ∈ l) : PySem.W.kitOne K (a.v K) (b.v K) = some r := by
  have := List.all_eq_true.mp h _ m
  exact of_decide_eq_true this
/-- except's answers -/
def exmB (K : PySem.W.Frag) (l : List (Cn × Cn × Bool)) : Bool := l.all fun p => decide (PySem.W.exmOne K (p.1.v K) (p.2.1.v K) = some p.2.2)
theorem exmB_ok {K : PySem.W.Frag} {l : List (Cn × Cn × Bool)} (h : exmB K l = true) {a b : Cn} {r : Bool} (m : (a, b, r) ∈ l) : PySem.W.exmOne K (a.v K) (b.v K) = some r := by
  have := List.all_eq_true.mp h _ m
  exact of_decide_eq_true this
/-- the further facts of a head -/
structure ExL where
  exc : List Str
  noi : List (Str × List Value × String)
  kit : List (Cn × Cn × Bool)
  exm : List (Cn × Cn × Bool)
  more : PySem.W.Frag → Bool
def exB (l : ExL) (K : PySem.W.Frag) : Bool := l.exc.all (excB K) && (l.noi.all (fun p => PySem.W.excIn K (He.ga K p.1) p.2.1 p.2.2) && (kitB K l.kit && (exmB K l.exm && l.more K)))
section
variable {l : ExL} {K : PySem.W.Frag}
theorem exs_cls (c : exB l K = true) (i : Nat) {x : Str} (h : l.exc[i]? = some x) : ExcF K x :=
  excB_ok (List.all_eq_true.mp (Bool.and_eq_true_iff.mp c).1 x (List.mem_of_getElem? h))
theorem exs_noi (c : exB l K = true) (i : Nat) {x : Str} {bm : List Value} {n : String} (h : l.noi[i]? = some (x, bm, n)) : PySem.W.excIn K (He.ga K x) bm n = true :=
  List.all_eq_true.mp (Bool.and_eq_true_iff.mp (Bool.and_eq_true_iff.mp c).2).1 _ (List.mem_of_getElem? h)
theorem exs_kit (c : exB l K = true) {a b : Cn} {r : Bool} (m : (a, b, r) ∈ l.kit) : PySem.W.kitOne K (a.v K) (b.v K) = some r :=
  kitB_ok (Bool.and_eq_true_iff.mp (Bool.and_eq_true_iff.mp (Bool.and_eq_true_iff.mp c).2).2).1 m
theorem exs_exm (c : exB l K = true) {a b : Cn} {r : Bool} (m : (a, b, r) ∈ l.exm) : PySem.W.exmOne K (a.v K) (b.v K) = some r :=
  exmB_ok (Bool.and_eq_true_iff.mp (Bool.and_eq_true_iff.mp (Bool.and_eq_true_iff.mp (Bool.and_eq_true_iff.mp c).2).2).2).1 m
theorem exs_more (c : exB l K = true) : l.more K = true :=
  (Bool.and_eq_true_iff.mp (Bool.and_eq_true_iff.mp (Bool.and_eq_true_iff.mp (Bool.and_eq_true_iff.mp c).2).2).2).2
end
/-- a promise that is the body's own reading -/
def spOf (N : List Str) (n : Nat) (t : WX → TS) : Sp := fun vs H Q E => vs.length = n ∧ t (fun cls d _ H' => E cls d H') { nx := fun _ H' => Q .non H', rt := Q } (start N vs) H

/-! ### short names of readings -/
def rJoin (K : PySem.W.Frag) : V → List V → Hp → VK → Prop := fun x xs H Q => ∃ a p, ∃ ys : List Str, x = V.str a ∧ xs = [V.ref p] ∧ (SqL K H p (ys.map V.str) ∨ SqT K H p (ys.map V.str)) ∧ (ys.map (·.length)).sum + ys.length * a.length ≤ 16777216 ∧ Q (.str (Txt.join a ys)) H
def rSplit : V → List V → Hp → VK → Prop := fun x xs H Q => ∃ a b, x = V.str a ∧ xs = [V.str b] ∧ (b.length == 0) = false ∧ a.length + 2 ≤ sizeLine ∧ rNewStrs (Txt.split a b) H Q
def rStrip : V → List V → Hp → VK → Prop := fun x xs H Q => ∃ a b, x = V.str a ∧ xs = [V.str b] ∧ a.length ≤ sizeLine ∧ Q (.str (Txt.stripChars a b)) H
def uNeg : V → Hp → VK → Prop := rU fun i => .int (-i)
/-- o[i] = v of a list, of a dict -/
def uSet : TSet := fun o i v H Q => rSetL o i v H Q ∨ rSetD o i v H Q
section
variable {X : Cx}
theorem mt_uJoin : MtR X "str.join" (rJoin X.K) := mt_join
theorem mt_uSplit : MtR X "str.split" rSplit := mt_split
theorem mt_uStrip : MtR X "str.strip" rStrip := mt_stripChars
theorem set_u (hu : X.A.units + 1 < cLine) : PSet X uSet := by
  intro pins s σ H o i v ov iv vv Q I ro ri rv h
  rcases h with h | h
  · exact set_list pins s σ H o i v ov iv vv Q I ro ri rv h
  · exact set_dict hu pins s σ H o i v ov iv vv Q I ro ri rv h
theorem sl_u : SlR X (uSl X.K) := sl_list.or (sl_tupA.or sl_str)
theorem pt_uTru {a : Expr} {ta : TE} (ha : PE X a ta) (he : ∀ whole, isTrue a X.env whole = (do let v ← whole; standAt a.pos; holding [v] (truthy v))) : PT X a (uTru X.K ta) := pt_truth ha he
end
theorem u65 {k : Nat} {A : Around} (r : Room k A) : A.units + 65 < cLine := by have := r.un; omega
theorem u64 {k : Nat} {A : Around} (r : Room k A) : A.units + 64 < cLine := by have := r.un; omega
theorem u1 {k : Nat} {A : Around} (r : Room k A) : A.units + 1 < cLine := by have := r.un; omega

abbrev W0 : WX := fun _ _ _ _ => False
abbrev X0 : XK := fun _ _ _ => False
theorem funD_eq {K : PySem.W.Frag} {x qual : Str} {params : Arguments} {body : List Stmt} {scope : Scope} {dvs : List V} {kws : List (Str × V)} {f : Addr} {fd fd' : FuncData}
    (F : FunD K x qual params body scope dvs kws f fd) (F' : FunD K x qual params body scope dvs kws f fd') : fd = fd' := by
  obtain ⟨_, _, _, _, _, _, _, _, _, _, _, l, _⟩ := F.ex
  obtain ⟨_, _, _, _, _, _, _, _, _, _, _, l', _⟩ := F'.ex
  have e := l.symm.trans l'
  injection e with e
  injection e with _ _ e _
  injection e
theorem cx_none {P : Program} {w : World} {H : Hp} {s s' : Shared} {e : Value} (z : L2.CX P w [] H s (fun _ _ _ => False) e s') : False := by
  obtain ⟨_, _, _, _, _, _, _, _, _, _, _, _, z⟩ := z
  exact z.elim

/-- the end of a law whose readings let exceptions out (CX of a world) -/
theorem walk_end {l : PySem.W.OpenLaw} {n k : Nat} {q : Program} {loose : List Str} {XP : (Str → Option Value) → Heap → Prop} {YP : World → Heap → Prop} {d : DefRec} {x : Str}
    (hn : l.most = some n) (hn2 : n ≤ sizeLine) (hdf : d.params.defaults = []) (hr : Room k callerA)
    (F : ∀ (w : World) (mg : Str → Option Value) (fa : Addr) (h : Heap), YP w h → h.Ns mainGlobals mg → mg d.name = some (.ref fa) → ∃ (K : PySem.W.Frag) (fd : FuncData) (sp : Sp), K.In h ∧
        (∀ (s : Shared) (u : Value), BindsTo s fd ⟨[u], []⟩ [(x, u)]) ∧ (∀ (H : Hp) (a : Addr) (ns : List Int), ns.length ≤ n → Only H → SqL K H a (ns.map V.int) → sp [.ref a] H (fun v _ => v = .bl true) X0) ∧
        ∀ base : Heap, K.In base → base.Ns mainGlobals mg → FnOk l.prog w K mg base (L2.CX l.prog w) k fa fd [x] sp) :
    PySem.W.WalkO q loose XP YP l.row.toRowW d [] (fun f vs => PySem.call f vs) := by
  refine Att.attach_call hn hdf fun w s₀ s₁ mg mb fa o pm cd doc a vs ns G Y _ _ _ hm ho hi hle hg => ?_
  rcases F w mg fa _ Y G.T.g hm with ⟨K, fd, sp, kin, b, hs, ok⟩
  have hs' := fun (H : Hp) (oH : Only H) (hS : SqL K H a (ns.map V.int)) => hs H a ns hle oH hS
  exact law_call kin G.T.g G.T.b G.T.builtins G.T.nolimit hg ho hi (Nat.le_trans hle hn2) hr ok b hs' (fun _ _ _ z => cx_none z)
end PP

set_option Elab.async false
set_option linter.all false
set_option maxRecDepth 100000
set_option maxHeartbeats 2000000
/-! The pure layer: a def's reading, without heap and addresses. D: values as trees; O: what may change; At: how both lie in the heap. -/
namespace PU
open PySem PySem.Spec PyProof.Rows L2 PP
/-- a value: trees are never written; obj n is the n-th thing that may change -/
inductive D where
  | non | bl (b : Bool) | int (i : Int) | str (s : Str) | ty (n : String) | cls (x : Str)
  | tup (l : List D) | lst (l : List D) | dct (l : List (Key × D)) | exc (x : Str) (fs : List (Str × D)) | obj (n : Nat)
inductive O where
  | lst (l : List D) | dct (l : List (Key × D)) | ins (C : Str) (fs : List (Str × D))
abbrev Stt := List O
abbrev Env := List (Option D)
/-- T: the trees' heap; ia: where the things that change lie; F: what lies beside and is left alone -/
structure Z where
  T : Hp
  ia : List Addr
  F : Hp
structure Z.le (z y : Z) : Prop where
  t : ∀ a o, z.T a = some o → y.T a = some o
  i : ∀ (n : Nat) a, z.ia[n]? = some a → y.ia[n]? = some a
  f : y.F = z.F
theorem Z.le.refl (z : Z) : z.le z := ⟨fun _ _ h => h, fun _ _ h => h, rfl⟩
theorem Z.le.trans {x y z : Z} (a : x.le y) (b : y.le z) : x.le z := ⟨fun p o h => b.t p o (a.t p o h), fun n p h => b.i n p (a.i n p h), b.f.trans a.f⟩
inductive R (K : PySem.W.Frag) (z : Z) : V → D → Prop
  | non : R K z .non .non
  | bl (b : Bool) : R K z (.bl b) (.bl b)
  | int (i : Int) : R K z (.int i) (.int i)
  | str (s : Str) : R K z (.str s) (.str s)
  | ty (n : String) : R K z (.ty n) (.ty n)
  | cls (x : Str) : R K z (.ref (He.ga K x)) (.cls x)
  | tup {a : Addr} {vs : List V} {l : List D} (h : SqT K z.T a vs) (e : vs.length = l.length) (r : ∀ (i : Nat) v d, vs[i]? = some v → l[i]? = some d → R K z v d) : R K z (.ref a) (.tup l)
  | lst {a : Addr} {vs : List V} {l : List D} (h : SqL K z.T a vs) (e : vs.length = l.length) (r : ∀ (i : Nat) v d, vs[i]? = some v → l[i]? = some d → R K z v d) : R K z (.ref a) (.lst l)
  | dct {a : Addr} {vs : List (Key × V)} {l : List (Key × D)} (h : z.T a = some (.dK vs)) (e : vs.map (·.1) = l.map (·.1)) (r : ∀ (i : Nat) p q, vs[i]? = some p → l[i]? = some q → R K z p.2 q.2) : R K z (.ref a) (.dct l)
  | exc0 {a : Addr} {x : Str} (h : z.T a = some (exv a (.ref (He.ga K x)) none)) : R K z (.ref a) (.exc x [])
  | exc {a dx : Addr} {x : Str} {vs : List (Str × V)} {fs : List (Str × D)} (h : z.T a = some (exv a (.ref (He.ga K x)) (some dx))) (h2 : z.T dx = some (.xd vs)) (e : vs.map (·.1) = fs.map (·.1)) (r : ∀ (i : Nat) p q, vs[i]? = some p → fs[i]? = some q → R K z p.2 q.2) : R K z (.ref a) (.exc x fs)
  | obj {n : Nat} {a : Addr} (h : z.ia[n]? = some a) : R K z (.ref a) (.obj n)
def RL (K : PySem.W.Frag) (z : Z) (vs : List V) (l : List D) : Prop := vs.length = l.length ∧ ∀ (i : Nat) v d, vs[i]? = some v → l[i]? = some d → R K z v d
def RF {κ : Type} (K : PySem.W.Frag) (z : Z) (vs : List (κ × V)) (l : List (κ × D)) : Prop := vs.map (·.1) = l.map (·.1) ∧ ∀ (i : Nat) p q, vs[i]? = some p → l[i]? = some q → R K z p.2 q.2
section
variable {K : PySem.W.Frag} {z y : Z}
theorem SqL.mono {T U : Hp} (h : ∀ a o, T a = some o → U a = some o) {a : Addr} {xs : List V} : SqL K T a xs → SqL K U a xs
  | .inl (.inl r) => .inl (.inl (h _ _ r))
  | .inl (.inr ⟨o, r⟩) => .inl (.inr ⟨o, h _ _ r⟩)
  | .inr r => .inr r
theorem SqT.mono {T U : Hp} (h : ∀ a o, T a = some o → U a = some o) {a : Addr} {xs : List V} : SqT K T a xs → SqT K U a xs
  | .inl (.inl r) => .inl (.inl (h _ _ r))
  | .inl (.inr ⟨o, r⟩) => .inl (.inr ⟨o, h _ _ r⟩)
  | .inr r => .inr r
theorem R.mono2 (lt : ∀ a o, z.T a = some o → y.T a = some o) (li : ∀ (n : Nat) a, z.ia[n]? = some a → y.ia[n]? = some a) {v : V} {d : D} (h : R K z v d) : R K y v d := by
  induction h with
  | non => exact .non
  | bl b => exact .bl b
  | int i => exact .int i
  | str s => exact .str s
  | ty n => exact .ty n
  | cls x => exact .cls x
  | tup h e r ih => exact .tup (SqT.mono lt h) e ih
  | lst h e r ih => exact .lst (SqL.mono lt h) e ih
  | dct h e r ih => exact .dct (lt _ _ h) e ih
  | exc0 h => exact .exc0 (lt _ _ h)
  | exc h h2 e r ih => exact .exc (lt _ _ h) (lt _ _ h2) e ih
  | obj h => exact .obj (li _ _ h)
theorem R.mono (l : z.le y) {v : V} {d : D} (h : R K z v d) : R K y v d := h.mono2 l.t l.i
theorem RL.mono2 (lt : ∀ a o, z.T a = some o → y.T a = some o) (li : ∀ (n : Nat) a, z.ia[n]? = some a → y.ia[n]? = some a) {vs : List V} {ds : List D} (h : RL K z vs ds) : RL K y vs ds := ⟨h.1, fun i v d a b => (h.2 i v d a b).mono2 lt li⟩
theorem RF.mono2 {κ : Type} (lt : ∀ a o, z.T a = some o → y.T a = some o) (li : ∀ (n : Nat) a, z.ia[n]? = some a → y.ia[n]? = some a) {vs : List (κ × V)} {ds : List (κ × D)} (h : RF K z vs ds) : RF K y vs ds := ⟨h.1, fun i v d a b => (h.2 i v d a b).mono2 lt li⟩
theorem RL.mono (l : z.le y) {vs : List V} {ds : List D} (h : RL K z vs ds) : RL K y vs ds := ⟨h.1, fun i v d a b => (h.2 i v d a b).mono l⟩
theorem RF.mono {κ : Type} (l : z.le y) {vs : List (κ × V)} {ds : List (κ × D)} (h : RF K z vs ds) : RF K y vs ds := ⟨h.1, fun i v d a b => (h.2 i v d a b).mono l⟩
theorem RL.nil : RL K z [] [] := ⟨rfl, fun i v d h => by simp at h⟩
theorem RL.cons {v : V} {d : D} {vs : List V} {ds : List D} (h : R K z v d) (r : RL K z vs ds) : RL K z (v :: vs) (d :: ds) :=
  ⟨by simp [r.1], fun i w e a b => by
    cases i with
    | zero => simp at a b; subst a b; exact h
    | succ i => simp at a b; exact r.2 i w e a b⟩
theorem RL.head {v : V} {d : D} {vs : List V} {ds : List D} (r : RL K z (v :: vs) (d :: ds)) : R K z v d := r.2 0 v d rfl rfl
theorem RL.tail {v : V} {d : D} {vs : List V} {ds : List D} (r : RL K z (v :: vs) (d :: ds)) : RL K z vs ds := ⟨by have := r.1; simpa using this, fun i w e a b => r.2 (i + 1) w e (by simpa using a) (by simpa using b)⟩
theorem RL.inv_nil {vs : List V} (r : RL K z vs []) : vs = [] := List.eq_nil_of_length_eq_zero r.1
theorem RL.inv_cons {vs : List V} {d : D} {ds : List D} (r : RL K z vs (d :: ds)) : ∃ v ws, vs = v :: ws ∧ R K z v d ∧ RL K z ws ds := by
  cases vs with
  | nil => exact absurd r.1 (by simp)
  | cons v ws => exact ⟨v, ws, rfl, r.head, r.tail⟩
theorem RL.append {vs ws : List V} {ds es : List D} (r : RL K z vs ds) (q : RL K z ws es) : RL K z (vs ++ ws) (ds ++ es) := by
  induction ds generalizing vs with
  | nil => cases r.inv_nil; exact q
  | cons d ds ih =>
    obtain ⟨v, us, rfl, h, t⟩ := r.inv_cons
    exact .cons h (ih t)
theorem RL.take {vs : List V} {ds : List D} (r : RL K z vs ds) (n : Nat) : RL K z (vs.take n) (ds.take n) :=
  ⟨by simp [r.1], fun i v d a b => by
    rw [List.getElem?_take] at a b
    by_cases h : i < n
    · simp [h] at a b; exact r.2 i v d a b
    · simp [h] at a⟩
theorem RL.drop {vs : List V} {ds : List D} (r : RL K z vs ds) (n : Nat) : RL K z (vs.drop n) (ds.drop n) :=
  ⟨by simp [r.1], fun i v d a b => by
    rw [List.getElem?_drop] at a b
    exact r.2 _ v d a b⟩
theorem RL.set {vs : List V} {ds : List D} (r : RL K z vs ds) {v : V} {d : D} (h : R K z v d) (n : Nat) : RL K z (vs.set n v) (ds.set n d) :=
  ⟨by simp [r.1], fun i w e a b => by
    rw [List.getElem?_set] at a b
    by_cases c : n = i
    · subst c
      by_cases c2 : n < vs.length
      · have c3 : n < ds.length := r.1 ▸ c2
        simp [c2] at a; simp [c3] at b; subst a b; exact h
      · simp [c2] at a
    · simp [c] at a b; exact r.2 i w e a b⟩
theorem RL.get {vs : List V} {ds : List D} (r : RL K z vs ds) {i : Nat} {d : D} (h : ds[i]? = some d) : ∃ v, vs[i]? = some v ∧ R K z v d := by
  obtain ⟨hi, e⟩ := List.getElem?_eq_some_iff.mp h
  have hv : i < vs.length := r.1 ▸ hi
  exact ⟨vs[i], by simp [hv], r.2 i _ d (by simp [hv]) h⟩
theorem RL.map {α : Type} {f : α → V} {g : α → D} {l : List α} (h : ∀ a, a ∈ l → R K z (f a) (g a)) : RL K z (l.map f) (l.map g) := by
  induction l with
  | nil => exact .nil
  | cons a l ih => exact .cons (h a (by simp)) (ih fun b hb => h b (by simp [hb]))
theorem RL.flatten_rep {vs : List V} {ds : List D} (r : RL K z vs ds) : ∀ n : Nat, RL K z (List.replicate n vs).flatten (List.replicate n ds).flatten
  | 0 => .nil
  | n + 1 => by rw [List.replicate_succ, List.replicate_succ, List.flatten_cons, List.flatten_cons]; exact r.append (flatten_rep r n)
theorem R.mktup {a : Addr} {vs : List V} {l : List D} (h : SqT K z.T a vs) (r : RL K z vs l) : R K z (.ref a) (.tup l) := .tup h r.1 r.2
theorem R.mklst {a : Addr} {vs : List V} {l : List D} (h : SqL K z.T a vs) (r : RL K z vs l) : R K z (.ref a) (.lst l) := .lst h r.1 r.2
/-! inversions -/
theorem R.inv_int {v : V} {i : Int} (h : R K z v (.int i)) : v = .int i := by cases h; rfl
theorem R.inv_str {v : V} {s : Str} (h : R K z v (.str s)) : v = .str s := by cases h; rfl
theorem R.inv_bl {v : V} {b : Bool} (h : R K z v (.bl b)) : v = .bl b := by cases h; rfl
theorem R.inv_non {v : V} (h : R K z v .non) : v = .non := by cases h; rfl
theorem R.inv_ty {v : V} {n : String} (h : R K z v (.ty n)) : v = .ty n := by cases h; rfl
theorem R.inv_cls {v : V} {x : Str} (h : R K z v (.cls x)) : v = .ref (He.ga K x) := by cases h; rfl
theorem R.inv_tup {v : V} {l : List D} (h : R K z v (.tup l)) : ∃ a vs, v = .ref a ∧ SqT K z.T a vs ∧ RL K z vs l := by cases h with | tup h e r => exact ⟨_, _, rfl, h, e, r⟩
theorem R.inv_lst {v : V} {l : List D} (h : R K z v (.lst l)) : ∃ a vs, v = .ref a ∧ SqL K z.T a vs ∧ RL K z vs l := by cases h with | lst h e r => exact ⟨_, _, rfl, h, e, r⟩
theorem R.inv_dct {v : V} {l : List (Key × D)} (h : R K z v (.dct l)) : ∃ a vs, v = .ref a ∧ z.T a = some (.dK vs) ∧ RF K z vs l := by cases h with | dct h e r => exact ⟨_, _, rfl, h, e, r⟩
theorem R.inv_obj {v : V} {n : Nat} (h : R K z v (.obj n)) : ∃ a, v = .ref a ∧ z.ia[n]? = some a := by cases h with | obj h => exact ⟨_, rfl, h⟩
end
/-- how a thing that may change lies -/
def RO (K : PySem.W.Frag) (z : Z) (u : HO) : O → Prop
  | .lst l => ∃ vs, u = .lst vs ∧ RL K z vs l
  | .dct l => ∃ vs, u = .dK vs ∧ RF K z vs l
  | .ins C fs => ∃ dx vs, u = .ins (He.ga K C) dx vs ∧ RF K z vs fs
structure At (K : PySem.W.Frag) (z : Z) (S : Stt) (H : Hp) : Prop where
  len : z.ia.length = S.length
  nd : z.ia.Nodup
  sub : ∀ a o, z.T a = some o → H a = some o
  sep : ∀ a, a ∈ z.ia → z.T a = none
  obj : ∀ (n : Nat) a o, z.ia[n]? = some a → S[n]? = some o → ∃ u, H a = some u ∧ RO K z u o
  fr : ∀ a o, z.F a = some o → H a = some o ∧ z.T a = none ∧ a ∉ z.ia
section
variable {K : PySem.W.Frag} {z y : Z} {S : Stt} {H : Hp}
theorem RO.mono2 (lt : ∀ a o, z.T a = some o → y.T a = some o) (li : ∀ (n : Nat) a, z.ia[n]? = some a → y.ia[n]? = some a) {u : HO} {o : O} (h : RO K z u o) : RO K y u o := by
  cases o with
  | lst => obtain ⟨vs, rfl, r⟩ := h; exact ⟨vs, rfl, r.mono2 lt li⟩
  | dct => obtain ⟨vs, rfl, r⟩ := h; exact ⟨vs, rfl, r.mono2 lt li⟩
  | ins => obtain ⟨dx, vs, rfl, r⟩ := h; exact ⟨dx, vs, rfl, r.mono2 lt li⟩
theorem RO.mono (l : z.le y) {u : HO} {o : O} (h : RO K z u o) : RO K y u o := h.mono2 l.t l.i
theorem At.get (x : At K z S H) {n : Nat} {a : Addr} (h : z.ia[n]? = some a) : ∃ o, S[n]? = some o := by
  obtain ⟨hi, _⟩ := List.getElem?_eq_some_iff.mp h
  have : n < S.length := x.len ▸ hi
  exact ⟨S[n], by simp [this]⟩
theorem At.live (x : At K z S H) {a : Addr} (h : a ∈ z.ia) : ∃ u, H a = some u := by
  obtain ⟨n, hn⟩ := List.mem_iff_getElem?.mp h
  obtain ⟨o, ho⟩ := x.get hn
  obtain ⟨u, hu, _⟩ := x.obj n a o hn ho
  exact ⟨u, hu⟩
theorem At.freshT (x : At K z S H) {p : Addr} (h : H p = none) : z.T p = none := by
  cases e : z.T p with
  | none => rfl
  | some o => rw [x.sub p o e] at h; cases h
theorem At.freshI (x : At K z S H) {p : Addr} (h : H p = none) : p ∉ z.ia := fun c => by
  obtain ⟨u, e⟩ := x.live c
  rw [h] at e; cases e
theorem At.freshF (x : At K z S H) {p : Addr} (h : H p = none) : z.F p = none := by
  cases e : z.F p with
  | none => rfl
  | some o => rw [(x.fr p o e).1] at h; cases h
theorem upd_ext {T : Hp} {p : Addr} (h : T p = none) (o : HO) : ∀ a u, T a = some u → upd T p o a = some u := fun a u e => by
  by_cases c : a = p
  · subst c; rw [h] at e; cases e
  · rw [upd_ne c]; exact e
/-- a new tree -/
theorem At.newT (x : At K z S H) {p : Addr} (h : H p = none) (o : HO) : z.le ⟨upd z.T p o, z.ia, z.F⟩ ∧ At K ⟨upd z.T p o, z.ia, z.F⟩ S (upd H p o) := by
  have l : z.le ⟨upd z.T p o, z.ia, z.F⟩ := ⟨upd_ext (x.freshT h) o, fun _ _ e => e, rfl⟩
  refine ⟨l, x.len, x.nd, fun a u e => ?_, fun a ha => ?_, fun n a b hn hb => ?_, fun a u e => ?_⟩
  · have e : upd z.T p o a = some u := e
    by_cases c : a = p
    · subst c; rw [upd_same] at e ⊢; exact e
    · rw [upd_ne c] at e ⊢; exact x.sub a u e
  · have c : a ≠ p := fun c => x.freshI h (c ▸ ha)
    exact (upd_ne c).trans (x.sep a ha)
  · have c : a ≠ p := fun c => x.freshI h (c ▸ List.mem_of_getElem? hn)
    obtain ⟨u, hu, r⟩ := x.obj n a b hn hb
    exact ⟨u, (upd_ne c).trans hu, r.mono l⟩
  · obtain ⟨h1, h2, h3⟩ := x.fr a u e
    have c : a ≠ p := fun c => by subst c; rw [h] at h1; cases h1
    exact ⟨(upd_ne c).trans h1, (upd_ne c).trans h2, h3⟩
/-- a new thing that may change -/
theorem At.newO (x : At K z S H) {p : Addr} (h : H p = none) {u : HO} {o : O} (r : RO K z u o) : z.le ⟨z.T, z.ia ++ [p], z.F⟩ ∧ At K ⟨z.T, z.ia ++ [p], z.F⟩ (S ++ [o]) (upd H p u) ∧ (z.ia ++ [p])[S.length]? = some p := by
  have l : z.le ⟨z.T, z.ia ++ [p], z.F⟩ := ⟨fun _ _ e => e, fun n a e => by
    have := (List.getElem?_eq_some_iff.mp e).1
    exact (List.getElem?_append_left this).trans e, rfl⟩
  have hp := x.freshI h
  refine ⟨l, ⟨by simp [x.len], ?_, fun a v e => ?_, fun a ha => ?_, fun n a b hn hb => ?_, fun a v e => ?_⟩, by simp [← x.len]⟩
  · rw [List.nodup_append]
    exact ⟨x.nd, by simp, fun a ha b hb => by simp at hb; subst hb; exact fun c => hp (c ▸ ha)⟩
  · have c : a ≠ p := fun c => by
      have := x.freshT h
      subst c; rw [this] at e; cases e
    exact (upd_ne c).trans (x.sub a v e)
  · rw [List.mem_append] at ha
    rcases ha with ha | ha
    · exact x.sep a ha
    · simp at ha; subst ha; exact x.freshT h
  · by_cases c : n < S.length
    · have hn' : z.ia[n]? = some a := by
        have c' : n < z.ia.length := x.len ▸ c
        exact (List.getElem?_append_left c').symm.trans hn
      have hb' : S[n]? = some b := (List.getElem?_append_left c).symm.trans hb
      have c2 : a ≠ p := fun e => hp (e ▸ List.mem_of_getElem? hn')
      obtain ⟨v, hv, q⟩ := x.obj n a b hn' hb'
      exact ⟨v, (upd_ne c2).trans hv, q.mono l⟩
    · have e : n = S.length := by
        have := (List.getElem?_eq_some_iff.mp hb).1
        simp at this; omega
      subst e
      have e1 : a = p := by
        have : (z.ia ++ [p])[S.length]? = some p := by simp [← x.len]
        rw [this] at hn; exact (Option.some.inj hn).symm
      have e2 : b = o := by simp at hb; exact hb.symm
      subst e1 e2
      exact ⟨u, upd_same, r.mono l⟩
  · obtain ⟨h1, h2, h3⟩ := x.fr a v e
    have c : a ≠ p := fun c => by subst c; rw [h] at h1; cases h1
    refine ⟨(upd_ne c).trans h1, h2, fun m => ?_⟩
    rw [List.mem_append] at m
    rcases m with m | m
    · exact h3 m
    · simp at m; exact c m
/-- a thing changes -/
theorem At.setO (x : At K z S H) {n : Nat} {p : Addr} (h : z.ia[n]? = some p) {u : HO} {o : O} (r : RO K z u o) : At K z (S.set n o) (upd H p u) := by
  have hp : p ∈ z.ia := List.mem_of_getElem? h
  refine ⟨by simp [x.len], x.nd, fun a v e => ?_, x.sep, fun m a b hm hb => ?_, fun a v e => ?_⟩
  · have c : a ≠ p := fun c => by
      have := x.sep p hp
      subst c; rw [this] at e; cases e
    exact (upd_ne c).trans (x.sub a v e)
  · by_cases c : m = n
    · subst c
      rw [h] at hm
      cases hm
      have : m < S.length := by
        have := (List.getElem?_eq_some_iff.mp h).1
        rw [x.len] at this; exact this
      simp [this] at hb
      subst hb
      exact ⟨u, upd_same, r⟩
    · have c2 : a ≠ p := fun e => by
        subst e
        exact c ((List.getElem?_inj (List.getElem?_eq_some_iff.mp hm).1 x.nd).mp (hm.trans h.symm))
      have hb' : S[m]? = some b := by rw [List.getElem?_set_ne (fun e => c e.symm)] at hb; exact hb
      obtain ⟨v, hv, q⟩ := x.obj m a b hm hb'
      exact ⟨v, (upd_ne c2).trans hv, q⟩
  · obtain ⟨h1, h2, h3⟩ := x.fr a v e
    have c : a ≠ p := fun c => h3 (c ▸ hp)
    exact ⟨(upd_ne c).trans h1, h2, h3⟩
/-- a thing of one's own beside -/
theorem At.pin (x : At K z S H) {p : Addr} (h : H p = none) (o : HO) : At K ⟨z.T, z.ia, upd z.F p o⟩ S (upd H p o) := by
  have hp := x.freshI h
  refine ⟨x.len, x.nd, fun a u e => ?_, x.sep, fun n a b hn hb => ?_, fun a u e => ?_⟩
  · have c : a ≠ p := fun c => by
      have := x.freshT h
      subst c; rw [this] at e; cases e
    exact (upd_ne c).trans (x.sub a u e)
  · have c : a ≠ p := fun c => hp (c ▸ List.mem_of_getElem? hn)
    obtain ⟨u, hu, r⟩ := x.obj n a b hn hb
    exact ⟨u, (upd_ne c).trans hu, RO.mono2 (z := z) (y := ⟨z.T, z.ia, upd z.F p o⟩) (fun _ _ e => e) (fun _ _ e => e) r⟩
  · have e : upd z.F p o a = some u := e
    by_cases c : a = p
    · subst c
      rw [upd_same] at e ⊢
      exact ⟨e, x.freshT h, hp⟩
    · rw [upd_ne c] at e ⊢
      exact x.fr a u e
/-- it changes -/
theorem At.repin (x : At K z S H) {p : Addr} {G : Hp} {o : HO} (h : z.F = upd G p o) (o' : HO) : At K ⟨z.T, z.ia, upd G p o'⟩ S (upd H p o') := by
  obtain ⟨h1, h2, h3⟩ := x.fr p o (by rw [h, upd_same])
  refine ⟨x.len, x.nd, fun a u e => ?_, x.sep, fun n a b hn hb => ?_, fun a u e => ?_⟩
  · have c : a ≠ p := fun c => by subst c; rw [h2] at e; cases e
    exact (upd_ne c).trans (x.sub a u e)
  · have c : a ≠ p := fun c => h3 (c ▸ List.mem_of_getElem? hn)
    obtain ⟨u, hu, r⟩ := x.obj n a b hn hb
    exact ⟨u, (upd_ne c).trans hu, RO.mono2 (z := z) (y := ⟨z.T, z.ia, upd G p o'⟩) (fun _ _ e => e) (fun _ _ e => e) r⟩
  · have e : upd G p o' a = some u := e
    by_cases c : a = p
    · subst c
      rw [upd_same] at e ⊢
      exact ⟨e, h2, h3⟩
    · rw [upd_ne c] at e ⊢
      exact x.fr a u (by rw [h, upd_ne c]; exact e)
/-- it becomes a tree -/
theorem At.unpin (x : At K z S H) {p : Addr} {G : Hp} {o : HO} (h : z.F = upd G p o) (hG : G p = none) : At K ⟨upd z.T p o, z.ia, G⟩ S H := by
  obtain ⟨h1, h2, h3⟩ := x.fr p o (by rw [h, upd_same])
  refine ⟨x.len, x.nd, fun a u e => ?_, fun a ha => ?_, fun n a b hn hb => ?_, fun a u e => ?_⟩
  · have e : upd z.T p o a = some u := e
    by_cases c : a = p
    · subst c; rw [upd_same] at e; cases e; exact h1
    · rw [upd_ne c] at e; exact x.sub a u e
  · have c : a ≠ p := fun c => h3 (c ▸ ha)
    exact (upd_ne c).trans (x.sep a ha)
  · obtain ⟨u, hu, r⟩ := x.obj n a b hn hb
    exact ⟨u, hu, RO.mono2 (z := z) (y := ⟨upd z.T p o, z.ia, G⟩) (upd_ext h2 o) (fun _ _ e => e) r⟩
  · have e0 : G a = some u := e
    have c : a ≠ p := fun c => by
      subst c; rw [hG] at e0; cases e0
    obtain ⟨q1, q2, q3⟩ := x.fr a u (by rw [h, upd_ne c]; exact e)
    exact ⟨q1, (upd_ne c).trans q2, q3⟩
theorem At.sqT (x : At K z S H) {a : Addr} {xs : List V} (h : SqT K z.T a xs) : SqT K H a xs := SqT.mono x.sub h
theorem At.sqL (x : At K z S H) {a : Addr} {xs : List V} (h : SqL K z.T a xs) : SqL K H a xs := SqL.mono x.sub h
theorem At.lstO (x : At K z S H) {n : Nat} {a : Addr} {l : List D} (h : z.ia[n]? = some a) (e : S[n]? = some (.lst l)) : ∃ vs, H a = some (.lst vs) ∧ RL K z vs l := by
  obtain ⟨u, hu, vs, rfl, r⟩ := x.obj n a _ h e
  exact ⟨vs, hu, r⟩
end
end PU

set_option Elab.async false
set_option linter.all false
set_option maxRecDepth 100000
set_option maxHeartbeats 2000000
namespace PU
open PySem PySem.Spec PyProof.Rows L2 PP
inductive Rs (α : Type) where
  | ok (a : α) (S : Stt)
  | ex (x : Str) (fs : List (Str × D)) (S : Stt)
abbrev MX (α : Type) := Env → Stt → Option (Rs α)
def RX (K : PySem.W.Frag) (z : Z) (cls : Value) (dd : Option Addr) (x : Str) (fs : List (Str × D)) : Prop :=
  cls = Value.ref (He.ga K x) ∧ ((dd = none ∧ fs = []) ∨ ∃ dx vs, dd = some dx ∧ z.T dx = some (.xd vs) ∧ RF K z vs fs)
def RE (K : PySem.W.Frag) (z : Z) (σ : SS) (ρ : Env) : Prop := σ.length = ρ.length ∧ ∀ (i : Nat) d, ρ[i]? = some (some d) → ∃ v, σ[i]? = some (some v) ∧ R K z v d
/-- what an answer promises -/
def PostX {A B : Type} (Rel : Z → A → B → Prop) (K : PySem.W.Frag) (z : Z) (W : WX) (σ : SS) (Q : A → Hp → Prop) : Rs B → Prop
  | .ok b S' => ∀ z' a H', z.le z' → At K z' S' H' → Rel z' a b → Q a H'
  | .ex x fs S' => ∀ z' cls dd H', z.le z' → At K z' S' H' → RX K z' cls dd x fs → W cls dd σ H'
/-- the reading t keeps what the pure m computes -/
def SX {A B : Type} (Rel : Z → A → B → Prop) (K : PySem.W.Frag) (t : WX → SS → Hp → (A → Hp → Prop) → Prop) (m : MX B) : Prop :=
  ∀ ρ σ z S H W Q r, At K z S H → RE K z σ ρ → m ρ S = some r → PostX Rel K z W σ Q r → t W σ H Q
abbrev SE (K : PySem.W.Frag) (t : WX → TE) (m : MX D) : Prop := SX (R K) K t m
abbrev SB (K : PySem.W.Frag) (t : WX → TT) (m : MX Bool) : Prop := SX (fun _ a b => a = b) K t m
abbrev SA (K : PySem.W.Frag) (t : WX → TA) (m : MX (List D)) : Prop := SX (RL K) K t m
def mbind {B C : Type} (m : MX B) (k : B → MX C) : MX C := fun ρ S => match m ρ S with
  | none => none
  | some (.ex x fs S1) => some (.ex x fs S1)
  | some (.ok b S1) => k b ρ S1
section
variable {K : PySem.W.Frag} {A B A' B' : Type} {Rel : Z → A → B → Prop} {Rel' : Z → A' → B' → Prop}
theorem PostX.mono {z y : Z} {W : WX} {σ : SS} {Q : A → Hp → Prop} {r : Rs B} (l : z.le y) (h : PostX Rel K z W σ Q r) : PostX Rel K y W σ Q r := by
  cases r with
  | ok b S' => exact fun z' a H' l' => h z' a H' (l.trans l')
  | ex x fs S' => exact fun z' c d H' l' => h z' c d H' (l.trans l')
theorem RE.mono2 {z y : Z} {σ : SS} {ρ : Env} (lt : ∀ a o, z.T a = some o → y.T a = some o) (li : ∀ (n : Nat) a, z.ia[n]? = some a → y.ia[n]? = some a) (h : RE K z σ ρ) : RE K y σ ρ := ⟨h.1, fun i d e => by
  obtain ⟨v, a, r⟩ := h.2 i d e
  exact ⟨v, a, r.mono2 lt li⟩⟩
theorem RE.mono {z y : Z} {σ : SS} {ρ : Env} (l : z.le y) (h : RE K z σ ρ) : RE K y σ ρ := ⟨h.1, fun i d e => by
  obtain ⟨v, a, r⟩ := h.2 i d e
  exact ⟨v, a, r.mono l⟩⟩
theorem RE.set {z : Z} {σ : SS} {ρ : Env} (h : RE K z σ ρ) {v : V} {d : D} (r : R K z v d) (i : Nat) : RE K z (σ.set i (some v)) (ρ.set i (some d)) := by
  refine ⟨by simp [h.1], fun j e a => ?_⟩
  rw [List.getElem?_set] at a ⊢
  by_cases c : i = j
  · subst c
    by_cases c2 : i < ρ.length
    · have c3 : i < σ.length := h.1 ▸ c2
      simp [c2] at a
      subst a
      exact ⟨v, by simp [c3], r⟩
    · simp [c2] at a
  · simp [c] at a ⊢
    exact h.2 j e a
theorem RE.unset {z : Z} {σ : SS} {ρ : Env} (h : RE K z σ ρ) (i : Nat) : RE K z (σ.set i none) (ρ.set i none) := by
  refine ⟨by simp [h.1], fun j e a => ?_⟩
  rw [List.getElem?_set] at a ⊢
  by_cases c : i = j
  · subst c
    by_cases c2 : i < ρ.length
    · simp [c2] at a
    · simp [c2] at a
  · simp [c] at a ⊢
    exact h.2 j e a
theorem SX.bind {t : WX → SS → Hp → (A → Hp → Prop) → Prop} {m : MX B} {k : WX → SS → A → Hp → (A' → Hp → Prop) → Prop} {mk : B → MX B'} (h : SX Rel K t m)
    (hk : ∀ ρ σ z S H W Q r a b, At K z S H → RE K z σ ρ → Rel z a b → mk b ρ S = some r → PostX Rel' K z W σ Q r → k W σ a H Q) :
    SX Rel' K (fun W σ H Q => t W σ H fun a H1 => k W σ a H1 Q) (mbind m mk) := by
  intro ρ σ z S H W Q r x e hm hp
  unfold mbind at hm
  cases q : m ρ S with
  | none => rw [q] at hm; cases hm
  | some y =>
    rw [q] at hm
    cases y with
    | ex c fs S1 =>
      cases hm
      exact h ρ σ z S H W _ _ x e q hp
    | ok b S1 =>
      refine h ρ σ z S H W _ _ x e q ?_
      intro z' a H' l x' ra
      exact hk ρ σ z' S1 H' W Q r a b x' (e.mono l) ra hm (hp.mono l)
end
/-! ### plain expressions -/
def mVar (i : Nat) : MX D := fun ρ S => match ρ[i]? with
  | some (some d) => some (.ok d S)
  | _ => none
def mC (d : D) : MX D := fun _ S => some (.ok d S)
def mNil : MX (List D) := fun _ S => some (.ok [] S)
def mCons (a : MX D) (b : MX (List D)) : MX (List D) := mbind a fun d => mbind b fun ds => fun _ S => some (.ok (d :: ds) S)
abbrev M2 := D → D → Stt → Option (D × Stt)
abbrev M1 := D → Stt → Option (D × Stt)
abbrev MN := List D → Stt → Option (D × Stt)
@[simp] def okP {α : Type} : Option (α × Stt) → Option (Rs α)
  | none => none
  | some (a, S) => some (.ok a S)
def mOp (f : M2) (a b : MX D) : MX D := mbind a fun x => mbind b fun y => fun _ S => okP (f x y S)
def mUn (f : M1) (a : MX D) : MX D := mbind a fun x => fun _ S => okP (f x S)
def mCB (f : MN) (a : MX (List D)) : MX D := mbind a fun xs => fun _ S => okP (f xs S)
section
variable {K : PySem.W.Frag}
theorem okP_some {α : Type} {o : Option (α × Stt)} {r : Rs α} (h : okP o = some r) : ∃ a S, o = some (a, S) ∧ r = .ok a S := by
  cases o with
  | none => cases h
  | some p => exact ⟨p.1, p.2, rfl, (Option.some.inj h).symm⟩
def SR2 (K : PySem.W.Frag) (r : R2) (f : M2) : Prop := ∀ z S H x y a b Q c S', At K z S H → R K z x a → R K z y b → f a b S = some (c, S') → (∀ z' v H', z.le z' → At K z' S' H' → R K z' v c → Q v H') → r x y H Q
def SR1 (K : PySem.W.Frag) (r : V → Hp → VK → Prop) (f : M1) : Prop := ∀ z S H x a Q c S', At K z S H → R K z x a → f a S = some (c, S') → (∀ z' v H', z.le z' → At K z' S' H' → R K z' v c → Q v H') → r x H Q
def SRN (K : PySem.W.Frag) (r : List V → Hp → VK → Prop) (f : MN) : Prop := ∀ z S H xs as Q c S', At K z S H → RL K z xs as → f as S = some (c, S') → (∀ z' v H', z.le z' → At K z' S' H' → R K z' v c → Q v H') → r xs H Q
def SRM (K : PySem.W.Frag) (T : String) (r : V → List V → Hp → VK → Prop) (f : D → MN) : Prop := ∀ z S H x a xs as Q c S' , At K z S H → R K z x a → RL K z xs as → f a as S = some (c, S') → (∀ z' v H', z.le z' → At K z' S' H' → R K z' v c → Q v H') → r x xs H Q
theorem s_var (i : Nat) : SE K (fun _ => tVar i) (mVar i) := by
  intro ρ σ z S H W Q r x e hm hp
  unfold mVar at hm
  split at hm
  · rename_i d hd
    cases hm
    obtain ⟨v, hv, rv⟩ := e.2 i d hd
    exact ⟨v, hv, hp z v H (.refl z) x rv⟩
  · cases hm
theorem s_c {v : V} {d : D} (h : ∀ z, R K z v d) : SE K (fun _ => tC v) (mC d) := by
  intro ρ σ z S H W Q r x e hm hp
  cases hm
  exact hp z v H (.refl z) x (h z)
theorem s_non : SE K (fun _ => tC .non) (mC .non) := s_c fun _ => .non
theorem s_bl {b : Bool} : SE K (fun _ => tC (.bl b)) (mC (.bl b)) := s_c fun _ => .bl b
theorem s_int {i : Int} : SE K (fun _ => tC (.int i)) (mC (.int i)) := s_c fun _ => .int i
theorem s_str {s : Str} : SE K (fun _ => tC (.str s)) (mC (.str s)) := s_c fun _ => .str s
theorem s_ty {s : String} : SE K (fun _ => tC (.ty s)) (mC (.ty s)) := s_c fun _ => .ty s
theorem s_cls {s : Str} : SE K (fun _ => tC (.ref (He.ga K s))) (mC (.cls s)) := s_c fun _ => .cls s
theorem s_nil : SA K (fun _ => tNil) mNil := by
  intro ρ σ z S H W Q r x e hm hp
  cases hm
  exact hp z [] H (.refl z) x .nil
theorem s_cons {a : WX → TE} {b : WX → TA} {ma : MX D} {mb : MX (List D)} (ha : SE K a ma) (hb : SA K b mb) : SA K (fun W => tCons (a W) (b W)) (mCons ma mb) := by
  refine SX.bind (k := fun W σ v H Q => b W σ H fun vs H2 => Q (v :: vs) H2) ha ?_
  intro ρ σ z S H W Q r v d x e rv hm hp
  have hb' := SX.bind (Rel' := RL K) (k := fun W σ vs H Q => Q vs H) (mk := fun ds => fun _ S => some (.ok (d :: ds) S)) hb
  unfold mbind at hm
  cases q : mb ρ S with
  | none => rw [q] at hm; cases hm
  | some y =>
    rw [q] at hm
    cases y with
    | ex c fs S1 => cases hm; exact hb ρ σ z S H W _ _ x e q hp
    | ok ds S1 =>
      cases hm
      refine hb ρ σ z S H W _ _ x e q ?_
      intro z' vs H' l x' rs
      exact hp z' _ H' l x' (.cons (rv.mono l) rs)
theorem s_op {a b : WX → TE} {ma mb : MX D} {r : R2} {f : M2} (hr : SR2 K r f) (ha : SE K a ma) (hb : SE K b mb) : SE K (fun W => tOp r (a W) (b W)) (mOp f ma mb) := by
  refine SX.bind (k := fun W σ x H Q => b W σ H fun y H2 => r x y H2 Q) ha ?_
  intro ρ σ z S H W Q rr v d x e rv hm hp
  unfold mbind at hm
  cases q : mb ρ S with
  | none => rw [q] at hm; cases hm
  | some y =>
    rw [q] at hm
    cases y with
    | ex c fs S1 => cases hm; exact hb ρ σ z S H W _ _ x e q hp
    | ok d2 S1 =>
      obtain ⟨c, S2, e2, rfl⟩ := okP_some hm
      refine hb ρ σ z S H W _ _ x e q ?_
      intro z' v2 H' l x' r2
      exact hr z' S1 H' v v2 d d2 Q c S2 x' (rv.mono l) r2 e2 fun z'' w H'' l' x'' rw' => hp z'' w H'' (l.trans l') x'' rw'
theorem s_un {a : WX → TE} {ma : MX D} {r : V → Hp → VK → Prop} {f : M1} (hr : SR1 K r f) (ha : SE K a ma) : SE K (fun W => tUn r (a W)) (mUn f ma) := by
  refine SX.bind (k := fun W σ x H Q => r x H Q) ha ?_
  intro ρ σ z S H W Q rr v d x e rv hm hp
  obtain ⟨c, S2, e2, rfl⟩ := okP_some hm
  exact hr z S H v d Q c S2 x rv e2 hp
theorem s_cb {a : WX → TA} {ma : MX (List D)} {r : List V → Hp → VK → Prop} {f : MN} (hr : SRN K r f) (ha : SA K a ma) : SE K (fun W => tCB r (a W)) (mCB f ma) := by
  refine SX.bind (k := fun W σ x H Q => r x H Q) ha ?_
  intro ρ σ z S H W Q rr v d x e rv hm hp
  obtain ⟨c, S2, e2, rfl⟩ := okP_some hm
  exact hr z S H v d Q c S2 x rv e2 hp
end
/-! ### lists, tuples -/
def mTup (a : MX (List D)) : MX D := mbind a fun xs => fun _ S => if xs.length ≤ 16777216 then some (.ok (.tup xs) S) else none
def mLst (a : MX (List D)) : MX D := mbind a fun xs => fun _ S => if xs.length ≤ 16777216 then some (.ok (.lst xs) S) else none
/-- a list that may change -/
def mLstO (a : MX (List D)) : MX D := mbind a fun xs => fun _ S => if xs.length ≤ 16777216 then some (.ok (.obj S.length) (S ++ [.lst xs])) else none
def mDNew : MX D := fun _ S => some (.ok (.dct []) S)
def mDNewO : MX D := fun _ S => some (.ok (.obj S.length) (S ++ [.dct []]))
section
variable {K : PySem.W.Frag}
theorem s_tup {a : WX → TA} {ma : MX (List D)} (ha : SA K a ma) : SE K (fun W => tTup (a W)) (mTup ma) := by
  refine SX.bind (k := fun W σ xs H Q => xs.length ≤ sizeLine ∧ ∀ p, H p = none → Q (V.ref p) (upd H p (.tup xs))) ha ?_
  intro ρ σ z S H W Q rr v d x e rv hm hp
  split at hm
  · rename_i hl
    cases hm
    have hs := sizeLine_num
    refine ⟨by rw [rv.1]; omega, fun p h => ?_⟩
    obtain ⟨l, x'⟩ := x.newT h (.tup v)
    exact hp _ _ _ l x' (.mktup (.inl (.inl upd_same)) (rv.mono l))
  · cases hm
theorem s_lst {a : WX → TA} {ma : MX (List D)} (ha : SA K a ma) : SE K (fun W => tLst (a W)) (mLst ma) := by
  refine SX.bind (k := fun W σ xs H Q => xs.length ≤ sizeLine ∧ ∀ p, H p = none → Q (V.ref p) (upd H p (.lst xs))) ha ?_
  intro ρ σ z S H W Q rr v d x e rv hm hp
  split at hm
  · rename_i hl
    cases hm
    have hs := sizeLine_num
    refine ⟨by rw [rv.1]; omega, fun p h => ?_⟩
    obtain ⟨l, x'⟩ := x.newT h (.lst v)
    exact hp _ _ _ l x' (.mklst (.inl (.inl upd_same)) (rv.mono l))
  · cases hm
theorem s_lstO {a : WX → TA} {ma : MX (List D)} (ha : SA K a ma) : SE K (fun W => tLst (a W)) (mLstO ma) := by
  refine SX.bind (k := fun W σ xs H Q => xs.length ≤ sizeLine ∧ ∀ p, H p = none → Q (V.ref p) (upd H p (.lst xs))) ha ?_
  intro ρ σ z S H W Q rr v d x e rv hm hp
  split at hm
  · rename_i hl
    cases hm
    have hs := sizeLine_num
    refine ⟨by rw [rv.1]; omega, fun p h => ?_⟩
    obtain ⟨l, x', g⟩ := x.newO h (u := .lst v) (o := .lst d) ⟨v, rfl, rv⟩
    exact hp _ _ _ l x' (.obj g)
  · cases hm
theorem s_dnew : SE K (fun _ => tDNewK) mDNew := by
  intro ρ σ z S H W Q r x e hm hp
  cases hm
  intro p h
  obtain ⟨l, x'⟩ := x.newT h (.dK [])
  exact hp _ _ _ l x' (.dct upd_same rfl fun i p q a => by simp at a)
theorem s_dnewO : SE K (fun _ => tDNewK) mDNewO := by
  intro ρ σ z S H W Q r x e hm hp
  cases hm
  intro p h
  obtain ⟨l, x', g⟩ := x.newO h (u := .dK []) (o := .dct []) ⟨[], rfl, rfl, fun i p q a => by simp at a⟩
  exact hp _ _ _ l x' (.obj g)
end
/-- the items of a list -/
@[simp] def olst : Option O → Option (List D)
  | some (.lst l) => some l
  | _ => none
@[simp] def lsOf (S : Stt) : D → Option (List D)
  | .lst l => some l
  | .obj n => olst S[n]?
  | _ => none
theorem olst_some {o : Option O} {l : List D} (h : olst o = some l) : o = some (.lst l) := by
  cases o with
  | none => cases h
  | some p => cases p with
    | lst m => cases h; rfl
    | _ => cases h
section
variable {K : PySem.W.Frag} {z : Z} {S : Stt} {H : Hp}
theorem At.ls (x : At K z S H) {v : V} {d : D} {l : List D} (r : R K z v d) (e : lsOf S d = some l) : ∃ a vs, v = .ref a ∧ SqL K H a vs ∧ RL K z vs l := by
  cases d with
  | lst m =>
    cases e
    obtain ⟨a, vs, rfl, h, q⟩ := r.inv_lst
    exact ⟨a, vs, rfl, x.sqL h, q⟩
  | obj n =>
    obtain ⟨a, rfl, h⟩ := r.inv_obj
    obtain ⟨vs, hv, q⟩ := x.lstO h (olst_some e)
    exact ⟨a, vs, rfl, .inl (.inl hv), q⟩
  | _ => cases e
end
/-! ### tests -/
@[simp] def otru : Option O → Option Bool
  | some (.lst l) => some (!l.isEmpty)
  | some (.dct l) => some (!l.isEmpty)
  | _ => none
@[simp] def tru (S : Stt) : D → Option Bool
  | .non => some false
  | .bl b => some b
  | .int i => some (i != 0)
  | .str y => if y.length ≤ 16777216 then some ((y.length : Int) != 0) else none
  | .tup l => some (!l.isEmpty)
  | .lst l => some (!l.isEmpty)
  | .dct l => some (!l.isEmpty)
  | .obj n => otru S[n]?
  | _ => none
def mTest (a : MX D) : MX Bool := mbind a fun d => fun _ S => match d with
  | .bl b => some (.ok b S)
  | _ => none
def mTru (a : MX D) : MX Bool := mbind a fun d => fun _ S => match tru S d with
  | some b => some (.ok b S)
  | none => none
def mNot (a : MX Bool) : MX Bool := mbind a fun b => fun _ S => some (.ok (!b) S)
def mAnd (a b : MX Bool) : MX Bool := mbind a fun c => if c = true then b else fun _ S => some (.ok false S)
def mOr (a b : MX Bool) : MX Bool := mbind a fun c => if c = true then fun _ S => some (.ok true S) else b
def mIf {α : Type} (c : MX Bool) (a b : MX α) : MX α := mbind c fun k => if k = true then a else b
def mAndT (a b : MX D) : MX D := mbind a fun d => fun ρ S => match tru S d with
  | some k => if k = true then b ρ S else some (.ok d S)
  | none => none
def mOrT (a b : MX D) : MX D := mbind a fun d => fun ρ S => match tru S d with
  | some k => if k = true then some (.ok d S) else b ρ S
  | none => none
def mNotT (a : MX D) : MX D := mbind a fun d => fun _ S => match tru S d with
  | some b => some (.ok (.bl (!b)) S)
  | none => none
section
variable {K : PySem.W.Frag} {z : Z} {S : Stt} {H : Hp}
theorem RL.isEmpty {vs : List V} {ds : List D} (r : RL K z vs ds) : vs.isEmpty = ds.isEmpty := by
  have := r.1
  cases vs <;> cases ds <;> simp_all
theorem RF.isEmpty {κ : Type} {vs : List (κ × V)} {ds : List (κ × D)} (r : RF K z vs ds) : vs.isEmpty = ds.isEmpty := by
  have := congrArg List.length r.1
  cases vs <;> cases ds <;> simp_all
theorem At.tru (x : At K z S H) {v : V} {d : D} {k : Bool} (r : R K z v d) (e : tru S d = some k) : TruV K v H k := by
  cases d with
  | non => cases r; exact (Option.some.inj e).symm
  | bl b => cases r; exact (Option.some.inj e).symm
  | int i => cases r; exact (Option.some.inj e).symm
  | str y =>
    cases r
    have e : (if y.length ≤ 16777216 then some ((y.length : Int) != 0) else none) = some k := e
    split at e
    · rename_i h
      have hs := sizeLine_num
      exact ⟨by omega, (Option.some.inj e).symm⟩
    · cases e
  | tup l =>
    obtain ⟨a, vs, rfl, h, q⟩ := r.inv_tup
    exact .inr (.inl ⟨vs, x.sqT h, by rw [q.isEmpty]; exact (Option.some.inj e).symm⟩)
  | lst l =>
    obtain ⟨a, vs, rfl, h, q⟩ := r.inv_lst
    exact .inl ⟨vs, x.sqL h, by rw [q.isEmpty]; exact (Option.some.inj e).symm⟩
  | dct l =>
    obtain ⟨a, vs, rfl, h, q⟩ := r.inv_dct
    exact .inr (.inr ⟨vs, x.sub _ _ h, by rw [q.isEmpty]; exact (Option.some.inj e).symm⟩)
  | obj n =>
    obtain ⟨a, rfl, h⟩ := r.inv_obj
    have e : otru S[n]? = some k := e
    cases hl : S[n]? with
    | none => rw [hl] at e; cases e
    | some o =>
      rw [hl] at e
      obtain ⟨u, hu, q⟩ := x.obj n a _ h hl
      cases o with
      | lst l =>
        obtain ⟨vs, rfl, q⟩ := q
        exact .inl ⟨vs, .inl (.inl hu), by rw [q.isEmpty]; exact (Option.some.inj e).symm⟩
      | dct l =>
        obtain ⟨vs, rfl, q⟩ := q
        exact .inr (.inr ⟨vs, hu, by rw [q.isEmpty]; exact (Option.some.inj e).symm⟩)
      | ins => cases e
  | _ => cases e
theorem s_test {a : WX → TE} {ma : MX D} (ha : SE K a ma) : SB K (fun W => tTest (a W)) (mTest ma) := by
  refine SX.bind (k := fun W σ x H Q => ∃ k, x = .bl k ∧ Q k H) ha ?_
  intro ρ σ z S H W Q rr v d x e rv hm hp
  cases d with
  | bl b => cases hm; exact ⟨b, rv.inv_bl, hp z _ H (.refl z) x rfl⟩
  | _ => cases hm
theorem s_tru {a : WX → TE} {ma : MX D} (ha : SE K a ma) : SB K (fun W => uTru K (a W)) (mTru ma) := by
  refine SX.bind (k := fun W σ x H Q => ∃ k, TruV K x H k ∧ Q k H) ha ?_
  intro ρ σ z S H W Q rr v d x e rv hm hp
  cases q : PU.tru S d with
  | none => simp only [q] at hm; cases hm
  | some b =>
    simp only [q] at hm
    cases hm
    exact ⟨b, x.tru rv q, hp z _ H (.refl z) x rfl⟩
theorem s_not {a : WX → TT} {ma : MX Bool} (ha : SB K a ma) : SB K (fun W => tNot (a W)) (mNot ma) := by
  refine SX.bind (k := fun W σ c H Q => Q (!c) H) ha ?_
  intro ρ σ z S H W Q rr v d x e rv hm hp
  cases hm
  subst rv
  exact hp z _ H (.refl z) x rfl
theorem s_and {a b : WX → TT} {ma mb : MX Bool} (ha : SB K a ma) (hb : SB K b mb) : SB K (fun W => tAnd (a W) (b W)) (mAnd ma mb) := by
  refine SX.bind (k := fun W σ c H Q => if c = true then b W σ H Q else Q false H) ha ?_
  intro ρ σ z S H W Q rr v d x e rv hm hp
  subst rv
  cases v with
  | true => exact hb ρ σ z S H W Q rr x e hm hp
  | false => cases hm; exact hp z _ H (.refl z) x rfl
theorem s_or {a b : WX → TT} {ma mb : MX Bool} (ha : SB K a ma) (hb : SB K b mb) : SB K (fun W => tOr (a W) (b W)) (mOr ma mb) := by
  refine SX.bind (k := fun W σ c H Q => if c = true then Q true H else b W σ H Q) ha ?_
  intro ρ σ z S H W Q rr v d x e rv hm hp
  subst rv
  cases v with
  | false => exact hb ρ σ z S H W Q rr x e hm hp
  | true => cases hm; exact hp z _ H (.refl z) x rfl
theorem s_if {c : WX → TT} {a b : WX → TE} {mc : MX Bool} {ma mb : MX D} (hc : SB K c mc) (ha : SE K a ma) (hb : SE K b mb) : SE K (fun W => tIf (c W) (a W) (b W)) (mIf mc ma mb) := by
  refine SX.bind (k := fun W σ c H Q => if c = true then a W σ H Q else b W σ H Q) hc ?_
  intro ρ σ z S H W Q rr v d x e rv hm hp
  subst rv
  cases v with
  | true => exact ha ρ σ z S H W Q rr x e hm hp
  | false => exact hb ρ σ z S H W Q rr x e hm hp
theorem s_andT {a b : WX → TE} {ma mb : MX D} (ha : SE K a ma) (hb : SE K b mb) : SE K (fun W => tAndT K (a W) (b W)) (mAndT ma mb) := by
  refine SX.bind (k := fun W σ x H Q => ∃ k, TruV K x H k ∧ if k = true then b W σ H Q else Q x H) ha ?_
  intro ρ σ z S H W Q rr v d x e rv hm hp
  cases q : PU.tru S d with
  | none => simp only [q] at hm; cases hm
  | some k =>
    simp only [q] at hm
    refine ⟨k, x.tru rv q, ?_⟩
    cases k with
    | true => exact hb ρ σ z S H W Q rr x e hm hp
    | false => cases hm; exact hp z _ H (.refl z) x rv
theorem s_orT {a b : WX → TE} {ma mb : MX D} (ha : SE K a ma) (hb : SE K b mb) : SE K (fun W => tOrT K (a W) (b W)) (mOrT ma mb) := by
  refine SX.bind (k := fun W σ x H Q => ∃ k, TruV K x H k ∧ if k = true then Q x H else b W σ H Q) ha ?_
  intro ρ σ z S H W Q rr v d x e rv hm hp
  cases q : PU.tru S d with
  | none => simp only [q] at hm; cases hm
  | some k =>
    simp only [q] at hm
    refine ⟨k, x.tru rv q, ?_⟩
    cases k with
    | false => exact hb ρ σ z S H W Q rr x e hm hp
    | true => cases hm; exact hp z _ H (.refl z) x rv
theorem s_notT {a : WX → TE} {ma : MX D} (ha : SE K a ma) : SE K (fun W => tNotT K (a W)) (mNotT ma) := by
  refine SX.bind (k := fun W σ x H Q => ∃ k, TruV K x H k ∧ Q (V.bl (!k)) H) ha ?_
  intro ρ σ z S H W Q rr v d x e rv hm hp
  cases q : PU.tru S d with
  | none => simp only [q] at hm; cases hm
  | some k =>
    simp only [q] at hm
    cases hm
    exact ⟨k, x.tru rv q, hp z _ H (.refl z) x (.bl _)⟩
end
end PU

set_option Elab.async false
set_option linter.all false
set_option maxRecDepth 100000
set_option maxHeartbeats 2000000
namespace PU
open PySem PySem.Spec PyProof.Rows L2 PP
/-! ### statements -/
inductive Out where
  | nx (ρ : Env) (S : Stt) | rt (d : D) (S : Stt) | bk (ρ : Env) (S : Stt) | ct (ρ : Env) (S : Stt) | ex (x : Str) (fs : List (Str × D)) (ρ : Env) (S : Stt)
abbrev MS := Env → Stt → Option Out
def PostS (K : PySem.W.Frag) (z : Z) (W : WX) (E : Ends) : Out → Prop
  | .nx ρ S => ∀ z' σ H, z.le z' → At K z' S H → RE K z' σ ρ → E.nx σ H
  | .bk ρ S => ∀ z' σ H, z.le z' → At K z' S H → RE K z' σ ρ → E.bk σ H
  | .ct ρ S => ∀ z' σ H, z.le z' → At K z' S H → RE K z' σ ρ → E.ct σ H
  | .rt d S => ∀ z' v H, z.le z' → At K z' S H → R K z' v d → E.rt v H
  | .ex x fs ρ S => ∀ z' cls dd σ H, z.le z' → At K z' S H → RE K z' σ ρ → RX K z' cls dd x fs → W cls dd σ H
def SS1 (K : PySem.W.Frag) (t : WX → TS) (m : MS) : Prop := ∀ ρ σ z S H W E r, At K z S H → RE K z σ ρ → m ρ S = some r → PostS K z W E r → t W E σ H
theorem PostS.mono {K : PySem.W.Frag} {z y : Z} {W : WX} {E : Ends} {r : Out} (l : z.le y) (h : PostS K z W E r) : PostS K y W E r := by
  cases r with
  | nx => exact fun z' σ H l' => h z' σ H (l.trans l')
  | bk => exact fun z' σ H l' => h z' σ H (l.trans l')
  | ct => exact fun z' σ H l' => h z' σ H (l.trans l')
  | rt => exact fun z' σ H l' => h z' σ H (l.trans l')
  | ex => exact fun z' c d σ H l' => h z' c d σ H (l.trans l')
/-- an expression, then k -/
def sbind {B : Type} (m : MX B) (k : B → MS) : MS := fun ρ S => match m ρ S with
  | none => none
  | some (.ex x fs S1) => some (.ex x fs ρ S1)
  | some (.ok b S1) => k b ρ S1
theorem SS1.bind {K : PySem.W.Frag} {A B : Type} {Rel : Z → A → B → Prop} {t : WX → SS → Hp → (A → Hp → Prop) → Prop} {m : MX B} {k : WX → Ends → A → SS → Hp → Prop} {mk : B → MS} (h : SX Rel K t m)
    (hk : ∀ ρ σ z S H W E r a b, At K z S H → RE K z σ ρ → Rel z a b → mk b ρ S = some r → PostS K z W E r → k W E a σ H) : SS1 K (fun W E σ H => t W σ H fun a H1 => k W E a σ H1) (sbind m mk) := by
  intro ρ σ z S H W E r x e hm hp
  unfold sbind at hm
  cases q : m ρ S with
  | none => rw [q] at hm; cases hm
  | some y =>
    rw [q] at hm
    cases y with
    | ex c fs S1 =>
      cases hm
      exact h ρ σ z S H W _ _ x e q fun z' cls dd H' l x' rx => hp z' cls dd σ H' l x' (e.mono l) rx
    | ok b S1 =>
      refine h ρ σ z S H W _ _ x e q ?_
      intro z' a H' l x' ra
      exact hk ρ σ z' S1 H' W E r a b x' (e.mono l) ra hm (hp.mono l)
def mNext : MS := fun ρ S => some (.nx ρ S)
def mBreak : MS := fun ρ S => some (.bk ρ S)
def mCont : MS := fun ρ S => some (.ct ρ S)
def mRetN : MS := fun _ S => some (.rt .non S)
def mRet (a : MX D) : MS := sbind a fun d => fun _ S => some (.rt d S)
def mDrop (a : MX D) : MS := sbind a fun _ => mNext
def mIfS (c : MX Bool) (a b : MS) : MS := sbind c fun k => if k = true then a else b
def mSeq (a b : MS) : MS := fun ρ S => match a ρ S with
  | none => none
  | some (.nx ρ1 S1) => b ρ1 S1
  | some o => some o
section
variable {K : PySem.W.Frag}
theorem s_next : SS1 K (fun _ => tNext) mNext := fun ρ σ z S H W E r x e hm hp => by cases hm; exact hp z σ H (.refl z) x e
theorem s_break : SS1 K (fun _ => tBreak) mBreak := fun ρ σ z S H W E r x e hm hp => by cases hm; exact hp z σ H (.refl z) x e
theorem s_cont : SS1 K (fun _ => tCont) mCont := fun ρ σ z S H W E r x e hm hp => by cases hm; exact hp z σ H (.refl z) x e
theorem s_retN : SS1 K (fun _ => tRetN) mRetN := fun ρ σ z S H W E r x e hm hp => by cases hm; exact hp z .non H (.refl z) x .non
theorem s_ret {a : WX → TE} {ma : MX D} (ha : SE K a ma) : SS1 K (fun W => tRet (a W)) (mRet ma) := by
  refine SS1.bind (k := fun W E v σ H => E.rt v H) ha ?_
  intro ρ σ z S H W E r v d x e rv hm hp
  cases hm
  exact hp z v H (.refl z) x rv
theorem s_drop {a : WX → TE} {ma : MX D} (ha : SE K a ma) : SS1 K (fun W => tDrop (a W)) (mDrop ma) := by
  refine SS1.bind (k := fun W E v σ H => E.nx σ H) ha ?_
  intro ρ σ z S H W E r v d x e rv hm hp
  cases hm
  exact hp z σ H (.refl z) x e
theorem s_ifS {c : WX → TT} {a b : WX → TS} {mc : MX Bool} {ma mb : MS} (hc : SB K c mc) (ha : SS1 K a ma) (hb : SS1 K b mb) : SS1 K (fun W => tIfS (c W) (a W) (b W)) (mIfS mc ma mb) := by
  refine SS1.bind (k := fun W E b' σ H => if b' = true then a W E σ H else b W E σ H) hc ?_
  intro ρ σ z S H W E r v d x e rv hm hp
  subst rv
  cases v with
  | true => exact ha ρ σ z S H W E r x e hm hp
  | false => exact hb ρ σ z S H W E r x e hm hp
theorem s_seq {a b : WX → TS} {ma mb : MS} (ha : SS1 K a ma) (hb : SS1 K b mb) : SS1 K (fun W => tSeq (a W) (b W)) (mSeq ma mb) := by
  intro ρ σ z S H W E r x e hm hp
  unfold mSeq at hm
  cases q : ma ρ S with
  | none => rw [q] at hm; cases hm
  | some o =>
    rw [q] at hm
    refine ha ρ σ z S H W _ o x e q ?_
    cases o with
    | nx ρ1 S1 => exact fun z' σ' H' l x' e' => hb ρ1 σ' z' S1 H' W E r x' e' hm (hp.mono l)
    | rt => cases hm; exact hp
    | bk => cases hm; exact hp
    | ct => cases hm; exact hp
    | ex => cases hm; exact hp
end
/-! ### targets: ws, the slots it may set -/
abbrev MG := D → Env → Stt → Option (Env × Stt)
abbrev MGs := List D → Env → Stt → Option (Env × Stt)
def SG (K : PySem.W.Frag) (g : WX → TG) (m : MG) (ws : List Nat) : Prop := ∀ v d ρ σ z S H W Q ρ' S', At K z S H → RE K z σ ρ → R K z v d → m d ρ S = some (ρ', S') →
  (∀ z' σ' H', z.le z' → At K z' S' H' → RE K z' σ' ρ' → (∀ vs, (∀ i, i ∈ ws → i ∈ vs) → wipe σ' vs = wipe σ vs) → Q σ' H') → g W v σ H Q
def SGs (K : PySem.W.Frag) (g : WX → TGs) (m : MGs) (ws : List Nat) : Prop := ∀ v d ρ σ z S H W Q ρ' S', At K z S H → RE K z σ ρ → RL K z v d → m d ρ S = some (ρ', S') →
  (∀ z' σ' H', z.le z' → At K z' S' H' → RE K z' σ' ρ' → (∀ vs, (∀ i, i ∈ ws → i ∈ vs) → wipe σ' vs = wipe σ vs) → Q σ' H') → g W v σ H Q
def mgName (i : Nat) : MG := fun d ρ S => some (ρ.set i (some d), S)
def mgNil : MGs := fun ds ρ S => match ds with
  | [] => some (ρ, S)
  | _ => none
def mgCons (a : MG) (b : MGs) : MGs := fun ds ρ S => match ds with
  | [] => none
  | d :: r => match a d ρ S with
    | none => none
    | some (ρ1, S1) => b r ρ1 S1
def mgTup (n : Nat) (b : MGs) : MG := fun d ρ S => match d with
  | .tup l => if l.length = n then b l ρ S else none
  | _ => none
abbrev MSet := D → D → D → Stt → Option Stt
def SSet (K : PySem.W.Frag) (t : TSet) (f : MSet) : Prop := ∀ z S H o i v a b c Q S', At K z S H → R K z o a → R K z i b → R K z v c → f a b c S = some S' → (∀ z' H', z.le z' → At K z' S' H' → Q H') → t o i v H Q
def mgSub (o i : MX D) (f : MSet) : MG := fun d ρ S => match o ρ S with
  | some (.ok a S1) => match i ρ S1 with
    | some (.ok b S2) => match f a b d S2 with
      | some S3 => some (ρ, S3)
      | none => none
    | _ => none
  | _ => none
def mAsg (a : MX D) (g : MG) : MS := sbind a fun d => fun ρ S => match g d ρ S with
  | some (ρ1, S1) => some (.nx ρ1 S1)
  | none => none
def mPar (i j : Nat) (a : MX (List D)) : MS := sbind a fun ds => fun ρ S => match ds with
  | [d, e] => some (.nx ((ρ.set i (some d)).set j (some e)) S)
  | _ => none
theorem wipe_set {α : Type} (σ : List (Option V)) (i : Nat) (v : Option V) : ∀ vs : List Nat, i ∈ vs → wipe (σ.set i v) vs = wipe σ vs
  | [], h => by cases h
  | w :: ws, h => by
    show (wipe (σ.set i v) ws).set w none = (wipe σ ws).set w none
    by_cases c : i ∈ ws
    · rw [wipe_set (α := α) σ i v ws c]
    · have e : i = w := by
        rcases List.mem_cons.mp h with h | h
        · exact h
        · exact absurd h c
      subst e
      have q : ∀ us : List Nat, i ∉ us → wipe (σ.set i v) us = (wipe σ us).set i v := fun us => by
        induction us with
        | nil => intro _; rfl
        | cons u us ih =>
          intro n
          have n1 : i ≠ u := fun e => n (by simp [e])
          have n2 : i ∉ us := fun m => n (by simp [m])
          show (wipe (σ.set i v) us).set u none = ((wipe σ us).set u none).set i v
          rw [ih n2, List.set_comm _ _ n1]
      rw [q ws c, List.set_set]
section
variable {K : PySem.W.Frag}
theorem sg_name (i : Nat) : SG K (fun _ => gName i) (mgName i) [i] := by
  intro v d ρ σ z S H W Q ρ' S' x e rv hm hp
  cases hm
  exact hp z _ H (.refl z) x (e.set rv i) fun vs h => wipe_set (α := Nat) σ i _ vs (h i (by simp))
theorem sg_nil : SGs K (fun _ => gNil) mgNil [] := by
  intro v d ρ σ z S H W Q ρ' S' x e rv hm hp
  cases d with
  | nil =>
    cases hm
    exact ⟨rv.inv_nil, hp z σ H (.refl z) x e fun _ _ => rfl⟩
  | cons a b => cases hm
theorem sg_cons {a : WX → TG} {b : WX → TGs} {ma : MG} {mb : MGs} {u w : List Nat} (ha : SG K a ma u) (hb : SGs K b mb w) : SGs K (fun W => gCons (a W) (b W)) (mgCons ma mb) (u ++ w) := by
  intro v d ρ σ z S H W Q ρ' S' x e rv hm hp
  cases d with
  | nil => cases hm
  | cons d r =>
    obtain ⟨v0, vr, rfl, h0, hr⟩ := rv.inv_cons
    refine ⟨v0, vr, rfl, ?_⟩
    simp only [mgCons] at hm
    cases q : ma d ρ S with
    | none => rw [q] at hm; cases hm
    | some y =>
      obtain ⟨ρ1, S1⟩ := y
      rw [q] at hm
      refine ha v0 d ρ σ z S H W _ ρ1 S1 x e h0 q ?_
      intro z' σ' H' l x' e' w'
      refine hb vr r ρ1 σ' z' S1 H' W Q ρ' S' x' e' (hr.mono l) hm ?_
      intro z'' σ'' H'' l' x'' e'' w''
      refine hp z'' σ'' H'' (l.trans l') x'' e'' fun vs h => ?_
      rw [w'' vs fun i m => h i (by simp [m]), w' vs fun i m => h i (by simp [m])]
theorem sg_tup {n : Nat} {b : WX → TGs} {mb : MGs} {w : List Nat} (hb : SGs K b mb w) : SG K (fun W => gTup K n (b W)) (mgTup n mb) w := by
  intro v d ρ σ z S H W Q ρ' S' x e rv hm hp
  cases d with
  | tup l =>
    simp only [mgTup] at hm
    split at hm
    · rename_i hl
      obtain ⟨a, vs, rfl, h, q⟩ := rv.inv_tup
      exact ⟨a, vs, rfl, x.sqT h, q.1.trans hl, hb vs l ρ σ z S H W Q ρ' S' x e q hm hp⟩
    · cases hm
  | _ => cases hm
theorem sg_sub {o i : WX → TE} {mo mi : MX D} {t : TSet} {f : MSet} (ho : SE K o mo) (hi : SE K i mi) (hf : SSet K t f) : SG K (fun W => gSub (o W) (i W) t) (mgSub mo mi f) [] := by
  intro v d ρ σ z S H W Q ρ' S' x e rv hm hp
  unfold mgSub at hm
  cases q : mo ρ S with
  | none => rw [q] at hm; cases hm
  | some y =>
    rw [q] at hm
    cases y with
    | ex => cases hm
    | ok a S1 =>
      refine ho ρ σ z S H W _ _ x e q ?_
      intro z1 v1 H1 l1 x1 r1
      simp only at hm
      cases q2 : mi ρ S1 with
      | none => rw [q2] at hm; cases hm
      | some y2 =>
        rw [q2] at hm
        cases y2 with
        | ex => cases hm
        | ok b S2 =>
          refine hi ρ σ z1 S1 H1 W _ _ x1 (e.mono l1) q2 ?_
          intro z2 v2 H2 l2 x2 r2
          simp only at hm
          cases q3 : f a b d S2 with
          | none => rw [q3] at hm; cases hm
          | some S3 =>
            rw [q3] at hm
            cases hm
            refine hf z2 S2 H2 v1 v2 v a b d _ _ x2 (r1.mono l2) r2 (rv.mono (l1.trans l2)) q3 ?_
            intro z3 H3 l3 x3
            have l := (l1.trans l2).trans l3
            exact hp z3 σ H3 l x3 (e.mono l) fun _ _ => rfl
theorem s_asg {a : WX → TE} {ma : MX D} {g : WX → TG} {mg : MG} {ws : List Nat} (ha : SE K a ma) (hg : SG K g mg ws) : SS1 K (fun W => tAsg (a W) (g W)) (mAsg ma mg) := by
  refine SS1.bind (k := fun W E v σ H => g W v σ H E.nx) ha ?_
  intro ρ σ z S H W E r v d x e rv hm hp
  cases q : mg d ρ S with
  | none => simp only [q] at hm; cases hm
  | some y =>
    simp only [q] at hm
    cases hm
    exact hg v d ρ σ z S H W _ _ _ x e rv q fun z' σ' H' l x' e' _ => hp z' σ' H' l x' e'
theorem s_par {i j : Nat} {a : WX → TA} {ma : MX (List D)} (ha : SA K a ma) : SS1 K (fun W => tPar i j (a W)) (mPar i j ma) := by
  refine SS1.bind (k := fun W E vs σ H => ∃ v w, vs = [v, w] ∧ E.nx ((σ.set i (some v)).set j (some w)) H) ha ?_
  intro ρ σ z S H W E r vs ds x e rv hm hp
  match ds, hm with
  | [d, f], hm =>
    cases hm
    obtain ⟨v, r1, rfl, h1, q1⟩ := rv.inv_cons
    obtain ⟨w, r2, rfl, h2, q2⟩ := q1.inv_cons
    cases q2.inv_nil
    exact ⟨v, w, rfl, hp z _ H (.refl z) x ((e.set h1 i).set h2 j)⟩
end
/-! ### loops -/
/-- the body for each item, one behind another -/
def mLoop (ok : Stt → Bool) (g : MG) (b : MS) : List D → MS
  | [] => fun ρ S => if ok S = true then some (.nx ρ S) else none
  | d :: r => fun ρ S => if ok S = true then (match g d ρ S with
    | none => none
    | some (ρ1, S1) => match b ρ1 S1 with
      | none => none
      | some (.nx ρ2 S2) => mLoop ok g b r ρ2 S2
      | some (.ct ρ2 S2) => mLoop ok g b r ρ2 S2
      | some (.bk ρ2 S2) => some (.nx ρ2 S2)
      | some o => some o) else none
section
variable {K : PySem.W.Frag}
theorem s_goL {g : WX → TG} {mg : MG} {ws : List Nat} {b : WX → TS} {mb : MS} (hg : SG K g mg ws) (hb : SS1 K b mb) {okm : Stt → Bool} {ok : Hp → Prop} {z0 : Z}
    (hok : ∀ z S H, z0.le z → At K z S H → okm S = true → ok H) : ∀ (ds : List D) (vs : List V) ρ σ z S H W E r, z0.le z → RL K z vs ds → At K z S H → RE K z σ ρ → mLoop okm mg mb ds ρ S = some r → PostS K z W E r → goL ok (g W) (b W) E vs σ H := by
  intro ds
  induction ds with
  | nil =>
    intro vs ρ σ z S H W E r l0 rl x e hm hp
    cases rl.inv_nil
    simp only [mLoop] at hm
    split at hm
    · rename_i h
      cases hm
      exact ⟨hok z S H l0 x h, hp z σ H (.refl z) x e⟩
    · cases hm
  | cons d ds ih =>
    intro vs ρ σ z S H W E r l0 rl x e hm hp
    obtain ⟨v, vr, rfl, h0, hr⟩ := rl.inv_cons
    simp only [mLoop] at hm
    split at hm
    · rename_i h
      refine ⟨hok z S H l0 x h, ?_⟩
      cases q : mg d ρ S with
      | none => rw [q] at hm; cases hm
      | some y =>
        obtain ⟨ρ1, S1⟩ := y
        rw [q] at hm
        refine hg v d ρ σ z S H W _ ρ1 S1 x e h0 q ?_
        intro z1 σ1 H1 l1 x1 e1 _
        simp only at hm
        cases q2 : mb ρ1 S1 with
        | none => rw [q2] at hm; cases hm
        | some o =>
          rw [q2] at hm
          refine hb ρ1 σ1 z1 S1 H1 W _ o x1 e1 q2 ?_
          cases o with
          | nx ρ2 S2 => exact fun z2 σ2 H2 l2 x2 e2 => ih vr ρ2 σ2 z2 S2 H2 W E r ((l0.trans l1).trans l2) (hr.mono (l1.trans l2)) x2 e2 hm (hp.mono (l1.trans l2))
          | ct ρ2 S2 => exact fun z2 σ2 H2 l2 x2 e2 => ih vr ρ2 σ2 z2 S2 H2 W E r ((l0.trans l1).trans l2) (hr.mono (l1.trans l2)) x2 e2 hm (hp.mono (l1.trans l2))
          | bk ρ2 S2 => cases hm; exact fun z2 σ2 H2 l2 x2 e2 => hp z2 σ2 H2 (l1.trans l2) x2 e2
          | rt => cases hm; exact hp.mono l1
          | ex => cases hm; exact hp.mono l1
    · cases hm
end
/-- what stands in a thing that is walked, and whether it still stands so -/
@[simp] def walked (S : Stt) : D → Option (List D × (Stt → Bool))
  | .lst l => some (l, fun _ => true)
  | .tup l => some (l, fun _ => true)
  | .str s => some (s.cps.toList.map fun c => .str ⟨#[c]⟩, fun _ => true)
  | _ => none
def mFor (a : MX D) (g : MG) (b : MS) : MS := sbind a fun d => fun ρ S => match walked S d with
  | some (l, ok) => mLoop ok g b l ρ S
  | none => none
def upD (lo : Int) : Nat → List D
  | 0 => []
  | n + 1 => .int lo :: upD (lo + 1) n
def mForR1 (a : MX D) (g : MG) (b : MS) : MS := sbind a fun d => fun ρ S => match d with
  | .int j => if -(2 ^ 62) ≤ j ∧ j < 2 ^ 62 then mLoop (fun _ => true) g b (upD 0 j.toNat) ρ S else none
  | _ => none
@[simp] def mR2 (g : MG) (b : MS) : D → D → MS
  | .int i, .int j => fun ρ S => if (-(2 ^ 62) ≤ i ∧ i < 2 ^ 62) ∧ -(2 ^ 62) ≤ j ∧ j < 2 ^ 62 then mLoop (fun _ => true) g b (upD i (j - i).toNat) ρ S else none
  | _, _ => fun _ _ => none
def mForR2 (a c : MX D) (g : MG) (b : MS) : MS := sbind a fun d => sbind c fun d2 => mR2 g b d d2
def enumD (k : Int) : List D → List D
  | [] => []
  | d :: r => .tup [.int k, d] :: enumD (k + 1) r
def zipD : List D → List D → List D
  | x :: xs, y :: ys => .tup [x, y] :: zipD xs ys
  | _, _ => []
def mForE (a : MX D) (g : MG) (b : MS) : MS := sbind a fun d => match d with
  | .lst l => mLoop (fun _ => true) g b (enumD 0 l)
  | _ => fun _ _ => none
@[simp] def mZ (g : MG) (b : MS) : D → D → MS
  | .lst l, .lst m => mLoop (fun _ => true) g b (zipD l m)
  | _, _ => fun _ _ => none
def mForZ (a c : MX D) (g : MG) (b : MS) : MS := sbind a fun d => sbind c fun d2 => mZ g b d d2
section
variable {K : PySem.W.Frag} {z : Z}
theorem RL.upD (n : Nat) : ∀ lo : Int, RL K z (upTo lo n) (PU.upD lo n) := by
  induction n with
  | zero => intro lo; exact .nil
  | succ n ih => intro lo; exact .cons (.int lo) (ih _)
theorem s_for {a : WX → TE} {ma : MX D} {g : WX → TG} {mg : MG} {ws : List Nat} {b : WX → TS} {mb : MS} (ha : SE K a ma) (hg : SG K g mg ws) (hb : SS1 K b mb) : SS1 K (fun W => uFor K (a W) (g W) (b W)) (mFor ma mg mb) := by
  refine SS1.bind (k := fun W E v σ H => walkV K v (g W) (b W) E σ H) ha ?_
  intro ρ σ z S H W E r v d x e rv hm hp
  cases d with
  | lst l =>
    obtain ⟨a, vs, rfl, h, q⟩ := rv.inv_lst
    exact .inl ⟨a, vs, rfl, x.sqL h, s_goL hg hb (z0 := z) (okm := fun _ => true) (fun z' S' H' l' x' _ => x'.sqL (SqL.mono l'.t h)) l vs ρ σ z S H W E r (.refl z) q x e hm hp⟩
  | tup l =>
    obtain ⟨a, vs, rfl, h, q⟩ := rv.inv_tup
    exact .inr (.inl ⟨a, vs, rfl, x.sqT h, s_goL hg hb (z0 := z) (okm := fun _ => true) (fun z' S' H' l' x' _ => x'.sqT (SqT.mono l'.t h)) l vs ρ σ z S H W E r (.refl z) q x e hm hp⟩)
  | str s =>
    cases rv
    exact .inr (.inr ⟨s, rfl, s_goL hg hb (z0 := z) (okm := fun _ => true) (fun _ _ _ _ _ _ => trivial) _ (signs s) ρ σ z S H W E r (.refl z) (RL.map fun _ _ => .str _) x e hm hp⟩)
  | _ => cases hm
theorem s_forR1 {a : WX → TE} {ma : MX D} {g : WX → TG} {mg : MG} {ws : List Nat} {b : WX → TS} {mb : MS} (ha : SE K a ma) (hg : SG K g mg ws) (hb : SS1 K b mb) : SS1 K (fun W => uForR1 (a W) (g W) (b W)) (mForR1 ma mg mb) := by
  refine SS1.bind (k := fun W E v σ H => ∃ j : Int, v = .int j ∧ -(2 ^ 62) ≤ j ∧ j < 2 ^ 62 ∧ goL (fun _ => True) (g W) (b W) E (upTo 0 j.toNat) σ H) ha ?_
  intro ρ σ z S H W E r v d x e rv hm hp
  cases d with
  | int j =>
    cases rv
    simp only at hm
    split at hm
    · rename_i h
      exact ⟨j, rfl, h.1, h.2, s_goL hg hb (z0 := z) (okm := fun _ => true) (fun _ _ _ _ _ _ => trivial) _ _ ρ σ z S H W E r (.refl z) (RL.upD _ _) x e hm hp⟩
    · cases hm
  | _ => cases hm
theorem s_forR2 {a c : WX → TE} {ma mc : MX D} {g : WX → TG} {mg : MG} {ws : List Nat} {b : WX → TS} {mb : MS} (ha : SE K a ma) (hc : SE K c mc) (hg : SG K g mg ws) (hb : SS1 K b mb) : SS1 K (fun W => uForR2 (a W) (c W) (g W) (b W)) (mForR2 ma mc mg mb) := by
  refine SS1.bind (k := fun W E v σ H => c W σ H fun y H2 => ∃ i j : Int, v = .int i ∧ y = .int j ∧ (-(2 ^ 62) ≤ i ∧ i < 2 ^ 62 ∧ -(2 ^ 62) ≤ j ∧ j < 2 ^ 62) ∧ goL (fun _ => True) (g W) (b W) E (upTo i (j - i).toNat) σ H2) ha ?_
  intro ρ σ z S H W E r v d x e rv hm hp
  refine SS1.bind (k := fun W E y σ H2 => ∃ i j : Int, v = .int i ∧ y = .int j ∧ (-(2 ^ 62) ≤ i ∧ i < 2 ^ 62 ∧ -(2 ^ 62) ≤ j ∧ j < 2 ^ 62) ∧ goL (fun _ => True) (g W) (b W) E (upTo i (j - i).toNat) σ H2)
    (mk := fun d2 => mR2 mg mb d d2) hc ?_ ρ σ z S H W E r x e hm hp
  intro ρ σ z S H W E r y d2 x e ry hm hp
  cases d with
  | int i =>
    cases rv
    cases d2 with
    | int j =>
      cases ry
      simp only [mR2] at hm
      split at hm
      · rename_i h
        exact ⟨i, j, rfl, rfl, ⟨h.1.1, h.1.2, h.2.1, h.2.2⟩, s_goL hg hb (z0 := z) (okm := fun _ => true) (fun _ _ _ _ _ _ => trivial) _ _ ρ σ z S H W E r (.refl z) (RL.upD _ _) x e hm hp⟩
      · cases hm
    | _ => cases hm
  | _ => cases hm
/-- the same, each item in a new tuple -/
inductive RT (K : PySem.W.Frag) (z : Z) : List (List V) → List D → Prop
  | nil : RT K z [] []
  | cons {vs : List V} {l : List D} {vss : List (List V)} {ds : List D} (h : RL K z vs l) (r : RT K z vss ds) : RT K z (vs :: vss) (.tup l :: ds)
theorem RT.mono2 {y : Z} (lt : ∀ a o, z.T a = some o → y.T a = some o) (li : ∀ (n : Nat) a, z.ia[n]? = some a → y.ia[n]? = some a) {vss : List (List V)} {ds : List D} (h : RT K z vss ds) : RT K y vss ds := by
  induction h with
  | nil => exact .nil
  | cons h _ ih => exact .cons (h.mono2 lt li) ih
theorem RT.mono {y : Z} (l : z.le y) {vss : List (List V)} {ds : List D} (h : RT K z vss ds) : RT K y vss ds := by
  induction h with
  | nil => exact .nil
  | cons h _ ih => exact .cons (h.mono l) ih
theorem RT.enum {vs : List V} {ds : List D} (r : RL K z vs ds) : ∀ k : Int, RT K z (enumP k vs) (enumD k ds) := by
  induction ds generalizing vs with
  | nil => intro k; cases r.inv_nil; exact .nil
  | cons d ds ih =>
    intro k
    obtain ⟨v, vr, rfl, h, q⟩ := r.inv_cons
    exact .cons (.cons (.int k) (.cons h .nil)) (ih q _)
theorem RT.zip {vs ws : List V} {ds es : List D} (r : RL K z vs ds) (q : RL K z ws es) : RT K z (zipP vs ws) (zipD ds es) := by
  induction ds generalizing vs ws es with
  | nil => cases r.inv_nil; exact .nil
  | cons d ds ih =>
    obtain ⟨v, vr, rfl, h, t⟩ := r.inv_cons
    cases es with
    | nil => cases q.inv_nil; exact .nil
    | cons e es =>
      obtain ⟨w, wr, rfl, h2, t2⟩ := q.inv_cons
      exact .cons (.cons h (.cons h2 .nil)) (ih t t2)
theorem s_goF {g : WX → TG} {mg : MG} {ws : List Nat} {b : WX → TS} {mb : MS} (hg : SG K g mg ws) (hb : SS1 K b mb) {ok : Hp → Prop} {z0 : Z}
    (hok : ∀ z S H, z0.le z → At K z S H → ok H) : ∀ (ds : List D) (vs : List (List V)) ρ σ z S H W E r, z0.le z → RT K z vs ds → At K z S H → RE K z σ ρ → mLoop (fun _ => true) mg mb ds ρ S = some r → PostS K z W E r → goF ok (g W) (b W) E vs σ H := by
  intro ds
  induction ds with
  | nil =>
    intro vs ρ σ z S H W E r l0 rl x e hm hp
    cases rl
    simp only [mLoop, if_true] at hm
    cases hm
    exact ⟨hok z S H l0 x, hp z σ H (.refl z) x e⟩
  | cons d ds ih =>
    intro vs ρ σ z S H W E r l0 rl x e hm hp
    cases rl with
    | @cons v l vr _ h0 hr =>
    simp only [mLoop, if_true] at hm
    refine ⟨hok z S H l0 x, fun T hT => ?_⟩
    obtain ⟨lz, xz⟩ := x.newT hT (.tup v)
    cases q : mg (.tup l) ρ S with
    | none => rw [q] at hm; cases hm
    | some y =>
      obtain ⟨ρ1, S1⟩ := y
      rw [q] at hm
      refine hg (.ref T) (.tup l) ρ σ _ S _ W _ ρ1 S1 xz (e.mono lz) (.mktup (.inl (.inl upd_same)) (h0.mono lz)) q ?_
      intro z1 σ1 H1 l1 x1 e1 _
      have l1 := lz.trans l1
      simp only at hm
      cases q2 : mb ρ1 S1 with
      | none => rw [q2] at hm; cases hm
      | some o =>
        rw [q2] at hm
        refine hb ρ1 σ1 z1 S1 H1 W _ o x1 e1 q2 ?_
        cases o with
        | nx ρ2 S2 => exact fun z2 σ2 H2 l2 x2 e2 => ih vr ρ2 σ2 z2 S2 H2 W E r ((l0.trans l1).trans l2) (hr.mono (l1.trans l2)) x2 e2 hm (hp.mono (l1.trans l2))
        | ct ρ2 S2 => exact fun z2 σ2 H2 l2 x2 e2 => ih vr ρ2 σ2 z2 S2 H2 W E r ((l0.trans l1).trans l2) (hr.mono (l1.trans l2)) x2 e2 hm (hp.mono (l1.trans l2))
        | bk ρ2 S2 => cases hm; exact fun z2 σ2 H2 l2 x2 e2 => hp z2 σ2 H2 (l1.trans l2) x2 e2
        | rt => cases hm; exact hp.mono l1
        | ex => cases hm; exact hp.mono l1
theorem s_forE {a : WX → TE} {ma : MX D} {g : WX → TG} {mg : MG} {ws : List Nat} {b : WX → TS} {mb : MS} (ha : SE K a ma) (hg : SG K g mg ws) (hb : SS1 K b mb) : SS1 K (fun W => uForE K (a W) (g W) (b W)) (mForE ma mg mb) := by
  refine SS1.bind (k := fun W E v σ H => ∃ a xs, v = .ref a ∧ SqL K H a xs ∧ goF (fun H => SqL K H a xs) (g W) (b W) E (enumP 0 xs) σ H) ha ?_
  intro ρ σ z S H W E r v d x e rv hm hp
  cases d with
  | lst l =>
    obtain ⟨a, vs, rfl, h, q⟩ := rv.inv_lst
    exact ⟨a, vs, rfl, x.sqL h, s_goF hg hb (z0 := z) (fun z' S' H' l' x' => x'.sqL (SqL.mono l'.t h)) _ _ ρ σ z S H W E r (.refl z) (RT.enum q 0) x e hm hp⟩
  | _ => cases hm
theorem s_forZ {a c : WX → TE} {ma mc : MX D} {g : WX → TG} {mg : MG} {ws : List Nat} {b : WX → TS} {mb : MS} (ha : SE K a ma) (hc : SE K c mc) (hg : SG K g mg ws) (hb : SS1 K b mb) : SS1 K (fun W => uForZ K (a W) (c W) (g W) (b W)) (mForZ ma mc mg mb) := by
  intro ρ σ z S H W E r x e hm hp
  unfold mForZ sbind at hm
  cases q : ma ρ S with
  | none => rw [q] at hm; cases hm
  | some y =>
    rw [q] at hm
    cases y with
    | ex c' fs S1 =>
      cases hm
      exact ha ρ σ z S H W _ _ x e q fun z' cls dd H' l x' rx => hp z' cls dd σ H' l x' (e.mono l) rx
    | ok d S1 =>
      refine ha ρ σ z S H W _ _ x e q ?_
      intro z1 v H1 l1 x1 rv
      simp only at hm
      cases q2 : mc ρ S1 with
      | none => rw [q2] at hm; cases hm
      | some y =>
        rw [q2] at hm
        cases y with
        | ex c' fs S2 =>
          cases hm
          exact hc ρ σ z1 S1 H1 W _ _ x1 (e.mono l1) q2 fun z' cls dd H' l x' rx => hp z' cls dd σ H' (l1.trans l) x' (e.mono (l1.trans l)) rx
        | ok d2 S2 =>
          refine hc ρ σ z1 S1 H1 W _ _ x1 (e.mono l1) q2 ?_
          intro z2 v2 H2 l2 x2 rv2
          have rv := rv.mono l2
          cases d with
          | lst l =>
            cases d2 with
            | lst m =>
              obtain ⟨a, vs, rfl, h, qa⟩ := rv.inv_lst
              obtain ⟨b', vs2, rfl, h2, qb⟩ := rv2.inv_lst
              have l := l1.trans l2
              exact ⟨a, vs, b', vs2, rfl, rfl, x2.sqL h, x2.sqL h2, s_goF hg hb (z0 := z2) (fun z' S' H' l' x' => ⟨x'.sqL (SqL.mono l'.t h), x'.sqL (SqL.mono l'.t h2)⟩) _ _ ρ σ z2 S2 H2 W E r (.refl z2) (RT.zip qa qb) x2 (e.mono l) hm (hp.mono l)⟩
            | _ => cases hm
          | _ => cases hm
end
end PU

set_option Elab.async false
set_option linter.all false
set_option maxRecDepth 100000
set_option maxHeartbeats 2000000
namespace PU
open PySem PySem.Spec PyProof.Rows L2 PP
/-! ### comprehensions -/
@[simp] def mwipe (ρ : Env) : List Nat → Env
  | [] => ρ
  | v :: vs => (mwipe ρ vs).set v none
def mComp (g : MG) (tt : MX Bool) (te : MX D) (vs : List Nat) (ρ : Env) : List D → List D → Stt → Option (Rs D)
  | [], acc, S => some (.ok (.lst acc) S)
  | d :: r, acc, S => match g d (mwipe ρ vs) S with
    | none => none
    | some (ρ2, S2) => match tt ρ2 S2 with
      | some (.ok true S3) => (match te ρ2 S3 with
        | some (.ok y S4) => if acc.length < 16777216 then mComp g tt te vs ρ r (acc ++ [y]) S4 else none
        | _ => none)
      | some (.ok false S3) => mComp g tt te vs ρ r acc S3
      | _ => none
theorem wipe_idem (σ : SS) : ∀ vs : List Nat, wipe (wipe σ vs) vs = wipe σ vs := fun vs => by
  have h : ∀ (us : List Nat), (∀ i, i ∈ us → i ∈ vs) → wipe (wipe σ us) vs = wipe σ vs := fun us => by
    induction us with
    | nil => intro _; rfl
    | cons u us ih =>
      intro q
      show wipe ((wipe σ us).set u none) vs = wipe σ vs
      rw [wipe_set (α := Nat) _ u none vs (q u (by simp)), ih fun i m => q i (by simp [m])]
  exact h vs fun _ m => m
def sub2 (a b : List Nat) : Bool := a.all fun i => b.contains i
theorem sub2_mem {a b : List Nat} (h : sub2 a b = true) : ∀ i, i ∈ a → i ∈ b := fun i m => by
  have := List.all_eq_true.mp h i m
  simpa using this
section
variable {K : PySem.W.Frag}
theorem RL.reF {z : Z} {G : Hp} {vs : List V} {ds : List D} (h : RL K z vs ds) : RL K ⟨z.T, z.ia, G⟩ vs ds := RL.mono2 (z := z) (y := ⟨z.T, z.ia, G⟩) (fun _ _ e => e) (fun _ _ e => e) h
theorem RT.reF {z : Z} {G : Hp} {vs : List (List V)} {ds : List D} (h : RT K z vs ds) : RT K ⟨z.T, z.ia, G⟩ vs ds := RT.mono2 (z := z) (y := ⟨z.T, z.ia, G⟩) (fun _ _ e => e) (fun _ _ e => e) h
theorem RE.reF {z : Z} {G : Hp} {σ : SS} {ρ : Env} (h : RE K z σ ρ) : RE K ⟨z.T, z.ia, G⟩ σ ρ := RE.mono2 (z := z) (y := ⟨z.T, z.ia, G⟩) (fun _ _ e => e) (fun _ _ e => e) h
theorem RE.wipe {z : Z} {σ : SS} {ρ : Env} (h : RE K z σ ρ) : ∀ vs : List Nat, RE K z (L2.wipe σ vs) (mwipe ρ vs)
  | [] => h
  | v :: vs => (RE.wipe h vs).unset v
theorem s_goC {g : WX → TG} {mg : MG} {ws vs : List Nat} {tt : WX → TT} {mt : MX Bool} {te : WX → TE} {me : MX D} (hg : SG K g mg ws) (hw : ∀ i, i ∈ ws → i ∈ vs) (ht : SB K tt mt) (he : SE K te me) {ok : Hp → Prop} {z0 : Z}
    (hok : ∀ z S H, (∀ a o, z0.T a = some o → z.T a = some o) → At K z S H → ok H) {ρ : Env} {σ : SS} {W : WX} {Q : VK} {P : Addr} (hP : z0.F P = none) : ∀ (ds acc : List D) (us accV : List V) z S H r, (∀ a o, z0.T a = some o → z.T a = some o) → (∀ (n : Nat) a, z0.ia[n]? = some a → z.ia[n]? = some a) →
      z.F = upd z0.F P (.lst accV) → RL K z us ds → RL K z accV acc → At K z S H → RE K z σ ρ → mComp mg mt me vs ρ ds acc S = some r → PostX (R K) K z0 W σ Q r → goC ok (g W0) (tt W0) (te W0) vs σ P Q us H := by
  intro ds
  induction ds with
  | nil =>
    intro acc us accV z S H r lt li hF ru ra x e hm hp
    cases ru.inv_nil
    cases hm
    refine ⟨hok z S H lt x, ?_⟩
    have x' := x.unpin hF hP
    have h2 := (x.fr P _ (by rw [hF, upd_same])).2.1
    exact hp ⟨upd z.T P (.lst accV), z.ia, z0.F⟩ _ _ ⟨fun a o h => upd_ext h2 _ a o (lt a o h), li, rfl⟩ x' (.mklst (.inl (.inl upd_same)) (RL.mono2 (z := z) (y := ⟨upd z.T P (.lst accV), z.ia, z0.F⟩) (upd_ext h2 _) (fun _ _ e => e) ra))
  | cons d ds ih =>
    intro acc us accV z S H r lt li hF ru ra x e hm hp
    obtain ⟨u, ur, rfl, h0, hr⟩ := ru.inv_cons
    simp only [mComp] at hm
    refine ⟨hok z S H lt x, ?_⟩
    cases q : mg d (mwipe ρ vs) S with
    | none => rw [q] at hm; cases hm
    | some y =>
      obtain ⟨ρ2, S2⟩ := y
      rw [q] at hm
      simp only at hm
      refine hg u d (mwipe ρ vs) (L2.wipe σ vs) z S H W0 _ ρ2 S2 x (e.wipe vs) h0 q ?_
      intro z1 σ1 H1 l1 x1 e1 hw1
      refine ⟨(hw1 vs hw).trans (wipe_idem σ vs), ?_⟩
      cases q2 : mt ρ2 S2 with
      | none => rw [q2] at hm; cases hm
      | some y2 =>
        rw [q2] at hm
        cases y2 with
        | ex => cases hm
        | ok b S3 =>
          refine ht ρ2 σ1 z1 S2 H1 W0 _ _ x1 e1 q2 ?_
          intro z2 b' H2 l2 x2 eb
          subst eb
          cases b' with
          | false =>
            have l := l1.trans l2
            exact ih acc ur accV z2 S3 H2 r (fun a o h => l.t a o (lt a o h)) (fun n a h => l.i n a (li n a h)) (l.f.trans hF) (hr.mono l) (ra.mono l) x2 (e.mono l) hm hp
          | true =>
            simp only at hm
            show te W0 σ1 H2 _
            cases q3 : me ρ2 S3 with
            | none => rw [q3] at hm; cases hm
            | some y3 =>
              rw [q3] at hm
              cases y3 with
              | ex => cases hm
              | ok y S4 =>
                simp only at hm
                split at hm
                · rename_i hl
                  refine he ρ2 σ1 z2 S3 H2 W0 _ _ x2 (e1.mono l2) q3 ?_
                  intro z3 v H3 l3 x3 rv
                  have l := (l1.trans l2).trans l3
                  have hF3 := l.f.trans hF
                  obtain ⟨f1, f2, f3⟩ := x3.fr P _ (by rw [hF3, upd_same])
                  have hs := sizeLine_num
                  have hla := ra.1
                  refine ⟨accV, f1, by omega, ?_⟩
                  have x4 := x3.repin hF3 (.lst (accV ++ [v]))
                  have ra3 := ra.mono l
                  exact ih (acc ++ [y]) ur (accV ++ [v]) ⟨z3.T, z3.ia, upd z0.F P (.lst (accV ++ [v]))⟩ S4 _ r (fun a o h => l.t a o (lt a o h)) (fun n a h => l.i n a (li n a h)) rfl
                    (hr.mono l).reF (ra3.append (.cons rv .nil)).reF
                    x4 (e.mono l).reF hm hp
                · cases hm
/-- the same, over tuples that are made on the way -/
theorem s_goCF {g : WX → TG} {mg : MG} {ws vs : List Nat} {tt : WX → TT} {mt : MX Bool} {te : WX → TE} {me : MX D} (hg : SG K g mg ws) (hw : ∀ i, i ∈ ws → i ∈ vs) (ht : SB K tt mt) (he : SE K te me) {ok : Hp → Prop} {z0 : Z}
    (hok : ∀ z S H, (∀ a o, z0.T a = some o → z.T a = some o) → At K z S H → ok H) {ρ : Env} {σ : SS} {W : WX} {Q : VK} {P : Addr} (hP : z0.F P = none) : ∀ (ds acc : List D) (us : List (List V)) (accV : List V) z S H r, (∀ a o, z0.T a = some o → z.T a = some o) → (∀ (n : Nat) a, z0.ia[n]? = some a → z.ia[n]? = some a) →
      z.F = upd z0.F P (.lst accV) → RT K z us ds → RL K z accV acc → At K z S H → RE K z σ ρ → mComp mg mt me vs ρ ds acc S = some r → PostX (R K) K z0 W σ Q r → goCF ok (g W0) (tt W0) (te W0) vs σ P Q us H := by
  intro ds
  induction ds with
  | nil =>
    intro acc us accV z S H r lt li hF ru ra x e hm hp
    cases ru
    cases hm
    refine ⟨hok z S H lt x, ?_⟩
    have x' := x.unpin hF hP
    have h2 := (x.fr P _ (by rw [hF, upd_same])).2.1
    exact hp ⟨upd z.T P (.lst accV), z.ia, z0.F⟩ _ _ ⟨fun a o h => upd_ext h2 _ a o (lt a o h), li, rfl⟩ x' (.mklst (.inl (.inl upd_same)) (RL.mono2 (z := z) (y := ⟨upd z.T P (.lst accV), z.ia, z0.F⟩) (upd_ext h2 _) (fun _ _ e => e) ra))
  | cons d ds ih =>
    intro acc us accV z S H r lt li hF ru ra x e hm hp
    cases ru with
    | @cons v l ur _ h0 hr =>
    simp only [mComp] at hm
    refine ⟨hok z S H lt x, fun T hT => ?_⟩
    obtain ⟨lz, xz⟩ := x.newT hT (.tup v)
    cases q : mg (.tup l) (mwipe ρ vs) S with
    | none => rw [q] at hm; cases hm
    | some y =>
      obtain ⟨ρ2, S2⟩ := y
      rw [q] at hm
      simp only at hm
      refine hg (.ref T) (.tup l) (mwipe ρ vs) (L2.wipe σ vs) _ S _ W0 _ ρ2 S2 xz ((e.mono lz).wipe vs) (.mktup (.inl (.inl upd_same)) (h0.mono lz)) q ?_
      intro z1 σ1 H1 l1 x1 e1 hw1
      have l1 := lz.trans l1
      refine ⟨(hw1 vs hw).trans (wipe_idem σ vs), ?_⟩
      cases q2 : mt ρ2 S2 with
      | none => rw [q2] at hm; cases hm
      | some y2 =>
        rw [q2] at hm
        cases y2 with
        | ex => cases hm
        | ok b S3 =>
          refine ht ρ2 σ1 z1 S2 H1 W0 _ _ x1 e1 q2 ?_
          intro z2 b' H2 l2 x2 eb
          subst eb
          cases b' with
          | false =>
            have l := l1.trans l2
            exact ih acc ur accV z2 S3 H2 r (fun a o h => l.t a o (lt a o h)) (fun n a h => l.i n a (li n a h)) (l.f.trans hF) (hr.mono l) (ra.mono l) x2 (e.mono l) hm hp
          | true =>
            simp only at hm
            show te W0 σ1 H2 _
            cases q3 : me ρ2 S3 with
            | none => rw [q3] at hm; cases hm
            | some y3 =>
              rw [q3] at hm
              cases y3 with
              | ex => cases hm
              | ok y S4 =>
                simp only at hm
                split at hm
                · rename_i hl
                  refine he ρ2 σ1 z2 S3 H2 W0 _ _ x2 (e1.mono l2) q3 ?_
                  intro z3 v H3 l3 x3 rv
                  have l := (l1.trans l2).trans l3
                  have hF3 := l.f.trans hF
                  obtain ⟨f1, f2, f3⟩ := x3.fr P _ (by rw [hF3, upd_same])
                  have hs := sizeLine_num
                  have hla := ra.1
                  refine ⟨accV, f1, by omega, ?_⟩
                  have x4 := x3.repin hF3 (.lst (accV ++ [v]))
                  have ra3 := ra.mono l
                  exact ih (acc ++ [y]) ur (accV ++ [v]) ⟨z3.T, z3.ia, upd z0.F P (.lst (accV ++ [v]))⟩ S4 _ r (fun a o h => l.t a o (lt a o h)) (fun n a h => l.i n a (li n a h)) rfl
                    (hr.mono l).reF (ra3.append (.cons rv .nil)).reF
                    x4 (e.mono l).reF hm hp
                · cases hm
end
def mLc (a : MX D) (g : MG) (tt : MX Bool) (te : MX D) (vs : List Nat) : MX D := mbind a fun d => fun ρ S => match walked S d with
  | some (l, _) => mComp g tt te vs ρ l [] S
  | none => none
def mLcR1 (a : MX D) (g : MG) (tt : MX Bool) (te : MX D) (vs : List Nat) : MX D := mbind a fun d => fun ρ S => match d with
  | .int j => if -(2 ^ 62) ≤ j ∧ j < 2 ^ 62 then mComp g tt te vs ρ (upD 0 j.toNat) [] S else none
  | _ => none
@[simp] def mC2 (g : MG) (tt : MX Bool) (te : MX D) (vs : List Nat) : D → D → MX D
  | .int i, .int j => fun ρ S => if (-(2 ^ 62) ≤ i ∧ i < 2 ^ 62) ∧ -(2 ^ 62) ≤ j ∧ j < 2 ^ 62 then mComp g tt te vs ρ (upD i (j - i).toNat) [] S else none
  | _, _ => fun _ _ => none
def mLcR2 (a b : MX D) (g : MG) (tt : MX Bool) (te : MX D) (vs : List Nat) : MX D := mbind a fun d => mbind b fun d2 => mC2 g tt te vs d d2
def mLcE (a : MX D) (g : MG) (tt : MX Bool) (te : MX D) (vs : List Nat) : MX D := mbind a fun d => match d with
  | .lst l => fun ρ S => mComp g tt te vs ρ (enumD 0 l) [] S
  | _ => fun _ _ => none
@[simp] def mCZ (g : MG) (tt : MX Bool) (te : MX D) (vs : List Nat) : D → D → MX D
  | .lst l, .lst m => fun ρ S => mComp g tt te vs ρ (zipD l m) [] S
  | _, _ => fun _ _ => none
def mLcZ (a b : MX D) (g : MG) (tt : MX Bool) (te : MX D) (vs : List Nat) : MX D := mbind a fun d => mbind b fun d2 => mCZ g tt te vs d d2
section
variable {K : PySem.W.Frag} {a c : WX → TE} {ma mc : MX D} {g : WX → TG} {mg : MG} {ws vs : List Nat} {tt : WX → TT} {mt : MX Bool} {te : WX → TE} {me : MX D}
theorem goC_at (hg : SG K g mg ws) (hw : ∀ i, i ∈ ws → i ∈ vs) (ht : SB K tt mt) (he : SE K te me) {ok : Hp → Prop} {z : Z} (hok : ∀ z' S H, (∀ a o, z.T a = some o → z'.T a = some o) → At K z' S H → ok H) {ρ : Env} {σ : SS} {W : WX} {Q : VK}
    {ds : List D} {us : List V} {S : Stt} {H : Hp} {r : Rs D} (ru : RL K z us ds) (x : At K z S H) (e : RE K z σ ρ) (hm : mComp mg mt me vs ρ ds [] S = some r) (hp : PostX (R K) K z W σ Q r) :
    ∀ P, H P = none → goC ok (g W0) (tt W0) (te W0) vs σ P Q us (upd H P (.lst [])) := fun P hP => by
  have x' := x.pin hP (.lst [])
  exact s_goC hg hw ht he (z0 := z) hok (x.freshF hP) ds [] us [] ⟨z.T, z.ia, upd z.F P (.lst [])⟩ S _ r (fun _ _ h => h) (fun _ _ h => h) rfl ru.reF .nil x' e.reF hm hp
theorem goCF_at (hg : SG K g mg ws) (hw : ∀ i, i ∈ ws → i ∈ vs) (ht : SB K tt mt) (he : SE K te me) {ok : Hp → Prop} {z : Z} (hok : ∀ z' S H, (∀ a o, z.T a = some o → z'.T a = some o) → At K z' S H → ok H) {ρ : Env} {σ : SS} {W : WX} {Q : VK}
    {ds : List D} {us : List (List V)} {S : Stt} {H : Hp} {r : Rs D} (ru : RT K z us ds) (x : At K z S H) (e : RE K z σ ρ) (hm : mComp mg mt me vs ρ ds [] S = some r) (hp : PostX (R K) K z W σ Q r) :
    ∀ P, H P = none → goCF ok (g W0) (tt W0) (te W0) vs σ P Q us (upd H P (.lst [])) := fun P hP => by
  have x' := x.pin hP (.lst [])
  exact s_goCF hg hw ht he (z0 := z) hok (x.freshF hP) ds [] us [] ⟨z.T, z.ia, upd z.F P (.lst [])⟩ S _ r (fun _ _ h => h) (fun _ _ h => h) rfl ru.reF .nil x' e.reF hm hp
theorem s_lc (ha : SE K a ma) (hg : SG K g mg ws) (ht : SB K tt mt) (he : SE K te me) (hw : sub2 ws vs = true) : SE K (fun W => uLc K (a W) (g W0) (tt W0) (te W0) vs) (mLc ma mg mt me vs) := by
  have hw := sub2_mem hw
  refine SX.bind (k := fun W σ x H Q => walkC K x (g W0) (tt W0) (te W0) vs σ Q H) ha ?_
  intro ρ σ z S H W Q r v d x e rv hm hp
  cases d with
  | lst l =>
    obtain ⟨a, us, rfl, h, q⟩ := rv.inv_lst
    exact .inl ⟨a, us, rfl, x.sqL h, goC_at hg hw ht he (fun z' S' H' l' x' => x'.sqL (SqL.mono l' h)) q x e hm hp⟩
  | tup l =>
    obtain ⟨a, us, rfl, h, q⟩ := rv.inv_tup
    exact .inr (.inl ⟨a, us, rfl, x.sqT h, goC_at hg hw ht he (fun z' S' H' l' x' => x'.sqT (SqT.mono l' h)) q x e hm hp⟩)
  | str s =>
    cases rv
    exact .inr (.inr ⟨s, rfl, goC_at hg hw ht he (fun _ _ _ _ _ => trivial) (RL.map fun _ _ => .str _) x e hm hp⟩)
  | _ => cases hm
theorem s_lcR1 (ha : SE K a ma) (hg : SG K g mg ws) (ht : SB K tt mt) (he : SE K te me) (hw : sub2 ws vs = true) : SE K (fun W => uLcR1 (a W) (g W0) (tt W0) (te W0) vs) (mLcR1 ma mg mt me vs) := by
  have hw := sub2_mem hw
  refine SX.bind (k := fun W σ x H1 Q => ∃ j : Int, x = .int j ∧ -(2 ^ 62) ≤ j ∧ j < 2 ^ 62 ∧ ∀ D, H1 D = none → goC (fun _ => True) (g W0) (tt W0) (te W0) vs σ D Q (upTo 0 j.toNat) (upd H1 D (.lst []))) ha ?_
  intro ρ σ z S H W Q r v d x e rv hm hp
  cases d with
  | int j =>
    cases rv
    simp only at hm
    split at hm
    · rename_i h
      exact ⟨j, rfl, h.1, h.2, goC_at hg hw ht he (fun _ _ _ _ _ => trivial) (RL.upD _ _) x e hm hp⟩
    · cases hm
  | _ => cases hm
theorem s_lcR2 (ha : SE K a ma) (hc : SE K c mc) (hg : SG K g mg ws) (ht : SB K tt mt) (he : SE K te me) (hw : sub2 ws vs = true) : SE K (fun W => uLcR2 (a W) (c W) (g W0) (tt W0) (te W0) vs) (mLcR2 ma mc mg mt me vs) := by
  have hw := sub2_mem hw
  refine SX.bind (k := fun W σ x H1 Q => c W σ H1 fun y H2 => ∃ i j : Int, x = .int i ∧ y = .int j ∧ (-(2 ^ 62) ≤ i ∧ i < 2 ^ 62 ∧ -(2 ^ 62) ≤ j ∧ j < 2 ^ 62) ∧ ∀ D, H2 D = none → goC (fun _ => True) (g W0) (tt W0) (te W0) vs σ D Q (upTo i (j - i).toNat) (upd H2 D (.lst []))) ha ?_
  intro ρ σ z S H W Q r v d x e rv hm hp
  refine SX.bind (Rel' := R K) (k := fun W σ y H2 Q => ∃ i j : Int, v = .int i ∧ y = .int j ∧ (-(2 ^ 62) ≤ i ∧ i < 2 ^ 62 ∧ -(2 ^ 62) ≤ j ∧ j < 2 ^ 62) ∧ ∀ D, H2 D = none → goC (fun _ => True) (g W0) (tt W0) (te W0) vs σ D Q (upTo i (j - i).toNat) (upd H2 D (.lst [])))
    (mk := fun d2 => mC2 mg mt me vs d d2) hc ?_ ρ σ z S H W Q r x e hm hp
  intro ρ σ z S H W Q r y d2 x e ry hm hp
  cases d with
  | int i =>
    cases rv
    cases d2 with
    | int j =>
      cases ry
      simp only [mC2] at hm
      split at hm
      · rename_i h
        exact ⟨i, j, rfl, rfl, ⟨h.1.1, h.1.2, h.2.1, h.2.2⟩, goC_at hg hw ht he (fun _ _ _ _ _ => trivial) (RL.upD _ _) x e hm hp⟩
      · cases hm
    | _ => cases hm
  | _ => cases hm
theorem s_lcE (ha : SE K a ma) (hg : SG K g mg ws) (ht : SB K tt mt) (he : SE K te me) (hw : sub2 ws vs = true) : SE K (fun W => uLcE K (a W) (g W0) (tt W0) (te W0) vs) (mLcE ma mg mt me vs) := by
  have hw := sub2_mem hw
  refine SX.bind (k := fun W σ x H1 Q => ∃ a xs, x = .ref a ∧ SqL K H1 a xs ∧ ∀ D, H1 D = none → goCF (fun H => SqL K H a xs) (g W0) (tt W0) (te W0) vs σ D Q (enumP 0 xs) (upd H1 D (.lst []))) ha ?_
  intro ρ σ z S H W Q r v d x e rv hm hp
  cases d with
  | lst l =>
    obtain ⟨a, us, rfl, h, q⟩ := rv.inv_lst
    exact ⟨a, us, rfl, x.sqL h, goCF_at hg hw ht he (fun z' S' H' l' x' => x'.sqL (SqL.mono l' h)) (RT.enum q 0) x e hm hp⟩
  | _ => cases hm
theorem s_lcZ (ha : SE K a ma) (hc : SE K c mc) (hg : SG K g mg ws) (ht : SB K tt mt) (he : SE K te me) (hw : sub2 ws vs = true) : SE K (fun W => uLcZ K (a W) (c W) (g W0) (tt W0) (te W0) vs) (mLcZ ma mc mg mt me vs) := by
  have hw := sub2_mem hw
  intro ρ σ z S H W Q r x e hm hp
  unfold mLcZ mbind at hm
  cases q : ma ρ S with
  | none => rw [q] at hm; cases hm
  | some y =>
    rw [q] at hm
    cases y with
    | ex c' fs S1 => cases hm; exact ha ρ σ z S H W _ _ x e q hp
    | ok d S1 =>
      refine ha ρ σ z S H W _ _ x e q ?_
      intro z1 v H1 l1 x1 rv
      simp only at hm
      cases q2 : mc ρ S1 with
      | none => rw [q2] at hm; cases hm
      | some y =>
        rw [q2] at hm
        cases y with
        | ex c' fs S2 => cases hm; exact hc ρ σ z1 S1 H1 W _ _ x1 (e.mono l1) q2 (hp.mono l1)
        | ok d2 S2 =>
          refine hc ρ σ z1 S1 H1 W _ _ x1 (e.mono l1) q2 ?_
          intro z2 v2 H2 l2 x2 rv2
          have rv := rv.mono l2
          cases d with
          | lst l =>
            cases d2 with
            | lst m =>
              obtain ⟨a, us, rfl, h, qa⟩ := rv.inv_lst
              obtain ⟨b', us2, rfl, h2, qb⟩ := rv2.inv_lst
              have l := l1.trans l2
              exact ⟨a, us, b', us2, rfl, rfl, x2.sqL h, x2.sqL h2, goCF_at hg hw ht he (fun z' S' H' l' x' => ⟨x'.sqL (SqL.mono l' h), x'.sqL (SqL.mono l' h2)⟩) (RT.zip qa qb) x2 (e.mono l) hm (hp.mono l)⟩
            | _ => cases hm
          | _ => cases hm
theorem s_yes : SB K (fun _ => tYes) (fun _ S => some (.ok true S)) := by
  intro ρ σ z S H W Q r x e hm hp
  cases hm
  exact hp z true H (.refl z) x rfl
end
def mYes : MX Bool := fun _ S => some (.ok true S)
/-! ### calls and defs -/
abbrev PF := List D → Stt → Option (Rs D)
def SP (K : PySem.W.Frag) (sp : Sp) (f : PF) : Prop := ∀ z S H vs ds Q (E : XK) r, At K z S H → RL K z vs ds → f ds S = some r → PostX (R K) K z (fun c d _ H => E c d H) [] Q r → sp vs H Q E
def mCall (f : PF) (g : List D → List D → List D) (t tk : MX (List D)) : MX D := mbind t fun vs => mbind tk fun zs => fun _ S => f (g vs zs) S
def pfOf (n k : Nat) (m : MS) : PF := fun ds S => if ds.length = n then (match m (ds.map some ++ List.replicate (k - n) none) S with
  | some (.rt d S') => some (.ok d S')
  | some (.nx _ S') => some (.ok .non S')
  | some (.ex x fs _ S') => some (.ex x fs S')
  | _ => none) else none
section
variable {K : PySem.W.Frag}
theorem s_call {sp : Sp} {f : PF} {gV : List V → List V → List V} {gD : List D → List D → List D} {t tk : WX → TA} {mt mk : MX (List D)} (hf : SP K sp f)
    (hg : ∀ z vs ds ws es, RL K z vs ds → RL K z ws es → RL K z (gV vs ws) (gD ds es)) (ht : SA K t mt) (hk : SA K tk mk) : SE K (fun W => uCall sp gV W (t W) (tk W)) (mCall f gD mt mk) := by
  intro ρ σ z S H W Q r x e hm hp
  unfold mCall mbind at hm
  cases q : mt ρ S with
  | none => rw [q] at hm; cases hm
  | some y =>
    rw [q] at hm
    cases y with
    | ex c' fs S1 => cases hm; exact ht ρ σ z S H W _ _ x e q hp
    | ok ds S1 =>
      refine ht ρ σ z S H W _ _ x e q ?_
      intro z1 vs H1 l1 x1 rv
      simp only at hm
      cases q2 : mk ρ S1 with
      | none => rw [q2] at hm; cases hm
      | some y =>
        rw [q2] at hm
        cases y with
        | ex c' fs S2 => cases hm; exact hk ρ σ z1 S1 H1 W _ _ x1 (e.mono l1) q2 (hp.mono l1)
        | ok es S2 =>
          refine hk ρ σ z1 S1 H1 W _ _ x1 (e.mono l1) q2 ?_
          intro z2 ws H2 l2 x2 rw'
          simp only at hm
          have hp2 := hp.mono (l1.trans l2)
          refine hf z2 S2 H2 (gV vs ws) (gD ds es) Q (WE W σ) r x2 (hg z2 _ _ _ _ (rv.mono l2) rw') hm ?_
          cases r with
          | ok d S' => exact hp2
          | ex c fs S' => exact hp2
theorem RE.start {z : Z} {vs : List V} {ds : List D} {N : List Str} (r : RL K z vs ds) : RE K z (start N vs) (ds.map some ++ List.replicate (N.length - ds.length) none) := by
  refine ⟨by unfold L2.start; simp [r.1], fun i d h => ?_⟩
  have hi : i < ds.length := by
    by_cases c : i < ds.length
    · exact c
    · rw [List.getElem?_append_right (by simp; omega)] at h
      have := List.mem_of_getElem? h
      simp at this
  have hv : i < vs.length := r.1 ▸ hi
  rw [List.getElem?_append_left (by simp; omega)] at h
  simp at h
  obtain ⟨v, h1, h2⟩ := r.get h
  refine ⟨v, ?_, h2⟩
  unfold L2.start
  rw [List.getElem?_append_left (by simp; omega)]
  simp [h1]
theorem s_fn {N : List Str} {n : Nat} {t : WX → TS} {m : MS} (h : SS1 K t m) : SP K (spOf N n t) (pfOf n N.length m) := by
  intro z S H vs ds Q E r x rl hm hp
  unfold pfOf at hm
  split at hm
  · rename_i hn
    refine ⟨rl.1.trans hn, ?_⟩
    have e := RE.start (N := N) rl
    rw [hn] at e
    cases q : m (ds.map some ++ List.replicate (N.length - n) none) S with
    | none => rw [q] at hm; cases hm
    | some o =>
      rw [q] at hm
      refine h _ _ z S H _ _ o x e q ?_
      cases o with
      | rt d S' => cases hm; exact hp
      | nx ρ' S' => cases hm; exact fun z' σ' H' l x' e' => hp z' .non H' l x' .non
      | ex c fs ρ' S' => cases hm; exact fun z' c' d' σ' H' l x' e' rx => hp z' c' d' H' l x' rx
      | bk => cases hm
      | ct => cases hm
  · cases hm
end
/-! ### raise, try -/
def mRaise (x : Str) (t : MX (List D)) : MS := sbind t fun vs => fun ρ S => if vs.length ≤ 16777216 then some (.ex x [] ρ S) else none
@[simp] def unsetO (i : Nat) : Out → Out
  | .nx ρ S => .nx (ρ.set i none) S
  | .bk ρ S => .bk (ρ.set i none) S
  | .ct ρ S => .ct (ρ.set i none) S
  | o => o
def mTry (cat : Str → Option Bool) (i : Nat) (b h : MS) : MS := fun ρ S => match b ρ S with
  | some (.ex x fs ρ1 S1) => (match cat x with
    | some true => (h (ρ1.set i (some (.exc x fs))) S1).map (unsetO i)
    | some false => some (.ex x fs ρ1 S1)
    | none => none)
  | o => o
section
variable {K : PySem.W.Frag}
theorem s_raise {x : Str} {t : WX → TA} {mt : MX (List D)} (ht : SA K t mt) : SS1 K (fun W => uRaise (mkOwn (He.ga K x) (t W)) W) (mRaise x mt) := by
  refine SS1.bind (k := fun W E vs σ H => vs.length ≤ sizeLine ∧ W (.ref (He.ga K x)) none σ H) ht ?_
  intro ρ σ z S H W E r vs ds xa e rv hm hp
  split at hm
  · rename_i hl
    cases hm
    have hs := sizeLine_num
    exact ⟨by rw [rv.1]; omega, hp z _ none σ H (.refl z) xa e ⟨rfl, .inl ⟨rfl, rfl⟩⟩⟩
  · cases hm
theorem R.caught {z : Z} {H : Hp} {S : Stt} {cls : Value} {dd : Option Addr} {x : Str} {fs : List (Str × D)} (xa : At K z S H) (rx : RX K z cls dd x fs) {a : Addr} (h : H a = none) :
    z.le ⟨upd z.T a (exv a cls dd), z.ia, z.F⟩ ∧ At K ⟨upd z.T a (exv a cls dd), z.ia, z.F⟩ S (upd H a (exv a cls dd)) ∧ R K ⟨upd z.T a (exv a cls dd), z.ia, z.F⟩ (.ref a) (.exc x fs) := by
  obtain ⟨l, x'⟩ := xa.newT h (exv a cls dd)
  refine ⟨l, x', ?_⟩
  obtain ⟨rfl, ⟨rfl, rfl⟩ | ⟨dx, vs, rfl, h2, q⟩⟩ := rx
  · exact .exc0 upd_same
  · have q' := q.mono l
    exact .exc upd_same (l.t _ _ h2) q'.1 q'.2
theorem s_try {cs : List Value} {i : Nat} {tb : WX → TS} {th : WX → TS} {mb mh : MS} {cat : Str → Option Bool} (hc : ∀ x b, cat x = some b → PySem.W.exmAny K (.ref (He.ga K x)) cs = some b) (hb : SS1 K tb mb) (hh : SS1 K th mh) :
    SS1 K (fun W => uTry K cs i tb (th W) W) (mTry cat i mb mh) := by
  intro ρ σ z S H W E r x e hm hp
  unfold mTry at hm
  cases q : mb ρ S with
  | none => rw [q] at hm; cases hm
  | some o =>
    rw [q] at hm
    refine hb ρ σ z S H _ E o x e q ?_
    cases o with
    | nx => cases hm; exact hp
    | rt => cases hm; exact hp
    | bk => cases hm; exact hp
    | ct => cases hm; exact hp
    | ex xn fs ρ1 S1 =>
      simp only at hm
      intro z1 cls dd σ1 H1 l1 x1 e1 rx
      cases hcat : cat xn with
      | none => rw [hcat] at hm; cases hm
      | some b =>
        rw [hcat] at hm
        refine ⟨b, by rw [rx.1]; exact hc xn b hcat, fun hb1 a ha => ?_, fun hb0 => ?_⟩
        · subst hb1
          simp only at hm
          obtain ⟨l2, x2, ra⟩ := R.caught x1 rx ha
          have l := l1.trans l2
          cases q2 : mh (ρ1.set i (some (.exc xn fs))) S1 with
          | none => rw [q2] at hm; cases hm
          | some o =>
            rw [q2] at hm
            cases hm
            refine hh _ _ _ S1 _ W _ o x2 ((e1.mono l2).set ra i) q2 ?_
            have hp2 := hp.mono l
            cases o with
            | nx => exact fun z' σ' H' l' x' e' => hp2 z' _ H' l' x' (e'.unset i)
            | bk => exact fun z' σ' H' l' x' e' => hp2 z' _ H' l' x' (e'.unset i)
            | ct => exact fun z' σ' H' l' x' e' => hp2 z' _ H' l' x' (e'.unset i)
            | rt => exact hp2
            | ex => exact hp2
        · subst hb0
          cases hm
          exact hp z1 cls dd σ1 H1 l1 x1 e1 rx
end
end PU

set_option Elab.async false
set_option linter.all false
set_option maxRecDepth 100000
set_option maxHeartbeats 2000000
namespace PU
open PySem PySem.Spec PyProof.Rows L2 PP
/-! ### operators -/
def lim : Nat := 16777216
theorem lim_eq : lim = sizeLine := by unfold lim; rw [sizeLine_num]
def pAdd : M2 := fun a b S => match a, b with
  | .int i, .int j => some (.int (i + j), S)
  | .str x, .str y => if x.length + y.length ≤ lim then some (.str (x ++ y), S) else none
  | .tup xs, .tup ys => if xs.length + ys.length ≤ lim then some (.tup (xs ++ ys), S) else none
  | a, b => match lsOf S a, lsOf S b with
    | some xs, some ys => if xs.length + ys.length ≤ lim then some (.lst (xs ++ ys), S) else none
    | _, _ => none
def pSub : M2 := fun a b S => match a, b with
  | .int i, .int j => some (.int (i - j), S)
  | _, _ => none
def pMul : M2 := fun a b S => match a, b with
  | .int i, .int j => if (-(2 ^ 64) < i ∧ i < 2 ^ 64) ∨ (-(2 ^ 64) < j ∧ j < 2 ^ 64) then some (.int (i * j), S) else none
  | .str x, .int n => if -1000000 ≤ n ∧ n ≤ 1000000 ∧ x.length * n.toNat ≤ lim then some (.str (strRep x n.toNat), S) else none
  | .tup xs, .int k => if xs ≠ [] ∧ 2 ≤ k ∧ k ≤ 1000 ∧ xs.length ≤ 1000 then some (.tup (List.replicate k.toNat xs).flatten, S) else none
  | _, _ => none
def pFdiv : M2 := fun a b S => match a, b with
  | .int i, .int j => if 0 < j ∧ j < 1073741824 then some (.int (i / j), S) else none
  | _, _ => none
def pMod : M2 := fun a b S => match a, b with
  | .int i, .int j => if 0 < j then some (.int (i % j), S) else none
  | _, _ => none
def pPow : M2 := fun a b S => match a, b with
  | .int i, .int j => if 0 ≤ j ∧ j ≤ 1000000 ∧ i.natAbs < 2 ^ 64 then some (.int (i ^ j.toNat), S) else none
  | _, _ => none
def pNeg : M1 := fun a S => match a with
  | .int i => some (.int (-i), S)
  | _ => none
instance {xs : List D} : Decidable (xs ≠ []) := match xs with
  | [] => isFalse fun h => h rfl
  | _ :: _ => isTrue fun h => nomatch h
section
variable {K : PySem.W.Frag}
theorem s_add : SR2 K (uAdd K) pAdd := by
  intro z S H x y a b Q c S' xa ra rb e hp
  have hl : ∀ {p q : List D}, lsOf S a = some p → lsOf S b = some q → p.length + q.length ≤ lim → c = .lst (p ++ q) → S' = S → uAdd K x y H Q := by
    intro p q h1 h2 h3 h4 h5
    subst h4 h5
    obtain ⟨a1, vs, rfl, s1, r1⟩ := xa.ls ra h1
    obtain ⟨a2, ws, rfl, s2, r2⟩ := xa.ls rb h2
    refine .inr (.inr (.inl ⟨a1, a2, vs, ws, rfl, rfl, s1, s2, by rw [r1.1, r2.1, ← lim_eq]; exact h3, fun P hP => ?_⟩))
    obtain ⟨l, x'⟩ := xa.newT hP (.lst (vs ++ ws))
    exact hp _ _ _ l x' (.mklst (.inl (.inl upd_same)) ((r1.append r2).mono l))
  have gen : (match lsOf S a, lsOf S b with
    | some xs, some ys => if xs.length + ys.length ≤ lim then some (D.lst (xs ++ ys), S) else none
    | _, _ => none) = some (c, S') → uAdd K x y H Q := by
    intro h
    cases h1 : lsOf S a with
    | none => rw [h1] at h; cases h
    | some p =>
      cases h2 : lsOf S b with
      | none => rw [h1, h2] at h; cases h
      | some q =>
        rw [h1, h2] at h
        simp only at h
        split at h
        · rename_i h3
          cases h
          exact hl h1 h2 h3 rfl rfl
        · cases h
  unfold pAdd at e
  split at e
  · cases e
    cases ra; cases rb
    exact .inl ⟨_, _, rfl, rfl, hp z _ H (.refl z) xa (.int _)⟩
  · split at e
    · rename_i h
      cases e
      cases ra; cases rb
      exact .inr (.inl ⟨_, _, rfl, rfl, by rw [← lim_eq]; exact h, hp z _ H (.refl z) xa (.str _)⟩)
    · cases e
  · rename_i xs ys
    split at e
    · rename_i h
      cases e
      obtain ⟨a1, vs, rfl, s1, r1⟩ := ra.inv_tup
      obtain ⟨a2, ws, rfl, s2, r2⟩ := rb.inv_tup
      refine .inr (.inr (.inr ⟨a1, a2, vs, ws, rfl, rfl, xa.sqT s1, xa.sqT s2, by rw [r1.1, r2.1, ← lim_eq]; exact h, fun e => ?_, fun _ e => ?_, fun _ _ P hP => ?_⟩))
      · subst e
        have : xs = [] := List.eq_nil_of_length_eq_zero r1.1.symm
        subst this
        exact hp z _ H (.refl z) xa rb
      · subst e
        have : ys = [] := List.eq_nil_of_length_eq_zero r2.1.symm
        subst this
        rw [List.append_nil] at hp
        exact hp z _ H (.refl z) xa ra
      · obtain ⟨l, x'⟩ := xa.newT hP (.tup (vs ++ ws))
        exact hp _ _ _ l x' (.mktup (.inl (.inl upd_same)) ((r1.append r2).mono l))
    · cases e
  · exact gen e
theorem s_sub : SR2 K uSub pSub := by
  intro z S H x y a b Q c S' xa ra rb e hp
  unfold pSub at e
  split at e
  · cases e; cases ra; cases rb
    exact ⟨_, _, rfl, rfl, hp z _ H (.refl z) xa (.int _)⟩
  · cases e
theorem s_mul : SR2 K (uMul K) pMul := by
  intro z S H x y a b Q c S' xa ra rb e hp
  unfold pMul at e
  split at e
  · split at e
    · rename_i h
      cases e; cases ra; cases rb
      exact .inl ⟨_, _, rfl, rfl, h, hp z _ H (.refl z) xa (.int _)⟩
    · cases e
  · split at e
    · rename_i h
      cases e; cases ra; cases rb
      exact .inr (.inl ⟨_, _, rfl, rfl, h.1, h.2.1, by rw [← lim_eq]; exact h.2.2, hp z _ H (.refl z) xa (.str _)⟩)
    · cases e
  · rename_i xs k
    split at e
    · rename_i h
      cases e
      cases rb
      obtain ⟨a1, vs, rfl, s1, r1⟩ := ra.inv_tup
      refine .inr (.inr (.inr ⟨a1, _, vs, rfl, rfl, xa.sqT s1, fun e => ?_, h.2.1, h.2.2.1, by rw [r1.1]; exact h.2.2.2, fun P hP => ?_⟩))
      · subst e
        exact h.1 (List.eq_nil_of_length_eq_zero r1.1.symm)
      · obtain ⟨l, x'⟩ := xa.newT hP (.tup (List.replicate k.toNat vs).flatten)
        exact hp _ _ _ l x' (.mktup (.inl (.inl upd_same)) ((r1.flatten_rep _).mono l))
    · cases e
  · cases e
theorem s_fdiv : SR2 K uFdiv pFdiv := by
  intro z S H x y a b Q c S' xa ra rb e hp
  unfold pFdiv at e
  split at e
  · split at e
    · rename_i h
      cases e; cases ra; cases rb
      exact ⟨_, _, rfl, rfl, h, hp z _ H (.refl z) xa (.int _)⟩
    · cases e
  · cases e
theorem s_mod : SR2 K uMod pMod := by
  intro z S H x y a b Q c S' xa ra rb e hp
  unfold pMod at e
  split at e
  · split at e
    · rename_i h
      cases e; cases ra; cases rb
      exact ⟨_, _, rfl, rfl, h, hp z _ H (.refl z) xa (.int _)⟩
    · cases e
  · cases e
theorem s_pow : SR2 K uPow pPow := by
  intro z S H x y a b Q c S' xa ra rb e hp
  unfold pPow at e
  split at e
  · split at e
    · rename_i h
      cases e; cases ra; cases rb
      exact ⟨_, _, rfl, rfl, h, hp z _ H (.refl z) xa (.int _)⟩
    · cases e
  · cases e
theorem s_neg : SR1 K uNeg pNeg := by
  intro z S H x a Q c S' xa ra e hp
  unfold pNeg at e
  split at e
  · cases e; cases ra
    exact ⟨_, rfl, hp z _ H (.refl z) xa (.int _)⟩
  · cases e
end
/-! ### data, any depth -/
mutual
def toPy : D → Option PyData
  | .non => some .none
  | .bl b => some (.bool b)
  | .int i => some (.int i)
  | .str s => some (.str s)
  | .tup l => (toPyL l).map .tuple
  | .lst l => (toPyL l).map .list
  | _ => none
def toPyL : List D → Option (List PyData)
  | [] => some []
  | d :: r => match toPy d, toPyL r with
    | some p, some q => some (p :: q)
    | _, _ => none
end
def toPyS (S : Stt) : D → Option PyData
  | .obj n => match olst S[n]? with
    | some l => (toPyL l).map .list
    | none => none
  | d => toPy d
section
variable {K : PySem.W.Frag} {z : Z} {S : Stt} {H : Hp}
theorem dpAll_of : ∀ (l : List D) (vs : List V) (ds : List PyData), vs.length = l.length → (∀ (i : Nat) v d, vs[i]? = some v → l[i]? = some d → ∀ p, toPy d = some p → Dp K H v p) → toPyL l = some ds → DpAll K H vs ds := by
  intro l
  induction l with
  | nil =>
    intro vs ds hl _ e
    cases List.eq_nil_of_length_eq_zero hl
    cases e
    exact .nil
  | cons d l ih =>
    intro vs ds hl h e
    cases vs with
    | nil => cases hl
    | cons v vs =>
      unfold toPyL at e
      split at e
      · rename_i p q hp hq
        cases e
        exact .cons (h 0 v d rfl rfl p hp) (ih vs q (by simpa using hl) (fun i v d a b => h (i + 1) v d (by simpa using a) (by simpa using b)) hq)
      · cases e
theorem R.dp (sub : ∀ a o, z.T a = some o → H a = some o) {v : V} {d : D} (r : R K z v d) : ∀ p, toPy d = some p → Dp K H v p := by
  induction r with
  | non => intro p e; cases e; exact .non
  | bl b => intro p e; cases e; exact .bl b
  | int i => intro p e; cases e; exact .int i
  | str s => intro p e; cases e; exact .str s
  | ty => intro p e; cases e
  | cls => intro p e; cases e
  | @tup a vs l h hl r ih =>
    intro p e
    unfold toPy at e
    cases q : toPyL l with
    | none => rw [q] at e; cases e
    | some ds => rw [q] at e; cases e; exact .tup (SqT.mono sub h) (dpAll_of l vs ds hl ih q)
  | @lst a vs l h hl r ih =>
    intro p e
    unfold toPy at e
    cases q : toPyL l with
    | none => rw [q] at e; cases e
    | some ds => rw [q] at e; cases e; exact .lst (SqL.mono sub h) (dpAll_of l vs ds hl ih q)
  | dct => intro p e; cases e
  | exc0 => intro p e; cases e
  | exc => intro p e; cases e
  | obj => intro p e; cases e
theorem At.dp (x : At K z S H) {v : V} {d : D} {p : PyData} (r : R K z v d) (e : toPyS S d = some p) : Dp K H v p := by
  cases d with
  | obj n =>
    obtain ⟨a, rfl, h⟩ := r.inv_obj
    have e : (match olst S[n]? with
      | some l => (toPyL l).map PyData.list
      | none => none) = some p := e
    cases q : olst S[n]? with
    | none => rw [q] at e; cases e
    | some l =>
      rw [q] at e
      simp only at e
      obtain ⟨vs, hv, rl⟩ := x.lstO h (olst_some q)
      cases q2 : toPyL l with
      | none => rw [q2] at e; cases e
      | some ds =>
        rw [q2] at e; cases e
        exact .lst (.inl (.inl hv)) (dpAll_of l vs ds rl.1 (fun i v d a b => (rl.2 i v d a b).dp x.sub) q2)
  | _ => exact r.dp x.sub p e
end
def deq (S : Stt) (a b : D) : Option Bool := match toPyS S a, toPyS S b with
  | some p, some q => if SeqAt.shaped p = true ∧ SeqAt.shaped q = true then some (PyData.eqv p q) else none
  | _, _ => none
/-- a == b -/
def peq (S : Stt) : D → D → Option Bool
  | .int i, .int j => some (decide (i = j))
  | .str i, .str j => some (decide (i = j))
  | .bl i, .bl j => some (decide (i = j))
  | .non, .non => some true
  | a, b => deq S a b
def pEq : M2 := fun a b S => (peq S a b).map fun k => (.bl k, S)
def pNe : M2 := fun a b S => (peq S a b).map fun k => (.bl (!k), S)
section
variable {K : PySem.W.Frag}
theorem map_some {α β : Type} {f : α → β} {o : Option α} {b : β} (h : o.map f = some b) : ∃ a, o = some a ∧ f a = b := by
  cases o with
  | none => cases h
  | some a => exact ⟨a, rfl, Option.some.inj h⟩
theorem At.peq {z : Z} {S : Stt} {H : Hp} (xa : At K z S H) {x y : V} {a b : D} {k : Bool} (ra : R K z x a) (rb : R K z y b) (e : PU.peq S a b = some k) :
    (scal x y = true ∧ decide (x = y) = k) ∨ ∃ p q, Dp K H x p ∧ Dp K H y q ∧ SeqAt.shaped p = true ∧ SeqAt.shaped q = true ∧ PyData.eqv p q = k := by
  have gen : deq S a b = some k → ∃ p q, Dp K H x p ∧ Dp K H y q ∧ SeqAt.shaped p = true ∧ SeqAt.shaped q = true ∧ PyData.eqv p q = k := by
    intro h
    unfold deq at h
    split at h
    · rename_i p q hp hq
      split at h
      · rename_i hs
        exact ⟨p, q, xa.dp ra hp, xa.dp rb hq, hs.1, hs.2, Option.some.inj h⟩
      · cases h
    · cases h
  unfold PU.peq at e
  split at e
  · cases e; cases ra; cases rb
    exact .inl ⟨rfl, by simp⟩
  · cases e; cases ra; cases rb
    exact .inl ⟨rfl, by simp⟩
  · cases e; cases ra; cases rb
    exact .inl ⟨rfl, by simp⟩
  · cases e; cases ra; cases rb
    exact .inl ⟨rfl, by simp⟩
  · exact .inr (gen e)
theorem s_eq : SR2 K (uEq K) pEq := by
  intro z S H x y a b Q c S' xa ra rb e hp
  obtain ⟨k, e1, e2⟩ := map_some e
  cases e2
  have q := hp z _ H (.refl z) xa (.bl k)
  rcases xa.peq ra rb e1 with ⟨h1, h2⟩ | ⟨p, q', h1, h2, h3, h4, h5⟩
  · exact .inl ⟨h1, by rw [h2]; exact q⟩
  · exact .inr ⟨p, q', h1, h2, h3, h4, by rw [h5]; exact q⟩
theorem s_ne : SR2 K (uNe K) pNe := by
  intro z S H x y a b Q c S' xa ra rb e hp
  obtain ⟨k, e1, e2⟩ := map_some e
  cases e2
  have q := hp z _ H (.refl z) xa (.bl (!k))
  rcases xa.peq ra rb e1 with ⟨h1, h2⟩ | ⟨p, q', h1, h2, h3, h4, h5⟩
  · exact .inl ⟨h1, by rw [h2]; exact q⟩
  · exact .inr ⟨p, q', h1, h2, h3, h4, by rw [h5]; exact q⟩
end
def sLt (x y : Str) : Bool := decide (x.cps.toList < y.cps.toList)
def pCmp (f : Int → Int → Bool) (g : Str → Str → Bool) : M2 := fun a b S => match a, b with
  | .int i, .int j => some (.bl (f i j), S)
  | .str i, .str j => some (.bl (g i j), S)
  | _, _ => none
def pLt : M2 := pCmp (fun i j => decide (i < j)) sLt
def pLe : M2 := pCmp (fun i j => decide (i ≤ j)) fun x y => !sLt y x
def pGt : M2 := pCmp (fun i j => decide (j < i)) fun x y => sLt y x
def pGe : M2 := pCmp (fun i j => decide (j ≤ i)) fun x y => !sLt x y
def pIs : M2 := fun a b S => match a, b with
  | .non, .non => some (.bl true, S)
  | .bl _, .non => some (.bl false, S)
  | .int _, .non => some (.bl false, S)
  | .str _, .non => some (.bl false, S)
  | .tup _, .non => some (.bl false, S)
  | .lst _, .non => some (.bl false, S)
  | .dct _, .non => some (.bl false, S)
  | .exc _ _, .non => some (.bl false, S)
  | .obj _, .non => some (.bl false, S)
  | .bl a, .bl b => some (.bl (decide (a = b)), S)
  | _, _ => none
def pIsNot : M2 := fun a b S => match pIs a b S with
  | some (.bl k, S') => some (.bl (!k), S')
  | _ => none
section
variable {K : PySem.W.Frag}
theorem s_cmp {f : Int → Int → Bool} {g : Str → Str → Bool} {r : R2} (h1 : ∀ i j H Q, Q (.bl (f i j)) H → r (.int i) (.int j) H Q) (h2 : ∀ i j H Q, Q (.bl (g i j)) H → r (.str i) (.str j) H Q) : SR2 K r (pCmp f g) := by
  intro z S H x y a b Q c S' xa ra rb e hp
  unfold pCmp at e
  split at e
  · cases e; cases ra; cases rb
    exact h1 _ _ _ _ (hp z _ H (.refl z) xa (.bl _))
  · cases e; cases ra; cases rb
    exact h2 _ _ _ _ (hp z _ H (.refl z) xa (.bl _))
  · cases e
theorem s_lt : SR2 K uLt pLt := s_cmp (fun _ _ _ _ q => .inl ⟨_, _, rfl, rfl, q⟩) fun _ _ _ _ q => .inr ⟨_, _, rfl, rfl, q⟩
theorem s_le : SR2 K uLe pLe := s_cmp (fun _ _ _ _ q => .inl ⟨_, _, rfl, rfl, q⟩) fun _ _ _ _ q => .inr ⟨_, _, rfl, rfl, q⟩
theorem s_gt : SR2 K uGt pGt := s_cmp (fun _ _ _ _ q => .inl ⟨_, _, rfl, rfl, q⟩) fun _ _ _ _ q => .inr ⟨_, _, rfl, rfl, q⟩
theorem s_ge : SR2 K uGe pGe := s_cmp (fun _ _ _ _ q => .inl ⟨_, _, rfl, rfl, q⟩) fun _ _ _ _ q => .inr ⟨_, _, rfl, rfl, q⟩
theorem At.is {z : Z} {S : Stt} {H : Hp} (xa : At K z S H) {x y : V} {a b c : D} {S' : Stt} (ra : R K z x a) (rb : R K z y b) (e : pIs a b S = some (c, S')) :
    S' = S ∧ ∃ k, c = .bl k ∧ ((y = .non ∧ decide (x = .non) = k) ∨ ∃ i j, x = .bl i ∧ y = .bl j ∧ decide (i = j) = k) := by
  unfold pIs at e
  split at e <;> first | cases e | skip
  all_goals refine ⟨rfl, _, rfl, ?_⟩
  · cases ra; cases rb; exact .inl ⟨rfl, by simp⟩
  · cases ra; cases rb; exact .inl ⟨rfl, by simp⟩
  · cases ra; cases rb; exact .inl ⟨rfl, by simp⟩
  · cases ra; cases rb; exact .inl ⟨rfl, by simp⟩
  · cases rb; obtain ⟨_, _, rfl, _⟩ := ra.inv_tup; exact .inl ⟨rfl, by simp⟩
  · cases rb; obtain ⟨_, _, rfl, _⟩ := ra.inv_lst; exact .inl ⟨rfl, by simp⟩
  · cases rb; obtain ⟨_, _, rfl, _⟩ := ra.inv_dct; exact .inl ⟨rfl, by simp⟩
  · cases rb
    cases ra with
    | exc0 => exact .inl ⟨rfl, by simp⟩
    | exc => exact .inl ⟨rfl, by simp⟩
  · cases rb; obtain ⟨_, rfl, _⟩ := ra.inv_obj; exact .inl ⟨rfl, by simp⟩
  · cases ra; cases rb; exact .inr ⟨_, _, rfl, rfl, rfl⟩
theorem s_is : SR2 K uIs pIs := by
  intro z S H x y a b Q c S' xa ra rb e hp
  obtain ⟨rfl, k, rfl, ⟨rfl, h⟩ | ⟨i, j, rfl, rfl, h⟩⟩ := xa.is ra rb e
  · exact .inl ⟨rfl, by rw [h]; exact hp z _ H (.refl z) xa (.bl _)⟩
  · exact .inr ⟨i, j, rfl, rfl, by rw [h]; exact hp z _ H (.refl z) xa (.bl _)⟩
theorem s_isnot : SR2 K uIsNot pIsNot := by
  intro z S H x y a b Q c S' xa ra rb e hp
  unfold pIsNot at e
  split at e
  · rename_i k S1 h
    cases e
    obtain ⟨rfl, k', e2, ⟨rfl, h⟩ | ⟨i, j, rfl, rfl, h⟩⟩ := xa.is ra rb h
    · cases e2
      exact .inl ⟨rfl, by rw [h]; exact hp z _ H (.refl z) xa (.bl _)⟩
    · cases e2
      exact .inr ⟨i, j, rfl, rfl, by rw [h]; exact hp z _ H (.refl z) xa (.bl _)⟩
  · cases e
end
end PU

set_option Elab.async false
set_option linter.all false
set_option maxRecDepth 100000
set_option maxHeartbeats 2000000
namespace PU
open PySem PySem.Spec PyProof.Rows L2 PP
/-! ### in, o[i], o[i:j] -/
def flatD : D → Option V
  | .non => some .non
  | .bl b => some (.bl b)
  | .int i => some (.int i)
  | .str s => some (.str s)
  | _ => none
def flatDs : List D → Option (List V)
  | [] => some []
  | d :: r => match flatD d, flatDs r with
    | some v, some vs => some (v :: vs)
    | _, _ => none
/-- a list's or a tuple's items -/
def sqOf (S : Stt) : D → Option (List D)
  | .tup l => some l
  | d => lsOf S d
def oneSign (s : Str) : Option Nat := match s.cps.toList with
  | [c] => some c
  | _ => none
def pin (S : Stt) (a b : D) : Option Bool := match a, b with
  | .str x, .str y => (oneSign x).map fun c => decide (c ∈ y.cps.toList)
  | a, b => match sqOf S b with
    | none => none
    | some l => match flatD a, flatDs l with
      | some v, some vs => some (inV v vs)
      | _, _ => match lsOf S b, toPyS S a, toPyL l with
        | some _, some p, some ps => if SeqAt.shaped p = true ∧ SeqAt.shaped (.list ps) = true then some (ps.any fun q => PyData.eqv q p) else none
        | _, _, _ => none
def pIn : M2 := fun a b S => (pin S a b).map fun k => (.bl k, S)
def pNotIn : M2 := fun a b S => (pin S a b).map fun k => (.bl (!k), S)
def pIx : M2 := fun a b S => match b with
  | .int i => match a with
    | .str s => if s.length ≤ lim then (atI s.cps.toList i).map fun c => (.str ⟨#[c]⟩, S) else none
    | a => match sqOf S a with
      | some l => (atI l i).map fun d => (d, S)
      | none => none
  | _ => none
def cutD (xs : List D) (lo hi : Option Int) : List D := (xs.drop (HT.sIx xs.length 0 lo)).take (HT.sIx xs.length xs.length hi - HT.sIx xs.length 0 lo)
def pSl (a : D) (lo hi : Option Int) (S : Stt) : Option (D × Stt) := match a with
  | .str s => if s.length ≤ lim then some (.str (cutS s lo hi), S) else none
  | .tup l => some (.tup (cutD l lo hi), S)
  | a => match lsOf S a with
    | some l => some (.lst (cutD l lo hi), S)
    | none => none
abbrev MO := MX (Option Int)
def mNoPart : MO := fun _ S => some (.ok none S)
def mPart (a : MX D) : MO := mbind a fun d => fun _ S => match d with
  | .int i => some (.ok (some i) S)
  | _ => none
def mSl (a : MX D) (l h : MO) : MX D := mbind a fun d => mbind l fun i => mbind h fun j => fun _ S => okP (pSl d i j S)
section
variable {K : PySem.W.Frag} {z : Z} {S : Stt} {H : Hp}
theorem R.flat {v w : V} {d : D} (r : R K z v d) (e : flatD d = some w) : v = w ∧ flatV v = true := by
  cases d <;> first | (cases e; cases r; exact ⟨rfl, rfl⟩) | cases e
theorem RL.flat {vs ws : List V} {l : List D} (r : RL K z vs l) (e : flatDs l = some ws) : vs = ws ∧ vs.all flatV = true := by
  induction l generalizing vs ws with
  | nil => cases r.inv_nil; cases e; exact ⟨rfl, rfl⟩
  | cons d l ih =>
    obtain ⟨v, us, rfl, h, t⟩ := r.inv_cons
    unfold flatDs at e
    split at e
    · rename_i a b ha hb
      cases e
      obtain ⟨rfl, f1⟩ := h.flat ha
      obtain ⟨rfl, f2⟩ := ih t hb
      exact ⟨rfl, by rw [List.all_cons, f1, f2]; rfl⟩
    · cases e
theorem At.sq (x : At K z S H) {v : V} {d : D} {l : List D} (r : R K z v d) (e : sqOf S d = some l) : ∃ a vs, v = .ref a ∧ (SqL K H a vs ∨ SqT K H a vs) ∧ RL K z vs l := by
  unfold sqOf at e
  split at e
  · cases e
    obtain ⟨a, vs, rfl, h, q⟩ := r.inv_tup
    exact ⟨a, vs, rfl, .inr (x.sqT h), q⟩
  · obtain ⟨a, vs, rfl, h, q⟩ := x.ls r e
    exact ⟨a, vs, rfl, .inl h, q⟩
theorem oneSign_some {s : Str} {c : Nat} (h : oneSign s = some c) : s = ⟨#[c]⟩ := by
  unfold oneSign at h
  split at h
  · rename_i c' e
    cases h
    obtain ⟨a⟩ := s
    have : a = #[c] := by
      have := congrArg List.toArray e
      simpa using this
    rw [this]
  · cases h
theorem At.pin_ok (x : At K z S H) {v w : V} {a b : D} {k : Bool} (ra : R K z v a) (rb : R K z w b) (e : PU.pin S a b = some k) :
    (∃ c s, v = .str ⟨#[c]⟩ ∧ w = .str s ∧ decide (c ∈ s.cps.toList) = k) ∨ (∃ p xs, w = .ref p ∧ (SqL K H p xs ∨ SqT K H p xs) ∧ flatV v = true ∧ xs.all flatV = true ∧ inV v xs = k) ∨
      ∃ d ds, Dp K H v d ∧ Dp K H w (.list ds) ∧ SeqAt.shaped d = true ∧ SeqAt.shaped (.list ds) = true ∧ (ds.any fun z => PyData.eqv z d) = k := by
  unfold PU.pin at e
  split at e
  · rename_i s y
    obtain ⟨c, hc, hk⟩ := map_some e
    cases ra; cases rb
    cases oneSign_some hc
    exact .inl ⟨c, y, rfl, rfl, hk⟩
  · split at e
    · cases e
    · rename_i l hl
      obtain ⟨p, xs, rfl, hs, rl⟩ := x.sq rb hl
      split at e
      · rename_i u us h1 h2
        obtain ⟨rfl, f1⟩ := ra.flat h1
        obtain ⟨rfl, f2⟩ := rl.flat h2
        exact .inr (.inl ⟨p, xs, rfl, hs, f1, f2, Option.some.inj e⟩)
      · split at e
        · rename_i m q qs h1 h2 h3
          split at e
          · rename_i hsh
            obtain ⟨p', xs', e', hs', rl'⟩ := x.ls rb h1
            have hm : m = l := by
              unfold sqOf at hl
              split at hl
              · cases h1
              · rw [h1] at hl; exact Option.some.inj hl
            subst hm
            exact .inr (.inr ⟨q, qs, x.dp ra h2, by rw [e']; exact .lst hs' (dpAll_of m xs' qs rl'.1 (fun i v d a b => (rl'.2 i v d a b).dp x.sub) h3), hsh.1, hsh.2, Option.some.inj e⟩)
          · cases e
        · cases e
theorem s_in : SR2 K (uIn K) pIn := by
  intro z S H x y a b Q c S' xa ra rb e hp
  obtain ⟨k, e1, e2⟩ := map_some e
  cases e2
  have q := hp z _ H (.refl z) xa (.bl k)
  rcases xa.pin_ok ra rb e1 with ⟨c, s, rfl, rfl, h⟩ | ⟨p, xs, rfl, h1, h2, h3, h⟩ | ⟨d, ds, h1, h2, h3, h4, h⟩
  · exact .inl ⟨c, s, rfl, rfl, by rw [h]; exact q⟩
  · exact .inr (.inl ⟨p, xs, rfl, h1, h2, h3, by rw [h]; exact q⟩)
  · exact .inr (.inr ⟨d, ds, h1, h2, h3, h4, by rw [h]; exact q⟩)
theorem s_notin : SR2 K (uNotIn K) pNotIn := by
  intro z S H x y a b Q c S' xa ra rb e hp
  obtain ⟨k, e1, e2⟩ := map_some e
  cases e2
  have q := hp z _ H (.refl z) xa (.bl (!k))
  rcases xa.pin_ok ra rb e1 with ⟨c, s, rfl, rfl, h⟩ | ⟨p, xs, rfl, h1, h2, h3, h⟩ | ⟨d, ds, h1, h2, h3, h4, h⟩
  · exact .inl ⟨c, s, rfl, rfl, by rw [h]; exact q⟩
  · exact .inr (.inl ⟨p, xs, rfl, h1, h2, h3, by simp only [if_true]; rw [h]; exact q⟩)
  · exact .inr (.inr ⟨d, ds, h1, h2, h3, h4, by rw [h]; exact q⟩)
theorem RL.atI {vs : List V} {l : List D} (r : RL K z vs l) {i : Int} {d : D} (h : L2.atI l i = some d) : ∃ v, L2.atI vs i = some v ∧ R K z v d := by
  unfold L2.atI at h ⊢
  rw [r.1]
  cases q : L2.ixN l.length i with
  | none => rw [q] at h; cases h
  | some j =>
    rw [q] at h
    exact r.get h
theorem s_ix : SR2 K (uIx K) pIx := by
  intro z S H x y a b Q c S' xa ra rb e hp
  have gen : ∀ i, b = .int i → (match sqOf S a with
      | some l => (L2.atI l i).map fun d => (d, S)
      | none => none) = some (c, S') → uIx K x y H Q := by
    intro i hb h
    subst hb
    cases rb
    cases q : sqOf S a with
    | none => rw [q] at h; cases h
    | some l =>
      rw [q] at h
      obtain ⟨d, h1, h2⟩ := map_some h
      cases h2
      obtain ⟨p, vs, rfl, hs, rl⟩ := xa.sq ra q
      obtain ⟨v, hv, rv⟩ := rl.atI h1
      rcases hs with hs | hs
      · exact .inl ⟨p, vs, i, v, rfl, rfl, hs, hv, hp z _ H (.refl z) xa rv⟩
      · exact .inr (.inl ⟨p, vs, i, v, rfl, rfl, hs, hv, hp z _ H (.refl z) xa rv⟩)
  unfold pIx at e
  split at e
  · rename_i i
    split at e
    · rename_i s
      split at e
      · rename_i hl
        obtain ⟨k, h1, h2⟩ := map_some e
        cases h2
        cases ra; cases rb
        exact .inr (.inr ⟨s, i, k, rfl, rfl, by rw [← lim_eq]; exact hl, h1, hp z _ H (.refl z) xa (.str _)⟩)
      · cases e
    · exact gen i rfl e
  · cases e
theorem RL.cut {vs : List V} {l : List D} (r : RL K z vs l) (lo hi : Option Int) : RL K z (L2.cutV vs lo hi) (cutD l lo hi) := by
  unfold L2.cutV cutD
  rw [r.1]
  exact (r.drop _).take _
theorem cutD_all {l : List D} {lo hi : Option Int} (h1 : HT.sIx l.length 0 lo = 0) (h2 : HT.sIx l.length l.length hi = l.length) : cutD l lo hi = l := by
  unfold cutD
  rw [h1, h2]
  simp
theorem pSl_ok {x : V} {a c : D} {lo hi : Option Int} {S' : Stt} {Q : VK} (xa : At K z S H) (ra : R K z x a) (e : pSl a lo hi S = some (c, S')) (hp : ∀ z' v H', z.le z' → At K z' S' H' → R K z' v c → Q v H') : uSl K x lo hi H Q := by
  unfold pSl at e
  split at e
  · split at e
    · rename_i hl
      cases e; cases ra
      exact .inr (.inr ⟨_, rfl, by rw [← lim_eq]; exact hl, hp z _ H (.refl z) xa (.str _)⟩)
    · cases e
  · rename_i l
    cases e
    obtain ⟨p, vs, rfl, hs, rl⟩ := ra.inv_tup
    refine .inr (.inl ⟨p, vs, rfl, xa.sqT hs, fun h => ?_, fun _ P hP => ?_⟩)
    · rw [rl.1] at h
      rw [cutD_all h.1 h.2] at hp
      exact hp z _ H (.refl z) xa ra
    · obtain ⟨l', x'⟩ := xa.newT hP (.tup (L2.cutV vs lo hi))
      exact hp _ _ _ l' x' (.mktup (.inl (.inl upd_same)) ((rl.cut lo hi).mono l'))
  · split at e
    · rename_i l hl
      cases e
      obtain ⟨p, vs, rfl, hs, rl⟩ := xa.ls ra hl
      refine .inl ⟨p, vs, rfl, hs, fun P hP => ?_⟩
      obtain ⟨l', x'⟩ := xa.newT hP (.lst (L2.cutV vs lo hi))
      exact hp _ _ _ l' x' (.mklst (.inl (.inl upd_same)) ((rl.cut lo hi).mono l'))
    · cases e
abbrev SO (K : PySem.W.Frag) (t : WX → L2.TO) (m : MO) : Prop := SX (fun _ a b => a = b) K t m
theorem s_nopart : SO K (fun _ => L2.tNoPart) mNoPart := by
  intro ρ σ z S H W Q r x e hm hp
  cases hm
  exact hp z none H (.refl z) x rfl
theorem s_part {a : WX → TE} {ma : MX D} (ha : SE K a ma) : SO K (fun W => L2.tPart (a W)) (mPart ma) := by
  refine SX.bind (k := fun W σ x H Q => ∃ i, x = .int i ∧ Q (some i) H) ha ?_
  intro ρ σ z S H W Q rr v d x e rv hm hp
  cases d with
  | int i => cases hm; cases rv; exact ⟨i, rfl, hp z _ H (.refl z) x rfl⟩
  | _ => cases hm
theorem s_sl {a : WX → TE} {l h : WX → L2.TO} {ma : MX D} {ml mh : MO} (ha : SE K a ma) (hl : SO K l ml) (hh : SO K h mh) : SE K (fun W => L2.tSl (uSl K) (a W) (l W) (h W)) (mSl ma ml mh) := by
  intro ρ σ z S H W Q r x e hm hp
  unfold mSl mbind at hm
  cases q : ma ρ S with
  | none => rw [q] at hm; cases hm
  | some y =>
    rw [q] at hm
    cases y with
    | ex c' fs S1 => cases hm; exact ha ρ σ z S H W _ _ x e q hp
    | ok d S1 =>
      refine ha ρ σ z S H W _ _ x e q ?_
      intro z1 v H1 l1 x1 rv
      simp only at hm
      cases q2 : ml ρ S1 with
      | none => rw [q2] at hm; cases hm
      | some y =>
        rw [q2] at hm
        cases y with
        | ex c' fs S2 => cases hm; exact hl ρ σ z1 S1 H1 W _ _ x1 (e.mono l1) q2 (hp.mono l1)
        | ok lo S2 =>
          refine hl ρ σ z1 S1 H1 W _ _ x1 (e.mono l1) q2 ?_
          intro z2 lo' H2 l2 x2 elo
          subst elo
          simp only at hm
          have l12 := l1.trans l2
          cases q3 : mh ρ S2 with
          | none => rw [q3] at hm; cases hm
          | some y =>
            rw [q3] at hm
            cases y with
            | ex c' fs S3 => cases hm; exact hh ρ σ z2 S2 H2 W _ _ x2 (e.mono l12) q3 (hp.mono l12)
            | ok hi S3 =>
              refine hh ρ σ z2 S2 H2 W _ _ x2 (e.mono l12) q3 ?_
              intro z3 hi' H3 l3 x3 ehi
              subst ehi
              obtain ⟨c, S4, e4, rfl⟩ := okP_some hm
              have l := l12.trans l3
              exact pSl_ok x3 (rv.mono (l2.trans l3)) e4 (hp.mono l)
end
/-! ### built-in functions -/
def pLen : MN := fun xs S => match xs with
  | [.str y] => if y.length ≤ lim then some (.int y.length, S) else none
  | [.tup l] => some (.int l.length, S)
  | [.lst l] => some (.int l.length, S)
  | [.dct l] => some (.int l.length, S)
  | [.obj n] => match S[n]? with
    | some (.lst l) => some (.int l.length, S)
    | some (.dct l) => some (.int l.length, S)
    | _ => none
  | _ => none
def pInt : MN := fun xs S => match xs with
  | [.int i] => some (.int i, S)
  | [.bl k] => some (.int (if k then 1 else 0), S)
  | _ => none
def pStr : MN := fun xs S => match xs with
  | [.int i] => if i.natAbs.log2 < 1920 then some (.str (toString i), S) else none
  | [.str s] => some (.str s, S)
  | _ => none
def blsD : List D → Option (List Bool)
  | [] => some []
  | .bl b :: r => (blsD r).map (b :: ·)
  | _ => none
def pAll : MN := fun xs S => match xs with
  | [.lst l] => (blsD l).map fun bs => (.bl (bs.all id), S)
  | _ => none
def pAny : MN := fun xs S => match xs with
  | [.lst l] => (blsD l).map fun bs => (.bl (bs.any id), S)
  | _ => none
def pList : MN := fun xs S => match xs with
  | [d] => match sqOf S d with
    | some l => some (.lst l, S)
    | none => none
  | _ => none
def pListO : MN := fun xs S => match xs with
  | [d] => match sqOf S d with
    | some l => some (.obj S.length, S ++ [.lst l])
    | none => none
  | _ => none
def pTuple : MN := fun xs S => match xs with
  | [d] => match sqOf S d with
    | some l => some (.tup l, S)
    | none => none
  | _ => none
def pMax2 : MN := fun xs S => match xs with
  | [.int i, .int j] => some (.int (if j > i then j else i), S)
  | _ => none
def pMin2 : MN := fun xs S => match xs with
  | [.int i, .int j] => some (.int (if j < i then j else i), S)
  | _ => none
def tyC (xl : ExL) (S : Stt) : D → Option Cn
  | .non => some (.ty "NoneType")
  | .bl _ => some (.ty "bool")
  | .int _ => some (.ty "int")
  | .str _ => some (.ty "str")
  | .tup _ => some (.ty "tuple")
  | .lst _ => some (.ty "list")
  | .dct _ => some (.ty "dict")
  | .exc x _ => if x ∈ xl.exc then some (.own x) else none
  | .obj n => match S[n]? with
    | some (.lst _) => some (.ty "list")
    | some (.dct _) => some (.ty "dict")
    | _ => none
  | _ => none
def isT (l : List (Cn × Cn × Bool)) (a b : Cn) : Option Bool := (l.find? fun p => decide (p.1 = a ∧ p.2.1 = b)).map (·.2.2)
def clsC : D → Option Cn
  | .ty n => some (.ty n)
  | .cls x => some (.own x)
  | _ => none
def pIsi (xl : ExL) : MN := fun xs S => match xs with
  | [d, c] => match tyC xl S d, clsC c with
    | some a, some b => (isT xl.kit a b).map fun k => (.bl k, S)
    | _, _ => none
  | _ => none
section
variable {K : PySem.W.Frag} {z : Z} {S : Stt} {H : Hp}
theorem RL.one {vs : List V} {d : D} (r : RL K z vs [d]) : ∃ v, vs = [v] ∧ R K z v d := by
  obtain ⟨v, ws, rfl, h, t⟩ := r.inv_cons
  cases t.inv_nil
  exact ⟨v, rfl, h⟩
theorem RL.two {vs : List V} {d e : D} (r : RL K z vs [d, e]) : ∃ v w, vs = [v, w] ∧ R K z v d ∧ R K z w e := by
  obtain ⟨v, ws, rfl, h, t⟩ := r.inv_cons
  obtain ⟨w, rfl, h2⟩ := t.one
  exact ⟨v, w, rfl, h, h2⟩
theorem RF.length {κ : Type} {vs : List (κ × V)} {l : List (κ × D)} (r : RF K z vs l) : vs.length = l.length := by
  have := congrArg List.length r.1
  simpa using this
theorem s_len : SRN K (uLen K) pLen := by
  intro z S H xs as Q c S' xa ra e hp
  unfold pLen at e
  split at e
  · split at e
    · rename_i y hl
      cases e
      obtain ⟨v, rfl, h⟩ := ra.one
      cases h
      exact .inl ⟨_, _, rfl, ⟨by rw [← lim_eq]; exact hl, rfl⟩, hp z _ H (.refl z) xa (.int _)⟩
    · cases e
  · cases e
    obtain ⟨v, rfl, h⟩ := ra.one
    obtain ⟨a, vs, rfl, hs, rl⟩ := h.inv_tup
    exact .inl ⟨_, _, rfl, .inr ⟨vs, xa.sqT hs, rfl⟩, hp z _ H (.refl z) xa (by rw [rl.1]; exact .int _)⟩
  · cases e
    obtain ⟨v, rfl, h⟩ := ra.one
    obtain ⟨a, vs, rfl, hs, rl⟩ := h.inv_lst
    exact .inl ⟨_, _, rfl, .inl ⟨vs, xa.sqL hs, rfl⟩, hp z _ H (.refl z) xa (by rw [rl.1]; exact .int _)⟩
  · cases e
    obtain ⟨v, rfl, h⟩ := ra.one
    obtain ⟨a, vs, rfl, hs, rl⟩ := h.inv_dct
    exact .inr ⟨_, _, rfl, xa.sub _ _ hs, hp z _ H (.refl z) xa (by rw [rl.length]; exact .int _)⟩
  · rename_i n
    obtain ⟨v, rfl, h⟩ := ra.one
    obtain ⟨a, rfl, hn⟩ := h.inv_obj
    split at e
    · rename_i l hl
      cases e
      obtain ⟨u, hu, vs, rfl, rl⟩ := xa.obj n a _ hn hl
      exact .inl ⟨_, _, rfl, .inl ⟨vs, .inl (.inl hu), rfl⟩, hp z _ H (.refl z) xa (by rw [rl.1]; exact .int _)⟩
    · rename_i l hl
      cases e
      obtain ⟨u, hu, vs, rfl, rl⟩ := xa.obj n a _ hn hl
      exact .inr ⟨_, _, rfl, hu, hp z _ H (.refl z) xa (by rw [rl.length]; exact .int _)⟩
    · cases e
  · cases e
theorem s_intB : SRN K uInt pInt := by
  intro z S H xs as Q c S' xa ra e hp
  unfold pInt at e
  split at e
  · cases e
    obtain ⟨v, rfl, h⟩ := ra.one
    cases h
    exact .inl ⟨_, rfl, hp z _ H (.refl z) xa (.int _)⟩
  · cases e
    obtain ⟨v, rfl, h⟩ := ra.one
    cases h
    exact .inr ⟨_, rfl, hp z _ H (.refl z) xa (.int _)⟩
  · cases e
theorem s_strB : SRN K uStr pStr := by
  intro z S H xs as Q c S' xa ra e hp
  unfold pStr at e
  split at e
  · split at e
    · rename_i hl
      cases e
      obtain ⟨v, rfl, h⟩ := ra.one
      cases h
      exact .inl ⟨_, rfl, hl, hp z _ H (.refl z) xa (.str _)⟩
    · cases e
  · cases e
    obtain ⟨v, rfl, h⟩ := ra.one
    cases h
    exact .inr ⟨_, rfl, hp z _ H (.refl z) xa (.str _)⟩
  · cases e
theorem RL.bls {vs : List V} {l : List D} {bs : List Bool} (r : RL K z vs l) (e : blsD l = some bs) : vs = bs.map V.bl := by
  induction l generalizing vs bs with
  | nil => cases r.inv_nil; cases e; rfl
  | cons d l ih =>
    obtain ⟨v, ws, rfl, h, t⟩ := r.inv_cons
    cases d with
    | bl b =>
      obtain ⟨cs, h1, h2⟩ := map_some e
      subst h2
      cases h
      rw [ih t h1]; rfl
    | _ => cases e
theorem s_all : SRN K (L2.rAll K) pAll := by
  intro z S H xs as Q c S' xa ra e hp
  unfold pAll at e
  split at e
  · obtain ⟨bs, h1, h2⟩ := map_some e
    cases h2
    obtain ⟨v, rfl, h⟩ := ra.one
    obtain ⟨a, vs, rfl, hs, rl⟩ := h.inv_lst
    have := rl.bls h1
    subst this
    exact ⟨a, bs, rfl, xa.sqL hs, hp z _ H (.refl z) xa (.bl _)⟩
  · cases e
theorem s_any : SRN K (L2.rAny K) pAny := by
  intro z S H xs as Q c S' xa ra e hp
  unfold pAny at e
  split at e
  · obtain ⟨bs, h1, h2⟩ := map_some e
    cases h2
    obtain ⟨v, rfl, h⟩ := ra.one
    obtain ⟨a, vs, rfl, hs, rl⟩ := h.inv_lst
    have := rl.bls h1
    subst this
    exact ⟨a, bs, rfl, xa.sqL hs, hp z _ H (.refl z) xa (.bl _)⟩
  · cases e
theorem s_list : SRN K (uList K) pList := by
  intro z S H xs as Q c S' xa ra e hp
  unfold pList at e
  split at e
  · rename_i d
    cases q : sqOf S d with
    | none => rw [q] at e; cases e
    | some l =>
      rw [q] at e
      cases e
      obtain ⟨v, rfl, h⟩ := ra.one
      obtain ⟨a, vs, rfl, hs, rl⟩ := xa.sq h q
      refine ⟨a, vs, rfl, hs, fun P hP => ?_⟩
      obtain ⟨l', x'⟩ := xa.newT hP (.lst vs)
      exact hp _ _ _ l' x' (.mklst (.inl (.inl upd_same)) (rl.mono l'))
  · cases e
theorem s_listO : SRN K (uList K) pListO := by
  intro z S H xs as Q c S' xa ra e hp
  unfold pListO at e
  split at e
  · rename_i d
    cases q : sqOf S d with
    | none => rw [q] at e; cases e
    | some l =>
      rw [q] at e
      cases e
      obtain ⟨v, rfl, h⟩ := ra.one
      obtain ⟨a, vs, rfl, hs, rl⟩ := xa.sq h q
      refine ⟨a, vs, rfl, hs, fun P hP => ?_⟩
      obtain ⟨l', x', g⟩ := xa.newO hP (u := .lst vs) (o := .lst l) ⟨vs, rfl, rl⟩
      exact hp _ _ _ l' x' (.obj g)
  · cases e
theorem s_tuple : SRN K (uTuple K) pTuple := by
  intro z S H xs as Q c S' xa ra e hp
  unfold pTuple at e
  split at e
  · rename_i d
    cases q : sqOf S d with
    | none => rw [q] at e; cases e
    | some l =>
      rw [q] at e
      cases e
      obtain ⟨v, rfl, h⟩ := ra.one
      cases d with
      | tup m =>
        cases q
        obtain ⟨a, vs, rfl, hs, rl⟩ := h.inv_tup
        exact ⟨a, vs, rfl, .inr ⟨xa.sqT hs, hp z _ H (.refl z) xa h⟩⟩
      | _ =>
        obtain ⟨a, vs, rfl, hs, rl⟩ := xa.ls h q
        refine ⟨a, vs, rfl, .inl ⟨hs, fun P hP => ?_⟩⟩
        obtain ⟨l', x'⟩ := xa.newT hP (.tup vs)
        exact hp _ _ _ l' x' (.mktup (.inl (.inl upd_same)) (rl.mono l'))
  · cases e
theorem s_max2 : SRN K uMax2 pMax2 := by
  intro z S H xs as Q c S' xa ra e hp
  unfold pMax2 at e
  split at e
  · cases e
    obtain ⟨v, w, rfl, h1, h2⟩ := ra.two
    cases h1; cases h2
    exact ⟨_, _, rfl, hp z _ H (.refl z) xa (.int _)⟩
  · cases e
theorem s_min2 : SRN K uMin2 pMin2 := by
  intro z S H xs as Q c S' xa ra e hp
  unfold pMin2 at e
  split at e
  · cases e
    obtain ⟨v, w, rfl, h1, h2⟩ := ra.two
    cases h1; cases h2
    exact ⟨_, _, rfl, hp z _ H (.refl z) xa (.int _)⟩
  · cases e
theorem ty_list {a : Addr} {xs : List V} (h : SqL K H a xs) : TyX K H (.ref a) (.type "list") := by
  rcases h with (h | ⟨o, h⟩) | ⟨o, its, n, h, hc, _⟩
  · exact .base (.lst h)
  · exact .base (.frz h)
  · exact .kList h hc
theorem ty_tuple {a : Addr} {xs : List V} (h : SqT K H a xs) : TyX K H (.ref a) (.type "tuple") := by
  rcases h with (h | ⟨o, h⟩) | ⟨o, its, n, h, hc, _⟩
  · exact .base (.tup h)
  · exact .fTuple h
  · exact .kTuple h hc
theorem At.tyC {xl : ExL} (cx : exB xl K = true) (xa : At K z S H) {v : V} {d : D} {t : Cn} (r : R K z v d) (e : PU.tyC xl S d = some t) : TyY K H v (t.v K) := by
  cases d with
  | non => cases e; cases r; exact .base (.base .non)
  | bl b => cases e; cases r; exact .base (.base (.bl _))
  | int i => cases e; cases r; exact .base (.base (.int _))
  | str s => cases e; cases r; exact .base (.base (.str _))
  | tup l => cases e; obtain ⟨a, vs, rfl, h, _⟩ := r.inv_tup; exact .base (ty_tuple (xa.sqT h))
  | lst l => cases e; obtain ⟨a, vs, rfl, h, _⟩ := r.inv_lst; exact .base (ty_list (xa.sqL h))
  | dct l => cases e; obtain ⟨a, vs, rfl, h, _⟩ := r.inv_dct; exact .base (.base (.dK (xa.sub _ _ h)))
  | exc x fs =>
    have e : (if x ∈ xl.exc then some (Cn.own x) else none) = some t := e
    split at e
    · rename_i hx
      cases e
      obtain ⟨i, hi⟩ := List.mem_iff_getElem?.mp hx
      have F := exs_cls cx i hi
      cases r with
      | exc0 h => exact .exc (.inl ⟨xa.sub _ _ h, rfl⟩) F.c
      | exc h h2 e r => exact .exc (.inr ⟨_, xa.sub _ _ h, xa.sub _ _ h2⟩) F.c
    · cases e
  | obj n =>
    obtain ⟨a, rfl, hn⟩ := r.inv_obj
    have e : (match S[n]? with
      | some (.lst _) => some (Cn.ty "list")
      | some (.dct _) => some (Cn.ty "dict")
      | _ => none) = some t := e
    cases hl : S[n]? with
    | none => rw [hl] at e; cases e
    | some o =>
      rw [hl] at e
      obtain ⟨u, hu, ro⟩ := xa.obj n a o hn hl
      cases o with
      | lst l => cases e; obtain ⟨vs, rfl, _⟩ := ro; exact .base (.base (.lst hu))
      | dct l => cases e; obtain ⟨vs, rfl, _⟩ := ro; exact .base (.base (.dK hu))
      | ins => cases e
  | _ => cases e
theorem isT_mem {l : List (Cn × Cn × Bool)} {a b : Cn} {k : Bool} (h : isT l a b = some k) : (a, b, k) ∈ l := by
  obtain ⟨p, h1, h2⟩ := map_some h
  have m := List.mem_of_find?_eq_some h1
  have q := List.find?_some h1
  have q := of_decide_eq_true q
  obtain ⟨p1, p2, p3⟩ := p
  obtain ⟨rfl, rfl⟩ := q
  cases h2
  exact m
theorem R.clsC {v : V} {d : D} {c : Cn} (r : R K z v d) (e : PU.clsC d = some c) : ClsV v (c.v K) := by
  cases d with
  | ty n => cases e; cases r; exact .ty n
  | cls x => cases e; cases r; exact .own _
  | _ => cases e
theorem s_isi {xl : ExL} (cx : exB xl K = true) : SRN K (uIsi K) (pIsi xl) := by
  intro z S H xs as Q c S' xa ra e hp
  unfold pIsi at e
  split at e
  · rename_i d cc
    obtain ⟨v, w, rfl, h1, h2⟩ := ra.two
    split at e
    · rename_i a b ha hb
      obtain ⟨k, hk, e2⟩ := map_some e
      cases e2
      exact .inl ⟨v, w, _, _, k, rfl, h2.clsC hb, xa.tyC cx h1 ha, exs_kit cx (isT_mem hk), hp z _ H (.refl z) xa (.bl _)⟩
    · cases e
  · cases e
def catX (l : List (Cn × Cn × Bool)) (cs : List Cn) (x : Str) : Option Bool := match cs with
  | [] => some false
  | c :: r => match isT l (.own x) c, catX l r x with
    | some b, some d => some (b || d)
    | _, _ => none
theorem catX_ok {xl : ExL} (cx : exB xl K = true) : ∀ (cs : List Cn) x b, catX xl.exm cs x = some b → PySem.W.exmAny K (.ref (He.ga K x)) (cs.map (Cn.v K)) = some b := by
  intro cs
  induction cs with
  | nil => intro x b h; cases h; rfl
  | cons c r ih =>
    intro x b h
    unfold catX at h
    split at h
    · rename_i b1 d1 h1 h2
      cases h
      have e1 := exs_exm cx (isT_mem h1)
      have e2 := ih x d1 h2
      show PySem.W.exmAny K (.ref (He.ga K x)) (c.v K :: r.map (Cn.v K)) = _
      unfold PySem.W.exmAny
      have e1 : PySem.W.exmOne K (.ref (He.ga K x)) (c.v K) = some b1 := e1
      rw [e1, e2]
    · cases h
end
/-! ### methods of built-in types -/
def strsD : List D → Option (List Str)
  | [] => some []
  | .str s :: r => (strsD r).map (s :: ·)
  | _ => none
@[simp] def tyD (T : String) (S : Stt) : D → Bool
  | .str _ => decide (T = "str")
  | .lst _ => decide (T = "list")
  | .dct _ => decide (T = "dict")
  | .obj n => match S[n]? with
    | some (.lst _) => decide (T = "list")
    | some (.dct _) => decide (T = "dict")
    | _ => false
  | _ => false
def mBM (T : String) (f : D → MN) (o : MX D) (a : MX (List D)) : MX D := mbind o fun x => fun ρ S => if tyD T S x = true then mbind a (fun xs => fun _ S => okP (f x xs S)) ρ S else none
def pJoin : D → MN := fun a xs S => match a, xs with
  | .str s, [d] => match sqOf S d with
    | some l => match strsD l with
      | some ys => if (ys.map (·.length)).sum + ys.length * s.length ≤ 16777216 then some (.str (Txt.join s ys), S) else none
      | none => none
    | none => none
  | _, _ => none
def pSplit : D → MN := fun a xs S => match a, xs with
  | .str s, [.str t] => if (t.length == 0) = false ∧ s.length + 2 ≤ lim then some (.lst ((Txt.split s t).map .str), S) else none
  | _, _ => none
def pStrip : D → MN := fun a xs S => match a, xs with
  | .str s, [.str t] => if s.length ≤ lim then some (.str (Txt.stripChars s t), S) else none
  | _, _ => none
def pAppend : D → MN := fun a xs S => match a, xs with
  | .obj n, [d] => match S[n]? with
    | some (.lst l) => if l.length < lim then some (.non, S.set n (.lst (l ++ [d]))) else none
    | _ => none
  | _, _ => none
def pSet : MSet := fun a i v S => match a, i with
  | .obj n, .int k => match S[n]? with
    | some (.lst l) => match L2.ixN l.length k with
      | some j => some (S.set n (.lst (l.set j v)))
      | none => none
    | _ => none
  | _, _ => none
section
variable {K : PySem.W.Frag} {z : Z} {S : Stt} {H : Hp}
theorem RL.strs {vs : List V} {l : List D} {ys : List Str} (r : RL K z vs l) (e : strsD l = some ys) : vs = ys.map V.str := by
  induction l generalizing vs ys with
  | nil => cases r.inv_nil; cases e; rfl
  | cons d l ih =>
    obtain ⟨v, ws, rfl, h, t⟩ := r.inv_cons
    cases d with
    | str b =>
      obtain ⟨cs, h1, h2⟩ := map_some e
      subst h2
      cases h
      rw [ih t h1]; rfl
    | _ => cases e
theorem At.tyD (xa : At K z S H) {T : String} {v : V} {d : D} (r : R K z v d) (e : PU.tyD T S d = true) : L2.tyV K T v H := by
  cases d with
  | str s => cases r; exact (of_decide_eq_true e : T = "str")
  | lst l => obtain ⟨a, vs, rfl, h, _⟩ := r.inv_lst; exact .inl ⟨of_decide_eq_true e, vs, xa.sqL h⟩
  | dct l => obtain ⟨a, vs, rfl, h, _⟩ := r.inv_dct; exact .inr (.inr (.inl ⟨of_decide_eq_true e, .inl ⟨vs, xa.sub _ _ h⟩⟩))
  | obj n =>
    obtain ⟨a, rfl, hn⟩ := r.inv_obj
    have e : (match S[n]? with
      | some (.lst _) => decide (T = "list")
      | some (.dct _) => decide (T = "dict")
      | _ => false) = true := e
    cases hl : S[n]? with
    | none => rw [hl] at e; cases e
    | some o =>
      rw [hl] at e
      obtain ⟨u, hu, ro⟩ := xa.obj n a o hn hl
      cases o with
      | lst l => obtain ⟨vs, rfl, _⟩ := ro; exact .inl ⟨of_decide_eq_true e, vs, .inl (.inl hu)⟩
      | dct l => obtain ⟨vs, rfl, _⟩ := ro; exact .inr (.inr (.inl ⟨of_decide_eq_true e, .inl ⟨vs, hu⟩⟩))
      | ins => cases e
  | _ => cases e
theorem s_bm {T : String} {o : WX → TE} {a : WX → TA} {mo : MX D} {ma : MX (List D)} {r : V → List V → Hp → VK → Prop} {f : D → MN} (hr : SRM K T r f) (ho : SE K o mo) (ha : SA K a ma) :
    SE K (fun W => L2.tBM K T r (o W) (a W)) (mBM T f mo ma) := by
  intro ρ σ z S H W Q r' x e hm hp
  unfold mBM mbind at hm
  cases q : mo ρ S with
  | none => rw [q] at hm; cases hm
  | some y =>
    rw [q] at hm
    cases y with
    | ex c' fs S1 => cases hm; exact ho ρ σ z S H W _ _ x e q hp
    | ok d S1 =>
      refine ho ρ σ z S H W _ _ x e q ?_
      intro z1 v H1 l1 x1 rv
      simp only at hm
      split at hm
      · rename_i hty
        refine ⟨x1.tyD rv hty, ?_⟩
        cases q2 : ma ρ S1 with
        | none => rw [q2] at hm; cases hm
        | some y =>
          rw [q2] at hm
          cases y with
          | ex c' fs S2 => cases hm; exact ha ρ σ z1 S1 H1 W _ _ x1 (e.mono l1) q2 (hp.mono l1)
          | ok ds S2 =>
            obtain ⟨c, S3, e3, rfl⟩ := okP_some hm
            refine ha ρ σ z1 S1 H1 W _ _ x1 (e.mono l1) q2 ?_
            intro z2 vs H2 l2 x2 rs
            exact hr z2 S2 H2 v d vs ds Q c S3 x2 (rv.mono l2) rs e3 (hp.mono (l1.trans l2))
      · cases hm
theorem s_join : SRM K "str" (rJoin K) pJoin := by
  intro z S H x a xs as Q c S' xa ra rs e hp
  unfold pJoin at e
  split at e
  · rename_i s d
    cases ra
    obtain ⟨v, rfl, h⟩ := rs.one
    cases q : sqOf S d with
    | none => rw [q] at e; cases e
    | some l =>
      rw [q] at e
      simp only at e
      cases q2 : strsD l with
      | none => rw [q2] at e; cases e
      | some ys =>
        rw [q2] at e
        simp only at e
        split at e
        · rename_i hl
          cases e
          obtain ⟨p, vs, rfl, hs, rl⟩ := xa.sq h q
          have := rl.strs q2
          subst this
          exact ⟨s, p, ys, rfl, rfl, hs, hl, hp z _ H (.refl z) xa (.str _)⟩
        · cases e
  · cases e
theorem s_split : SRM K "str" rSplit pSplit := by
  intro z S H x a xs as Q c S' xa ra rs e hp
  unfold pSplit at e
  split at e
  · rename_i s t
    split at e
    · rename_i hl
      cases e
      cases ra
      obtain ⟨v, rfl, h⟩ := rs.one
      cases h
      refine ⟨s, t, rfl, rfl, hl.1, by rw [← lim_eq]; exact hl.2, fun P hP => ?_⟩
      obtain ⟨l', x'⟩ := xa.newT hP (.lst ((Txt.split s t).map V.str))
      exact hp _ _ _ l' x' (.mklst (.inl (.inl upd_same)) (RL.map fun _ _ => .str _))
    · cases e
  · cases e
theorem s_strip : SRM K "str" rStrip pStrip := by
  intro z S H x a xs as Q c S' xa ra rs e hp
  unfold pStrip at e
  split at e
  · rename_i s t
    split at e
    · rename_i hl
      cases e
      cases ra
      obtain ⟨v, rfl, h⟩ := rs.one
      cases h
      exact ⟨s, t, rfl, rfl, by rw [← lim_eq]; exact hl, hp z _ H (.refl z) xa (.str _)⟩
    · cases e
  · cases e
theorem s_append : SRM K "list" rAppend pAppend := by
  intro z S H x a xs as Q c S' xa ra rs e hp
  unfold pAppend at e
  split at e
  · rename_i n d
    obtain ⟨v, rfl, h⟩ := rs.one
    obtain ⟨p, rfl, hn⟩ := ra.inv_obj
    split at e
    · rename_i l hl
      split at e
      · rename_i hz
        cases e
        obtain ⟨u, hu, vs, rfl, rl⟩ := xa.obj n p _ hn hl
        refine ⟨p, vs, v, rfl, rfl, hu, by rw [rl.1, ← lim_eq]; exact hz, ?_⟩
        exact hp z _ _ (.refl z) (xa.setO hn (u := .lst (vs ++ [v])) (o := .lst (l ++ [d])) ⟨_, rfl, rl.append (.cons h .nil)⟩) .non
      · cases e
    · cases e
  · cases e
theorem s_set : SSet K uSet pSet := by
  intro z S H o i v a b c Q S' xa ra rb rc e hp
  unfold pSet at e
  split at e
  · rename_i n k
    obtain ⟨p, rfl, hn⟩ := ra.inv_obj
    cases rb
    split at e
    · rename_i l hl
      split at e
      · rename_i j hj
        cases e
        obtain ⟨u, hu, vs, rfl, rl⟩ := xa.obj n p _ hn hl
        refine .inl ⟨p, vs, k, j, rfl, rfl, hu, by rw [rl.1]; exact hj, ?_⟩
        exact hp z _ (.refl z) (xa.setO hn (u := .lst (vs.set j v)) (o := .lst (l.set j c)) ⟨_, rfl, rl.set rc j⟩)
      · cases e
    · cases e
  · cases e
end
end PU

set_option Elab.async false
set_option linter.all false
set_option maxRecDepth 100000
set_option maxHeartbeats 2000000
namespace PU
open PySem PySem.Spec PyProof.Rows L2 PP
theorem reading_of {K : PySem.W.Frag} {sp : Sp} {f : PF} (h : SP K sp f) {H : Hp} {a : Addr} {ns : List Int} (hs : SqL K H a (ns.map V.int)) (hf : ∃ S', f [.lst (ns.map D.int)] [] = some (.ok (.bl true) S')) :
    sp [.ref a] H (fun v _ => v = .bl true) X0 := by
  obtain ⟨S', hf⟩ := hf
  have x : At K ⟨H, [], fun _ => none⟩ [] H := { len := rfl, nd := List.nodup_nil, sub := fun _ _ e => e, sep := fun a m => (by cases m), obj := fun n a o h => (by simp at h), fr := fun a o h => (by cases h) }
  refine h ⟨H, [], fun _ => none⟩ [] H [.ref a] [.lst (ns.map D.int)] _ _ _ x (.cons (.mklst hs (RL.map fun _ _ => .int _)) .nil) hf ?_
  intro z' v H' l x' r
  exact r.inv_bl
/-! runs, step by step: the combinators unfold, the operators answer by these -/
@[simp] theorem mbind_ap {B C : Type} (m : MX B) (k : B → MX C) (ρ : Env) (S : Stt) : mbind m k ρ S = (fun ρ S => match m ρ S with
  | none => none
  | some (.ex x fs S1) => some (.ex x fs S1)
  | some (.ok b S1) => k b ρ S1) ρ S := rfl
@[simp] theorem sbind_ap {B : Type} (m : MX B) (k : B → MS) (ρ : Env) (S : Stt) : sbind m k ρ S = (fun ρ S => match m ρ S with
  | none => none
  | some (.ex x fs S1) => some (.ex x fs ρ S1)
  | some (.ok b S1) => k b ρ S1) ρ S := rfl
@[simp] theorem mSeq_ap (a b : MS) (ρ : Env) (S : Stt) : mSeq a b ρ S = (fun ρ S => match a ρ S with
  | none => none
  | some (.nx ρ1 S1) => b ρ1 S1
  | some o => some o) ρ S := rfl
@[simp] theorem mVar_ap (i : Nat) (ρ : Env) (S : Stt) : mVar i ρ S = (fun ρ S => match ρ[i]? with
  | some (some d) => some (.ok d S)
  | _ => none) ρ S := rfl
@[simp] theorem mC_ap (d : D) (ρ : Env) (S : Stt) : mC d ρ S = (fun _ S => some (.ok d S)) ρ S := rfl
@[simp] theorem mNil_ap  (ρ : Env) (S : Stt) : mNil  ρ S = (fun _ S => some (.ok [] S)) ρ S := rfl
@[simp] theorem mCons_ap (a : MX D) (b : MX (List D)) (ρ : Env) (S : Stt) : mCons a b ρ S = (mbind a fun d => mbind b fun ds => fun _ S => some (.ok (d :: ds) S)) ρ S := rfl
@[simp] theorem mOp_ap (f : M2) (a b : MX D) (ρ : Env) (S : Stt) : mOp f a b ρ S = (mbind a fun x => mbind b fun y => fun _ S => okP (f x y S)) ρ S := rfl
@[simp] theorem mUn_ap (f : M1) (a : MX D) (ρ : Env) (S : Stt) : mUn f a ρ S = (mbind a fun x => fun _ S => okP (f x S)) ρ S := rfl
@[simp] theorem mCB_ap (f : MN) (a : MX (List D)) (ρ : Env) (S : Stt) : mCB f a ρ S = (mbind a fun xs => fun _ S => okP (f xs S)) ρ S := rfl
@[simp] theorem mTup_ap (a : MX (List D)) (ρ : Env) (S : Stt) : mTup a ρ S = (mbind a fun xs => fun _ S => if xs.length ≤ 16777216 then some (.ok (.tup xs) S) else none) ρ S := rfl
@[simp] theorem mLst_ap (a : MX (List D)) (ρ : Env) (S : Stt) : mLst a ρ S = (mbind a fun xs => fun _ S => if xs.length ≤ 16777216 then some (.ok (.lst xs) S) else none) ρ S := rfl
@[simp] theorem mLstO_ap (a : MX (List D)) (ρ : Env) (S : Stt) : mLstO a ρ S = (mbind a fun xs => fun _ S => if xs.length ≤ 16777216 then some (.ok (.obj S.length) (S ++ [.lst xs])) else none) ρ S := rfl
@[simp] theorem mDNew_ap  (ρ : Env) (S : Stt) : mDNew  ρ S = (fun _ S => some (.ok (.dct []) S)) ρ S := rfl
@[simp] theorem mDNewO_ap  (ρ : Env) (S : Stt) : mDNewO  ρ S = (fun _ S => some (.ok (.obj S.length) (S ++ [.dct []]))) ρ S := rfl
@[simp] theorem mTest_ap (a : MX D) (ρ : Env) (S : Stt) : mTest a ρ S = (mbind a fun d => fun _ S => match d with
  | .bl b => some (.ok b S)
  | _ => none) ρ S := rfl
@[simp] theorem mTru_ap (a : MX D) (ρ : Env) (S : Stt) : mTru a ρ S = (mbind a fun d => fun _ S => match tru S d with
  | some b => some (.ok b S)
  | none => none) ρ S := rfl
@[simp] theorem mNot_ap (a : MX Bool) (ρ : Env) (S : Stt) : mNot a ρ S = (mbind a fun b => fun _ S => some (.ok (!b) S)) ρ S := rfl
@[simp] theorem mAnd_ap (a b : MX Bool) (ρ : Env) (S : Stt) : mAnd a b ρ S = (mbind a fun c => if c = true then b else fun _ S => some (.ok false S)) ρ S := rfl
@[simp] theorem mOr_ap (a b : MX Bool) (ρ : Env) (S : Stt) : mOr a b ρ S = (mbind a fun c => if c = true then fun _ S => some (.ok true S) else b) ρ S := rfl
@[simp] theorem mIf_ap {α : Type} (c : MX Bool) (a b : MX α) (ρ : Env) (S : Stt) : mIf c a b ρ S = (mbind c fun k => if k = true then a else b) ρ S := rfl
@[simp] theorem mAndT_ap (a b : MX D) (ρ : Env) (S : Stt) : mAndT a b ρ S = (mbind a fun d => fun ρ S => match tru S d with
  | some k => if k = true then b ρ S else some (.ok d S)
  | none => none) ρ S := rfl
@[simp] theorem mOrT_ap (a b : MX D) (ρ : Env) (S : Stt) : mOrT a b ρ S = (mbind a fun d => fun ρ S => match tru S d with
  | some k => if k = true then some (.ok d S) else b ρ S
  | none => none) ρ S := rfl
@[simp] theorem mNotT_ap (a : MX D) (ρ : Env) (S : Stt) : mNotT a ρ S = (mbind a fun d => fun _ S => match tru S d with
  | some b => some (.ok (.bl (!b)) S)
  | none => none) ρ S := rfl
@[simp] theorem mNext_ap  (ρ : Env) (S : Stt) : mNext  ρ S = (fun ρ S => some (.nx ρ S)) ρ S := rfl
@[simp] theorem mBreak_ap  (ρ : Env) (S : Stt) : mBreak  ρ S = (fun ρ S => some (.bk ρ S)) ρ S := rfl
@[simp] theorem mCont_ap  (ρ : Env) (S : Stt) : mCont  ρ S = (fun ρ S => some (.ct ρ S)) ρ S := rfl
@[simp] theorem mRetN_ap  (ρ : Env) (S : Stt) : mRetN  ρ S = (fun _ S => some (.rt .non S)) ρ S := rfl
@[simp] theorem mRet_ap (a : MX D) (ρ : Env) (S : Stt) : mRet a ρ S = (sbind a fun d => fun _ S => some (.rt d S)) ρ S := rfl
@[simp] theorem mDrop_ap (a : MX D) (ρ : Env) (S : Stt) : mDrop a ρ S = (sbind a fun _ => mNext) ρ S := rfl
@[simp] theorem mIfS_ap (c : MX Bool) (a b : MS) (ρ : Env) (S : Stt) : mIfS c a b ρ S = (sbind c fun k => if k = true then a else b) ρ S := rfl
@[simp] theorem mgName_ap (i : Nat) (d : D) (ρ : Env) (S : Stt) : mgName i d ρ S = (fun d ρ S => some (ρ.set i (some d), S)) d ρ S := rfl
@[simp] theorem mgNil_ap  (ds : List D) (ρ : Env) (S : Stt) : mgNil  ds ρ S = (fun ds ρ S => match ds with
  | [] => some (ρ, S)
  | _ => none) ds ρ S := rfl
@[simp] theorem mgCons_ap (a : MG) (b : MGs) (ds : List D) (ρ : Env) (S : Stt) : mgCons a b ds ρ S = (fun ds ρ S => match ds with
  | [] => none
  | d :: r => match a d ρ S with
    | none => none
    | some (ρ1, S1) => b r ρ1 S1) ds ρ S := rfl
@[simp] theorem mgTup_ap (n : Nat) (b : MGs) (d : D) (ρ : Env) (S : Stt) : mgTup n b d ρ S = (fun d ρ S => match d with
  | .tup l => if l.length = n then b l ρ S else none
  | _ => none) d ρ S := rfl
@[simp] theorem mgSub_ap (o i : MX D) (f : MSet) (d : D) (ρ : Env) (S : Stt) : mgSub o i f d ρ S = (fun d ρ S => match o ρ S with
  | some (.ok a S1) => match i ρ S1 with
    | some (.ok b S2) => match f a b d S2 with
      | some S3 => some (ρ, S3)
      | none => none
    | _ => none
  | _ => none) d ρ S := rfl
@[simp] theorem mAsg_ap (a : MX D) (g : MG) (ρ : Env) (S : Stt) : mAsg a g ρ S = (sbind a fun d => fun ρ S => match g d ρ S with
  | some (ρ1, S1) => some (.nx ρ1 S1)
  | none => none) ρ S := rfl
@[simp] theorem mPar_ap (i j : Nat) (a : MX (List D)) (ρ : Env) (S : Stt) : mPar i j a ρ S = (sbind a fun ds => fun ρ S => match ds with
  | [d, e] => some (.nx ((ρ.set i (some d)).set j (some e)) S)
  | _ => none) ρ S := rfl
@[simp] theorem mFor_ap (a : MX D) (g : MG) (b : MS) (ρ : Env) (S : Stt) : mFor a g b ρ S = (sbind a fun d => fun ρ S => match walked S d with
  | some (l, ok) => mLoop ok g b l ρ S
  | none => none) ρ S := rfl
@[simp] theorem mForR1_ap (a : MX D) (g : MG) (b : MS) (ρ : Env) (S : Stt) : mForR1 a g b ρ S = (sbind a fun d => fun ρ S => match d with
  | .int j => if -(2 ^ 62) ≤ j ∧ j < 2 ^ 62 then mLoop (fun _ => true) g b (upD 0 j.toNat) ρ S else none
  | _ => none) ρ S := rfl
@[simp] theorem mForR2_ap (a c : MX D) (g : MG) (b : MS) (ρ : Env) (S : Stt) : mForR2 a c g b ρ S = (sbind a fun d => sbind c fun d2 => mR2 g b d d2) ρ S := rfl
@[simp] theorem mForE_ap (a : MX D) (g : MG) (b : MS) (ρ : Env) (S : Stt) : mForE a g b ρ S = (sbind a fun d => match d with
  | .lst l => mLoop (fun _ => true) g b (enumD 0 l)
  | _ => fun _ _ => none) ρ S := rfl
@[simp] theorem mForZ_ap (a c : MX D) (g : MG) (b : MS) (ρ : Env) (S : Stt) : mForZ a c g b ρ S = (sbind a fun d => sbind c fun d2 => mZ g b d d2) ρ S := rfl
@[simp] theorem mLc_ap (a : MX D) (g : MG) (tt : MX Bool) (te : MX D) (vs : List Nat) (ρ : Env) (S : Stt) : mLc a g tt te vs ρ S = (mbind a fun d => fun ρ S => match walked S d with
  | some (l, _) => mComp g tt te vs ρ l [] S
  | none => none) ρ S := rfl
@[simp] theorem mLcR1_ap (a : MX D) (g : MG) (tt : MX Bool) (te : MX D) (vs : List Nat) (ρ : Env) (S : Stt) : mLcR1 a g tt te vs ρ S = (mbind a fun d => fun ρ S => match d with
  | .int j => if -(2 ^ 62) ≤ j ∧ j < 2 ^ 62 then mComp g tt te vs ρ (upD 0 j.toNat) [] S else none
  | _ => none) ρ S := rfl
@[simp] theorem mLcR2_ap (a b : MX D) (g : MG) (tt : MX Bool) (te : MX D) (vs : List Nat) (ρ : Env) (S : Stt) : mLcR2 a b g tt te vs ρ S = (mbind a fun d => mbind b fun d2 => mC2 g tt te vs d d2) ρ S := rfl
@[simp] theorem mLcE_ap (a : MX D) (g : MG) (tt : MX Bool) (te : MX D) (vs : List Nat) (ρ : Env) (S : Stt) : mLcE a g tt te vs ρ S = (mbind a fun d => match d with
  | .lst l => fun ρ S => mComp g tt te vs ρ (enumD 0 l) [] S
  | _ => fun _ _ => none) ρ S := rfl
@[simp] theorem mLcZ_ap (a b : MX D) (g : MG) (tt : MX Bool) (te : MX D) (vs : List Nat) (ρ : Env) (S : Stt) : mLcZ a b g tt te vs ρ S = (mbind a fun d => mbind b fun d2 => mCZ g tt te vs d d2) ρ S := rfl
@[simp] theorem mYes_ap  (ρ : Env) (S : Stt) : mYes  ρ S = (fun _ S => some (.ok true S)) ρ S := rfl
@[simp] theorem mCall_ap (f : PF) (g : List D → List D → List D) (t tk : MX (List D)) (ρ : Env) (S : Stt) : mCall f g t tk ρ S = (mbind t fun vs => mbind tk fun zs => fun _ S => f (g vs zs) S) ρ S := rfl
@[simp] theorem pfOf_ap (n k : Nat) (m : MS) (ds : List D) (S : Stt) : pfOf n k m ds S = (fun ds S => if ds.length = n then (match m (ds.map some ++ List.replicate (k - n) none) S with
  | some (.rt d S') => some (.ok d S')
  | some (.nx _ S') => some (.ok .non S')
  | some (.ex x fs _ S') => some (.ex x fs S')
  | _ => none) else none) ds S := rfl
@[simp] theorem mRaise_ap (x : Str) (t : MX (List D)) (ρ : Env) (S : Stt) : mRaise x t ρ S = (sbind t fun vs => fun ρ S => if vs.length ≤ 16777216 then some (.ex x [] ρ S) else none) ρ S := rfl
@[simp] theorem mTry_ap (cat : Str → Option Bool) (i : Nat) (b h : MS) (ρ : Env) (S : Stt) : mTry cat i b h ρ S = (fun ρ S => match b ρ S with
  | some (.ex x fs ρ1 S1) => (match cat x with
    | some true => (h (ρ1.set i (some (.exc x fs))) S1).map (unsetO i)
    | some false => some (.ex x fs ρ1 S1)
    | none => none)
  | o => o) ρ S := rfl
@[simp] theorem mNoPart_ap  (ρ : Env) (S : Stt) : mNoPart  ρ S = (fun _ S => some (.ok none S)) ρ S := rfl
@[simp] theorem mPart_ap (a : MX D) (ρ : Env) (S : Stt) : mPart a ρ S = (mbind a fun d => fun _ S => match d with
  | .int i => some (.ok (some i) S)
  | _ => none) ρ S := rfl
@[simp] theorem mSl_ap (a : MX D) (l h : MO) (ρ : Env) (S : Stt) : mSl a l h ρ S = (mbind a fun d => mbind l fun i => mbind h fun j => fun _ S => okP (pSl d i j S)) ρ S := rfl
@[simp] theorem mBM_ap (T : String) (f : D → MN) (o : MX D) (a : MX (List D)) (ρ : Env) (S : Stt) : mBM T f o a ρ S = (mbind o fun x => fun ρ S => if tyD T S x = true then mbind a (fun xs => fun _ S => okP (f x xs S)) ρ S else none) ρ S := rfl
section
variable {S : Stt}
@[simp] theorem pAdd_ii {i j : Int} : pAdd (.int i) (.int j) S = some (.int (i + j), S) := rfl
@[simp] theorem pAdd_ss {x y : Str} (h : x.length + y.length ≤ 16777216) : pAdd (.str x) (.str y) S = some (.str (x ++ y), S) := if_pos h
@[simp] theorem pAdd_tt {x y : List D} (h : x.length + y.length ≤ 16777216) : pAdd (.tup x) (.tup y) S = some (.tup (x ++ y), S) := if_pos h
@[simp] theorem pAdd_ll {x y : List D} (h : x.length + y.length ≤ 16777216) : pAdd (.lst x) (.lst y) S = some (.lst (x ++ y), S) := if_pos h
@[simp] theorem pSub_ii {i j : Int} : pSub (.int i) (.int j) S = some (.int (i - j), S) := rfl
theorem pMul_ii {i j : Int} (h : (-18446744073709551616 < i ∧ i < 18446744073709551616) ∨ (-18446744073709551616 < j ∧ j < 18446744073709551616)) : pMul (.int i) (.int j) S = some (.int (i * j), S) := if_pos h
theorem pMul_si {x : Str} {n : Int} (h : -1000000 ≤ n ∧ n ≤ 1000000 ∧ x.length * n.toNat ≤ 16777216) : pMul (.str x) (.int n) S = some (.str (strRep x n.toNat), S) := if_pos h
theorem pFdiv_ii {i j : Int} (h : 0 < j ∧ j < 1073741824) : pFdiv (.int i) (.int j) S = some (.int (i / j), S) := if_pos h
theorem pMod_ii {i j : Int} (h : 0 < j) : pMod (.int i) (.int j) S = some (.int (i % j), S) := if_pos h
theorem pPow_ii {i j : Int} (h : 0 ≤ j ∧ j ≤ 1000000 ∧ i.natAbs < 18446744073709551616) : pPow (.int i) (.int j) S = some (.int (i ^ j.toNat), S) := if_pos h
@[simp] theorem pNeg_i {i : Int} : pNeg (.int i) S = some (.int (-i), S) := rfl
@[simp] theorem peq_ii {i j : Int} : peq S (.int i) (.int j) = some (decide (i = j)) := rfl
@[simp] theorem peq_ss {i j : Str} : peq S (.str i) (.str j) = some (decide (i = j)) := rfl
@[simp] theorem peq_bb {i j : Bool} : peq S (.bl i) (.bl j) = some (decide (i = j)) := rfl
@[simp] theorem pEq_of {a b : D} {k : Bool} (h : peq S a b = some k) : pEq a b S = some (.bl k, S) := by unfold pEq; rw [h]; rfl
@[simp] theorem pNe_of {a b : D} {k : Bool} (h : peq S a b = some k) : pNe a b S = some (.bl (!k), S) := by unfold pNe; rw [h]; rfl
@[simp] theorem pEq_ii {i j : Int} : pEq (.int i) (.int j) S = some (.bl (decide (i = j)), S) := rfl
@[simp] theorem pEq_ss {i j : Str} : pEq (.str i) (.str j) S = some (.bl (decide (i = j)), S) := rfl
@[simp] theorem pNe_ii {i j : Int} : pNe (.int i) (.int j) S = some (.bl (!decide (i = j)), S) := rfl
@[simp] theorem pNe_ss {i j : Str} : pNe (.str i) (.str j) S = some (.bl (!decide (i = j)), S) := rfl
@[simp] theorem pLt_ii {i j : Int} : pLt (.int i) (.int j) S = some (.bl (decide (i < j)), S) := rfl
@[simp] theorem pLe_ii {i j : Int} : pLe (.int i) (.int j) S = some (.bl (decide (i ≤ j)), S) := rfl
@[simp] theorem pGt_ii {i j : Int} : pGt (.int i) (.int j) S = some (.bl (decide (j < i)), S) := rfl
@[simp] theorem pGe_ii {i j : Int} : pGe (.int i) (.int j) S = some (.bl (decide (j ≤ i)), S) := rfl
@[simp] theorem pInt_i {i : Int} : pInt [.int i] S = some (.int i, S) := rfl
@[simp] theorem pInt_b {b : Bool} : pInt [.bl b] S = some (.int (if b then 1 else 0), S) := rfl
@[simp] theorem pIs_nn : pIs .non .non S = some (.bl true, S) := rfl
@[simp] theorem pIs_bn {b : Bool} : pIs (.bl b) .non S = some (.bl false, S) := rfl
@[simp] theorem pIs_in {i : Int} : pIs (.int i) .non S = some (.bl false, S) := rfl
@[simp] theorem pIs_sn {s : Str} : pIs (.str s) .non S = some (.bl false, S) := rfl
@[simp] theorem pIs_tn {l : List D} : pIs (.tup l) .non S = some (.bl false, S) := rfl
@[simp] theorem pIs_ln {l : List D} : pIs (.lst l) .non S = some (.bl false, S) := rfl
@[simp] theorem pIs_dn {l : List (Key × D)} : pIs (.dct l) .non S = some (.bl false, S) := rfl
@[simp] theorem pIs_xn {x : Str} {l : List (Str × D)} : pIs (.exc x l) .non S = some (.bl false, S) := rfl
@[simp] theorem pIs_on {n : Nat} : pIs (.obj n) .non S = some (.bl false, S) := rfl
@[simp] theorem pLen_l {l : List D} : pLen [.lst l] S = some (.int l.length, S) := rfl
@[simp] theorem pLen_t {l : List D} : pLen [.tup l] S = some (.int l.length, S) := rfl
@[simp] theorem pLen_d {l : List (Key × D)} : pLen [.dct l] S = some (.int l.length, S) := rfl
theorem pLen_s {y : Str} (h : y.length ≤ 16777216) : pLen [.str y] S = some (.int y.length, S) := if_pos h
@[simp] theorem pIx_l {l : List D} {i : Int} : pIx (.lst l) (.int i) S = (atI l i).map fun d => (d, S) := rfl
@[simp] theorem pIx_t {l : List D} {i : Int} : pIx (.tup l) (.int i) S = (atI l i).map fun d => (d, S) := rfl
theorem pIx_o {n : Nat} {l : List D} {i : Int} (h : S[n]? = some (.lst l)) : pIx (.obj n) (.int i) S = (atI l i).map fun d => (d, S) := by
  show (match olst S[n]? with
    | some l => (atI l i).map fun d => (d, S)
    | none => none) = _
  rw [h]; rfl
theorem pIx_s {s : Str} {i : Int} (h : s.length ≤ 16777216) : pIx (.str s) (.int i) S = (atI s.cps.toList i).map fun c => (.str ⟨#[c]⟩, S) := if_pos h
theorem pSet_o {n : Nat} {l : List D} {k : Int} {v : D} {j : Nat} (h : S[n]? = some (.lst l)) (hj : ixN l.length k = some j) : pSet (.obj n) (.int k) v S = some (S.set n (.lst (l.set j v))) := by
  unfold pSet
  simp [h, hj]
theorem pAppend_o {n : Nat} {l : List D} {d : D} (h : S[n]? = some (.lst l)) (hl : l.length < 16777216) : pAppend (.obj n) [d] S = some (.non, S.set n (.lst (l ++ [d]))) := by
  unfold pAppend
  simp [h, hl, lim]
end

/-! ### loops by an invariant -/
theorem mLoop_inv {g : MG} {b : MS} (I : Nat → Env → Stt → Prop) : ∀ (l : List D) (n : Nat), (∀ i d, l[i]? = some d → ∀ ρ S, I (n + i) ρ S → ∃ ρ1 S1 ρ2 S2, g d ρ S = some (ρ1, S1) ∧ (b ρ1 S1 = some (.nx ρ2 S2) ∨ b ρ1 S1 = some (.ct ρ2 S2)) ∧ I (n + i + 1) ρ2 S2) →
    ∀ ρ S, I n ρ S → ∃ ρ' S', mLoop (fun _ => true) g b l ρ S = some (.nx ρ' S') ∧ I (n + l.length) ρ' S'
  | [], n, _, ρ, S, h0 => ⟨ρ, S, by simp [mLoop], h0⟩
  | d :: l, n, h, ρ, S, h0 => by
    obtain ⟨ρ1, S1, ρ2, S2, e1, e2, h2⟩ := h 0 d rfl ρ S h0
    obtain ⟨ρ', S', e3, h3⟩ := mLoop_inv I l (n + 1) (fun i d' hi ρ S hI => by
      have := h (i + 1) d' (by simpa using hi) ρ S (by have e : n + (i + 1) = n + 1 + i := by omega
                                                       rw [e]; exact hI)
      have e : n + (i + 1) + 1 = n + 1 + i + 1 := by omega
      rw [e] at this
      exact this) ρ2 S2 h2
    refine ⟨ρ', S', ?_, by rw [List.length_cons]; have e : n + (l.length + 1) = n + 1 + l.length := by omega
                           rw [e]; exact h3⟩
    rcases e2 with e2 | e2 <;> simp [mLoop, e1, e2, e3]
/-- a comprehension, item by item: f says what is kept -/
theorem mComp_ok {g : MG} {tt : MX Bool} {te : MX D} {vs : List Nat} {ρ : Env} (I : Nat → Stt → List D → Prop) : ∀ (l : List D) (n : Nat) (acc : List D), acc.length + l.length ≤ 16777216 →
    (∀ i d, l[i]? = some d → ∀ S a, I (n + i) S a → ∃ ρ1 S1 k S2, g d (mwipe ρ vs) S = some (ρ1, S1) ∧ tt ρ1 S1 = some (.ok k S2) ∧ ((k = true ∧ ∃ y S3, te ρ1 S2 = some (.ok y S3) ∧ I (n + i + 1) S3 (a ++ [y])) ∨ (k = false ∧ I (n + i + 1) S2 a))) →
    ∀ S, I n S acc → ∃ S' out, mComp g tt te vs ρ l acc S = some (.ok (.lst out) S') ∧ I (n + l.length) S' out
  | [], n, acc, _, _, S, h0 => ⟨S, acc, by simp [mComp], h0⟩
  | d :: l, n, acc, hl, h, S, h0 => by
    have next : ∀ S acc', acc'.length + l.length ≤ 16777216 → I (n + 1) S acc' → ∃ S' out, mComp g tt te vs ρ l acc' S = some (.ok (.lst out) S') ∧ I (n + (l.length + 1)) S' out := fun S acc' hl' hI => by
      have := mComp_ok I l (n + 1) acc' hl' (fun i d' hi S a hI => by
        have := h (i + 1) d' (by simpa using hi) S a (by have e : n + (i + 1) = n + 1 + i := by omega
                                                         rw [e]; exact hI)
        have e : n + (i + 1) + 1 = n + 1 + i + 1 := by omega
        rw [e] at this
        exact this) S hI
      have e : n + (l.length + 1) = n + 1 + l.length := by omega
      rw [e]; exact this
    have hl2 : acc.length + (l.length + 1) ≤ 16777216 := by simpa using hl
    obtain ⟨ρ1, S1, k, S2, e1, e2, e3⟩ := h 0 d rfl S acc h0
    rcases e3 with ⟨rfl, y, S3, e3, h3⟩ | ⟨rfl, h3⟩
    · obtain ⟨S', out, e4, h4⟩ := next S3 (acc ++ [y]) (by simp; omega) h3
      refine ⟨S', out, ?_, h4⟩
      have hlt : acc.length < 16777216 := by omega
      simp [mComp, e1, e2, e3, e4, hlt]
    · obtain ⟨S', out, e4, h4⟩ := next S2 acc (by omega) h3
      refine ⟨S', out, ?_, h4⟩
      simp [mComp, e1, e2, e4]

theorem upD_get : ∀ (n i : Nat) (lo : Int) (d : D), (upD lo n)[i]? = some d → d = .int (lo + i) ∧ i < n
  | 0, i, lo, d, h => by simp [upD] at h
  | n + 1, 0, lo, d, h => by simp [upD] at h; subst h; simp
  | n + 1, i + 1, lo, d, h => by
    simp [upD] at h
    obtain ⟨e, hl⟩ := upD_get n i (lo + 1) d h
    refine ⟨?_, by omega⟩
    rw [e]
    congr 1
    simp; omega
theorem upD_len : ∀ (n : Nat) (lo : Int), (upD lo n).length = n
  | 0, _ => rfl
  | n + 1, lo => by simp [upD, upD_len n]
theorem enumD_get : ∀ (l : List D) (k : Int) (i : Nat) (d : D), (enumD k l)[i]? = some d → ∃ e, l[i]? = some e ∧ d = .tup [.int (k + i), e]
  | [], k, i, d, h => by simp [enumD] at h
  | a :: l, k, 0, d, h => by simp [enumD] at h; subst h; exact ⟨a, rfl, by simp⟩
  | a :: l, k, i + 1, d, h => by
    simp [enumD] at h
    obtain ⟨e, h1, h2⟩ := enumD_get l (k + 1) i d h
    refine ⟨e, by simpa using h1, ?_⟩
    rw [h2]
    congr 2
    have : k + 1 + (i : Int) = k + ((i + 1 : Nat) : Int) := by omega
    rw [this]
theorem atI_some {α : Type} {l : List α} {v : Int} (h0 : 0 ≤ v) (h1 : v < l.length) : ∃ c, atI l v = some c ∧ c ∈ l := by
  have hn : v.toNat < l.length := by omega
  refine ⟨l[v.toNat], ?_, List.getElem_mem hn⟩
  unfold atI ixN
  rw [if_pos h0, if_pos h1]
  simp [hn]
end PU

set_option Elab.async false
set_option linter.all false
set_option maxRecDepth 100000
set_option maxHeartbeats 0
namespace Lw
open PySem PySem.Spec PyProof.Rows L2 PP PU
def top (i : Nat) : Stmt := PySem.Challenge.pw_paperkin_k02_squeezed.main.body.getD i (.Pass ⟨0, 0, 0, 0⟩)
/-! ### facts -/
def fa0 : List He.Fa := [.glo "law", .glo "Twice", .glo "NoAnswers", .glo "Unmet", .glo "BadKind", .glo "TooMany", .glo "NoPlace", .glo "NoSuch", .glo "BadText", .glo "BadQuestion", .glo "BankError", .free "str", .free "isinstance", .glo "squeezed", .free "ValueError", .glo "BadWish", .glo "BadPaper", .glo "BadSheet", .glo "BadLine", .glo "Gone", .free "zip", .free "len", .glo "_law_word", .glo "_law_said", .free "int"]
def fa1 : List He.Fa := [.glo "_law_due", .free "enumerate", .glo "_law_mixed", .glo "_law_stream", .glo "_law_take", .free "range", .glo "_law_text_by"]
def fa : List He.Fa := fa0 ++ fa1
def xcl0 : List Str := ["BadText"]
def xcl : List Str := xcl0
def noi0 : List (Str × List Value × String) := [("BadText", [.type "ValueError", .type "Exception", .type "BaseException", .type "object"], "ValueError.__new__")]
def noi : List (Str × List Value × String) := noi0
def kit0 : List (Cn × Cn × Bool) := [(.own "BankError", .ty "str", false), (.own "BankError", .own "BadWish", false), (.own "BankError", .own "BadPaper", false), (.own "BankError", .own "BadSheet", false), (.own "BankError", .own "BadLine", false), (.own "BankError", .own "Gone", false), (.own "BankError", .own "BadQuestion", false), (.own "BankError", .own "BadText", false), (.own "BankError", .own "NoSuch", false), (.own "BankError", .own "NoPlace", false), (.own "BankError", .own "TooMany", false), (.own "BankError", .own "BadKind", false), (.own "BankError", .own "Unmet", false), (.own "BankError", .own "NoAnswers", false), (.own "BankError", .own "Twice", false), (.own "BankError", .ty "ValueError", false), (.own "BadWish", .ty "str", false), (.own "BadWish", .own "BadWish", true), (.own "BadWish", .own "BadPaper", false), (.own "BadWish", .own "BadSheet", false), (.own "BadWish", .own "BadLine", false), (.own "BadWish", .own "Gone", false), (.own "BadWish", .own "BadQuestion", false), (.own "BadWish", .own "BadText", false), (.own "BadWish", .own "NoSuch", false)]
def kit1 : List (Cn × Cn × Bool) := [(.own "BadWish", .own "NoPlace", false), (.own "BadWish", .own "TooMany", false), (.own "BadWish", .own "BadKind", false), (.own "BadWish", .own "Unmet", false), (.own "BadWish", .own "NoAnswers", false), (.own "BadWish", .own "Twice", false), (.own "BadWish", .ty "ValueError", false), (.own "BadPaper", .ty "str", false), (.own "BadPaper", .own "BadWish", false), (.own "BadPaper", .own "BadPaper", true), (.own "BadPaper", .own "BadSheet", false), (.own "BadPaper", .own "BadLine", false), (.own "BadPaper", .own "Gone", false), (.own "BadPaper", .own "BadQuestion", false), (.own "BadPaper", .own "BadText", false), (.own "BadPaper", .own "NoSuch", false), (.own "BadPaper", .own "NoPlace", false), (.own "BadPaper", .own "TooMany", false), (.own "BadPaper", .own "BadKind", false), (.own "BadPaper", .own "Unmet", false), (.own "BadPaper", .own "NoAnswers", false), (.own "BadPaper", .own "Twice", false), (.own "BadPaper", .ty "ValueError", false), (.own "BadSheet", .ty "str", false), (.own "BadSheet", .own "BadWish", false)]
def kit2 : List (Cn × Cn × Bool) := [(.own "BadSheet", .own "BadPaper", false), (.own "BadSheet", .own "BadSheet", true), (.own "BadSheet", .own "BadLine", false), (.own "BadSheet", .own "Gone", false), (.own "BadSheet", .own "BadQuestion", false), (.own "BadSheet", .own "BadText", false), (.own "BadSheet", .own "NoSuch", false), (.own "BadSheet", .own "NoPlace", false), (.own "BadSheet", .own "TooMany", false), (.own "BadSheet", .own "BadKind", false), (.own "BadSheet", .own "Unmet", false), (.own "BadSheet", .own "NoAnswers", false), (.own "BadSheet", .own "Twice", false), (.own "BadSheet", .ty "ValueError", false), (.own "BadLine", .ty "str", false), (.own "BadLine", .own "BadWish", false), (.own "BadLine", .own "BadPaper", false), (.own "BadLine", .own "BadSheet", false), (.own "BadLine", .own "BadLine", true), (.own "BadLine", .own "Gone", false), (.own "BadLine", .own "BadQuestion", false), (.own "BadLine", .own "BadText", false), (.own "BadLine", .own "NoSuch", false), (.own "BadLine", .own "NoPlace", false), (.own "BadLine", .own "TooMany", false)]
def kit3 : List (Cn × Cn × Bool) := [(.own "BadLine", .own "BadKind", false), (.own "BadLine", .own "Unmet", false), (.own "BadLine", .own "NoAnswers", false), (.own "BadLine", .own "Twice", false), (.own "BadLine", .ty "ValueError", false), (.own "Gone", .ty "str", false), (.own "Gone", .own "BadWish", false), (.own "Gone", .own "BadPaper", false), (.own "Gone", .own "BadSheet", false), (.own "Gone", .own "BadLine", false), (.own "Gone", .own "Gone", true), (.own "Gone", .own "BadQuestion", false), (.own "Gone", .own "BadText", false), (.own "Gone", .own "NoSuch", false), (.own "Gone", .own "NoPlace", false), (.own "Gone", .own "TooMany", false), (.own "Gone", .own "BadKind", false), (.own "Gone", .own "Unmet", false), (.own "Gone", .own "NoAnswers", false), (.own "Gone", .own "Twice", false), (.own "Gone", .ty "ValueError", false), (.own "BadQuestion", .ty "str", false), (.own "BadQuestion", .own "BadWish", false), (.own "BadQuestion", .own "BadPaper", false), (.own "BadQuestion", .own "BadSheet", false)]
def kit4 : List (Cn × Cn × Bool) := [(.own "BadQuestion", .own "BadLine", false), (.own "BadQuestion", .own "Gone", false), (.own "BadQuestion", .own "BadQuestion", true), (.own "BadQuestion", .own "BadText", false), (.own "BadQuestion", .own "NoSuch", false), (.own "BadQuestion", .own "NoPlace", false), (.own "BadQuestion", .own "TooMany", false), (.own "BadQuestion", .own "BadKind", false), (.own "BadQuestion", .own "Unmet", false), (.own "BadQuestion", .own "NoAnswers", false), (.own "BadQuestion", .own "Twice", false), (.own "BadQuestion", .ty "ValueError", true), (.own "BadText", .ty "str", false), (.own "BadText", .own "BadWish", false), (.own "BadText", .own "BadPaper", false), (.own "BadText", .own "BadSheet", false), (.own "BadText", .own "BadLine", false), (.own "BadText", .own "Gone", false), (.own "BadText", .own "BadQuestion", false), (.own "BadText", .own "BadText", true), (.own "BadText", .own "NoSuch", false), (.own "BadText", .own "NoPlace", false), (.own "BadText", .own "TooMany", false), (.own "BadText", .own "BadKind", false), (.own "BadText", .own "Unmet", false)]
def kit5 : List (Cn × Cn × Bool) := [(.own "BadText", .own "NoAnswers", false), (.own "BadText", .own "Twice", false), (.own "BadText", .ty "ValueError", true), (.own "NoSuch", .ty "str", false), (.own "NoSuch", .own "BadWish", false), (.own "NoSuch", .own "BadPaper", false), (.own "NoSuch", .own "BadSheet", false), (.own "NoSuch", .own "BadLine", false), (.own "NoSuch", .own "Gone", false), (.own "NoSuch", .own "BadQuestion", false), (.own "NoSuch", .own "BadText", false), (.own "NoSuch", .own "NoSuch", true), (.own "NoSuch", .own "NoPlace", false), (.own "NoSuch", .own "TooMany", false), (.own "NoSuch", .own "BadKind", false), (.own "NoSuch", .own "Unmet", false), (.own "NoSuch", .own "NoAnswers", false), (.own "NoSuch", .own "Twice", false), (.own "NoSuch", .ty "ValueError", false), (.own "NoPlace", .ty "str", false), (.own "NoPlace", .own "BadWish", false), (.own "NoPlace", .own "BadPaper", false), (.own "NoPlace", .own "BadSheet", false), (.own "NoPlace", .own "BadLine", false), (.own "NoPlace", .own "Gone", false)]
def kit6 : List (Cn × Cn × Bool) := [(.own "NoPlace", .own "BadQuestion", false), (.own "NoPlace", .own "BadText", false), (.own "NoPlace", .own "NoSuch", false), (.own "NoPlace", .own "NoPlace", true), (.own "NoPlace", .own "TooMany", false), (.own "NoPlace", .own "BadKind", false), (.own "NoPlace", .own "Unmet", false), (.own "NoPlace", .own "NoAnswers", false), (.own "NoPlace", .own "Twice", false), (.own "NoPlace", .ty "ValueError", false), (.own "TooMany", .ty "str", false), (.own "TooMany", .own "BadWish", false), (.own "TooMany", .own "BadPaper", false), (.own "TooMany", .own "BadSheet", false), (.own "TooMany", .own "BadLine", false), (.own "TooMany", .own "Gone", false), (.own "TooMany", .own "BadQuestion", false), (.own "TooMany", .own "BadText", false), (.own "TooMany", .own "NoSuch", false), (.own "TooMany", .own "NoPlace", false), (.own "TooMany", .own "TooMany", true), (.own "TooMany", .own "BadKind", false), (.own "TooMany", .own "Unmet", false), (.own "TooMany", .own "NoAnswers", false), (.own "TooMany", .own "Twice", false)]
def kit7 : List (Cn × Cn × Bool) := [(.own "TooMany", .ty "ValueError", false), (.own "BadKind", .ty "str", false), (.own "BadKind", .own "BadWish", false), (.own "BadKind", .own "BadPaper", false), (.own "BadKind", .own "BadSheet", false), (.own "BadKind", .own "BadLine", false), (.own "BadKind", .own "Gone", false), (.own "BadKind", .own "BadQuestion", false), (.own "BadKind", .own "BadText", false), (.own "BadKind", .own "NoSuch", false), (.own "BadKind", .own "NoPlace", false), (.own "BadKind", .own "TooMany", false), (.own "BadKind", .own "BadKind", true), (.own "BadKind", .own "Unmet", false), (.own "BadKind", .own "NoAnswers", false), (.own "BadKind", .own "Twice", false), (.own "BadKind", .ty "ValueError", false), (.own "Unmet", .ty "str", false), (.own "Unmet", .own "BadWish", false), (.own "Unmet", .own "BadPaper", false), (.own "Unmet", .own "BadSheet", false), (.own "Unmet", .own "BadLine", false), (.own "Unmet", .own "Gone", false), (.own "Unmet", .own "BadQuestion", false), (.own "Unmet", .own "BadText", false)]
def kit8 : List (Cn × Cn × Bool) := [(.own "Unmet", .own "NoSuch", false), (.own "Unmet", .own "NoPlace", false), (.own "Unmet", .own "TooMany", false), (.own "Unmet", .own "BadKind", false), (.own "Unmet", .own "Unmet", true), (.own "Unmet", .own "NoAnswers", false), (.own "Unmet", .own "Twice", false), (.own "Unmet", .ty "ValueError", false), (.own "NoAnswers", .ty "str", false), (.own "NoAnswers", .own "BadWish", false), (.own "NoAnswers", .own "BadPaper", false), (.own "NoAnswers", .own "BadSheet", false), (.own "NoAnswers", .own "BadLine", false), (.own "NoAnswers", .own "Gone", false), (.own "NoAnswers", .own "BadQuestion", false), (.own "NoAnswers", .own "BadText", false), (.own "NoAnswers", .own "NoSuch", false), (.own "NoAnswers", .own "NoPlace", false), (.own "NoAnswers", .own "TooMany", false), (.own "NoAnswers", .own "BadKind", false), (.own "NoAnswers", .own "Unmet", false), (.own "NoAnswers", .own "NoAnswers", true), (.own "NoAnswers", .own "Twice", false), (.own "NoAnswers", .ty "ValueError", false), (.own "Twice", .ty "str", false)]
def kit9 : List (Cn × Cn × Bool) := [(.own "Twice", .own "BadWish", false), (.own "Twice", .own "BadPaper", false), (.own "Twice", .own "BadSheet", false), (.own "Twice", .own "BadLine", false), (.own "Twice", .own "Gone", false), (.own "Twice", .own "BadQuestion", false), (.own "Twice", .own "BadText", false), (.own "Twice", .own "NoSuch", false), (.own "Twice", .own "NoPlace", false), (.own "Twice", .own "TooMany", false), (.own "Twice", .own "BadKind", false), (.own "Twice", .own "Unmet", false), (.own "Twice", .own "NoAnswers", false), (.own "Twice", .own "Twice", true), (.own "Twice", .ty "ValueError", false), (.ty "int", .ty "str", false), (.ty "int", .own "BadWish", false), (.ty "int", .own "BadPaper", false), (.ty "int", .own "BadSheet", false), (.ty "int", .own "BadLine", false), (.ty "int", .own "Gone", false), (.ty "int", .own "BadQuestion", false), (.ty "int", .own "BadText", false), (.ty "int", .own "NoSuch", false), (.ty "int", .own "NoPlace", false)]
def kit10 : List (Cn × Cn × Bool) := [(.ty "int", .own "TooMany", false), (.ty "int", .own "BadKind", false), (.ty "int", .own "Unmet", false), (.ty "int", .own "NoAnswers", false), (.ty "int", .own "Twice", false), (.ty "int", .ty "ValueError", false), (.ty "str", .ty "str", true), (.ty "str", .own "BadWish", false), (.ty "str", .own "BadPaper", false), (.ty "str", .own "BadSheet", false), (.ty "str", .own "BadLine", false), (.ty "str", .own "Gone", false), (.ty "str", .own "BadQuestion", false), (.ty "str", .own "BadText", false), (.ty "str", .own "NoSuch", false), (.ty "str", .own "NoPlace", false), (.ty "str", .own "TooMany", false), (.ty "str", .own "BadKind", false), (.ty "str", .own "Unmet", false), (.ty "str", .own "NoAnswers", false), (.ty "str", .own "Twice", false), (.ty "str", .ty "ValueError", false), (.ty "bool", .ty "str", false), (.ty "bool", .own "BadWish", false), (.ty "bool", .own "BadPaper", false)]
def kit11 : List (Cn × Cn × Bool) := [(.ty "bool", .own "BadSheet", false), (.ty "bool", .own "BadLine", false), (.ty "bool", .own "Gone", false), (.ty "bool", .own "BadQuestion", false), (.ty "bool", .own "BadText", false), (.ty "bool", .own "NoSuch", false), (.ty "bool", .own "NoPlace", false), (.ty "bool", .own "TooMany", false), (.ty "bool", .own "BadKind", false), (.ty "bool", .own "Unmet", false), (.ty "bool", .own "NoAnswers", false), (.ty "bool", .own "Twice", false), (.ty "bool", .ty "ValueError", false), (.ty "list", .ty "str", false), (.ty "list", .own "BadWish", false), (.ty "list", .own "BadPaper", false), (.ty "list", .own "BadSheet", false), (.ty "list", .own "BadLine", false), (.ty "list", .own "Gone", false), (.ty "list", .own "BadQuestion", false), (.ty "list", .own "BadText", false), (.ty "list", .own "NoSuch", false), (.ty "list", .own "NoPlace", false), (.ty "list", .own "TooMany", false), (.ty "list", .own "BadKind", false)]
def kit12 : List (Cn × Cn × Bool) := [(.ty "list", .own "Unmet", false), (.ty "list", .own "NoAnswers", false), (.ty "list", .own "Twice", false), (.ty "list", .ty "ValueError", false), (.ty "tuple", .ty "str", false), (.ty "tuple", .own "BadWish", false), (.ty "tuple", .own "BadPaper", false), (.ty "tuple", .own "BadSheet", false), (.ty "tuple", .own "BadLine", false), (.ty "tuple", .own "Gone", false), (.ty "tuple", .own "BadQuestion", false), (.ty "tuple", .own "BadText", false), (.ty "tuple", .own "NoSuch", false), (.ty "tuple", .own "NoPlace", false), (.ty "tuple", .own "TooMany", false), (.ty "tuple", .own "BadKind", false), (.ty "tuple", .own "Unmet", false), (.ty "tuple", .own "NoAnswers", false), (.ty "tuple", .own "Twice", false), (.ty "tuple", .ty "ValueError", false), (.ty "dict", .ty "str", false), (.ty "dict", .own "BadWish", false), (.ty "dict", .own "BadPaper", false), (.ty "dict", .own "BadSheet", false), (.ty "dict", .own "BadLine", false)]
def kit13 : List (Cn × Cn × Bool) := [(.ty "dict", .own "Gone", false), (.ty "dict", .own "BadQuestion", false), (.ty "dict", .own "BadText", false), (.ty "dict", .own "NoSuch", false), (.ty "dict", .own "NoPlace", false), (.ty "dict", .own "TooMany", false), (.ty "dict", .own "BadKind", false), (.ty "dict", .own "Unmet", false), (.ty "dict", .own "NoAnswers", false), (.ty "dict", .own "Twice", false), (.ty "dict", .ty "ValueError", false), (.ty "NoneType", .ty "str", false), (.ty "NoneType", .own "BadWish", false), (.ty "NoneType", .own "BadPaper", false), (.ty "NoneType", .own "BadSheet", false), (.ty "NoneType", .own "BadLine", false), (.ty "NoneType", .own "Gone", false), (.ty "NoneType", .own "BadQuestion", false), (.ty "NoneType", .own "BadText", false), (.ty "NoneType", .own "NoSuch", false), (.ty "NoneType", .own "NoPlace", false), (.ty "NoneType", .own "TooMany", false), (.ty "NoneType", .own "BadKind", false), (.ty "NoneType", .own "Unmet", false), (.ty "NoneType", .own "NoAnswers", false)]
def kit14 : List (Cn × Cn × Bool) := [(.ty "NoneType", .own "Twice", false), (.ty "NoneType", .ty "ValueError", false)]
def kit : List (Cn × Cn × Bool) := kit0 ++ kit1 ++ kit2 ++ kit3 ++ kit4 ++ kit5 ++ kit6 ++ kit7 ++ kit8 ++ kit9 ++ kit10 ++ kit11 ++ kit12 ++ kit13 ++ kit14
def exm0 : List (Cn × Cn × Bool) := [(.own "BankError", .own "BankError", true), (.own "BankError", .own "BadQuestion", false), (.own "BankError", .own "BadText", false), (.own "BankError", .own "NoSuch", false), (.own "BankError", .own "NoPlace", false), (.own "BankError", .own "TooMany", false), (.own "BankError", .own "BadKind", false), (.own "BankError", .own "Unmet", false), (.own "BankError", .own "NoAnswers", false), (.own "BankError", .own "Twice", false), (.own "BadWish", .own "BankError", true), (.own "BadWish", .own "BadQuestion", false), (.own "BadWish", .own "BadText", false), (.own "BadWish", .own "NoSuch", false), (.own "BadWish", .own "NoPlace", false), (.own "BadWish", .own "TooMany", false), (.own "BadWish", .own "BadKind", false), (.own "BadWish", .own "Unmet", false), (.own "BadWish", .own "NoAnswers", false), (.own "BadWish", .own "Twice", false), (.own "BadPaper", .own "BankError", true), (.own "BadPaper", .own "BadQuestion", false), (.own "BadPaper", .own "BadText", false), (.own "BadPaper", .own "NoSuch", false), (.own "BadPaper", .own "NoPlace", false)]
def exm1 : List (Cn × Cn × Bool) := [(.own "BadPaper", .own "TooMany", false), (.own "BadPaper", .own "BadKind", false), (.own "BadPaper", .own "Unmet", false), (.own "BadPaper", .own "NoAnswers", false), (.own "BadPaper", .own "Twice", false), (.own "BadSheet", .own "BankError", true), (.own "BadSheet", .own "BadQuestion", false), (.own "BadSheet", .own "BadText", false), (.own "BadSheet", .own "NoSuch", false), (.own "BadSheet", .own "NoPlace", false), (.own "BadSheet", .own "TooMany", false), (.own "BadSheet", .own "BadKind", false), (.own "BadSheet", .own "Unmet", false), (.own "BadSheet", .own "NoAnswers", false), (.own "BadSheet", .own "Twice", false), (.own "BadLine", .own "BankError", true), (.own "BadLine", .own "BadQuestion", false), (.own "BadLine", .own "BadText", false), (.own "BadLine", .own "NoSuch", false), (.own "BadLine", .own "NoPlace", false), (.own "BadLine", .own "TooMany", false), (.own "BadLine", .own "BadKind", false), (.own "BadLine", .own "Unmet", false), (.own "BadLine", .own "NoAnswers", false), (.own "BadLine", .own "Twice", false)]
def exm2 : List (Cn × Cn × Bool) := [(.own "Gone", .own "BankError", true), (.own "Gone", .own "BadQuestion", false), (.own "Gone", .own "BadText", false), (.own "Gone", .own "NoSuch", false), (.own "Gone", .own "NoPlace", false), (.own "Gone", .own "TooMany", false), (.own "Gone", .own "BadKind", false), (.own "Gone", .own "Unmet", false), (.own "Gone", .own "NoAnswers", false), (.own "Gone", .own "Twice", false), (.own "BadQuestion", .own "BankError", false), (.own "BadQuestion", .own "BadQuestion", true), (.own "BadQuestion", .own "BadText", false), (.own "BadQuestion", .own "NoSuch", false), (.own "BadQuestion", .own "NoPlace", false), (.own "BadQuestion", .own "TooMany", false), (.own "BadQuestion", .own "BadKind", false), (.own "BadQuestion", .own "Unmet", false), (.own "BadQuestion", .own "NoAnswers", false), (.own "BadQuestion", .own "Twice", false), (.own "BadText", .own "BankError", false), (.own "BadText", .own "BadQuestion", false), (.own "BadText", .own "BadText", true), (.own "BadText", .own "NoSuch", false), (.own "BadText", .own "NoPlace", false)]
def exm3 : List (Cn × Cn × Bool) := [(.own "BadText", .own "TooMany", false), (.own "BadText", .own "BadKind", false), (.own "BadText", .own "Unmet", false), (.own "BadText", .own "NoAnswers", false), (.own "BadText", .own "Twice", false), (.own "NoSuch", .own "BankError", false), (.own "NoSuch", .own "BadQuestion", false), (.own "NoSuch", .own "BadText", false), (.own "NoSuch", .own "NoSuch", true), (.own "NoSuch", .own "NoPlace", false), (.own "NoSuch", .own "TooMany", false), (.own "NoSuch", .own "BadKind", false), (.own "NoSuch", .own "Unmet", false), (.own "NoSuch", .own "NoAnswers", false), (.own "NoSuch", .own "Twice", false), (.own "NoPlace", .own "BankError", false), (.own "NoPlace", .own "BadQuestion", false), (.own "NoPlace", .own "BadText", false), (.own "NoPlace", .own "NoSuch", false), (.own "NoPlace", .own "NoPlace", true), (.own "NoPlace", .own "TooMany", false), (.own "NoPlace", .own "BadKind", false), (.own "NoPlace", .own "Unmet", false), (.own "NoPlace", .own "NoAnswers", false), (.own "NoPlace", .own "Twice", false)]
def exm4 : List (Cn × Cn × Bool) := [(.own "TooMany", .own "BankError", false), (.own "TooMany", .own "BadQuestion", false), (.own "TooMany", .own "BadText", false), (.own "TooMany", .own "NoSuch", false), (.own "TooMany", .own "NoPlace", false), (.own "TooMany", .own "TooMany", true), (.own "TooMany", .own "BadKind", false), (.own "TooMany", .own "Unmet", false), (.own "TooMany", .own "NoAnswers", false), (.own "TooMany", .own "Twice", false), (.own "BadKind", .own "BankError", false), (.own "BadKind", .own "BadQuestion", false), (.own "BadKind", .own "BadText", false), (.own "BadKind", .own "NoSuch", false), (.own "BadKind", .own "NoPlace", false), (.own "BadKind", .own "TooMany", false), (.own "BadKind", .own "BadKind", true), (.own "BadKind", .own "Unmet", false), (.own "BadKind", .own "NoAnswers", false), (.own "BadKind", .own "Twice", false), (.own "Unmet", .own "BankError", false), (.own "Unmet", .own "BadQuestion", false), (.own "Unmet", .own "BadText", false), (.own "Unmet", .own "NoSuch", false), (.own "Unmet", .own "NoPlace", false)]
def exm5 : List (Cn × Cn × Bool) := [(.own "Unmet", .own "TooMany", false), (.own "Unmet", .own "BadKind", false), (.own "Unmet", .own "Unmet", true), (.own "Unmet", .own "NoAnswers", false), (.own "Unmet", .own "Twice", false), (.own "NoAnswers", .own "BankError", false), (.own "NoAnswers", .own "BadQuestion", false), (.own "NoAnswers", .own "BadText", false), (.own "NoAnswers", .own "NoSuch", false), (.own "NoAnswers", .own "NoPlace", false), (.own "NoAnswers", .own "TooMany", false), (.own "NoAnswers", .own "BadKind", false), (.own "NoAnswers", .own "Unmet", false), (.own "NoAnswers", .own "NoAnswers", true), (.own "NoAnswers", .own "Twice", false), (.own "Twice", .own "BankError", false), (.own "Twice", .own "BadQuestion", false), (.own "Twice", .own "BadText", false), (.own "Twice", .own "NoSuch", false), (.own "Twice", .own "NoPlace", false), (.own "Twice", .own "TooMany", false), (.own "Twice", .own "BadKind", false), (.own "Twice", .own "Unmet", false), (.own "Twice", .own "NoAnswers", false), (.own "Twice", .own "Twice", true)]
def exm : List (Cn × Cn × Bool) := exm0 ++ exm1 ++ exm2 ++ exm3 ++ exm4 ++ exm5
def xl : ExL := ⟨xcl, noi, kit, exm, fun _ => true⟩
/-! squeezed -/
abbrev s_squeezed : Stmt := top 17
def N_squeezed : List Str := ["text", "word"]
theorem sc_squeezed : FnScope N_squeezed ["text"] (defScope s_squeezed) := ⟨rfl, rfl, rfl, by decide +kernel, rfl, by decide +kernel, by decide +kernel⟩
def t_squeezed (K : PySem.W.Frag) (W : WX) : TS :=
  tSeq (tIfS (tNot (uTru K (tCB (uIsi K) (tCons (tVar 0) (tCons (tC (.ty "str")) tNil))))) (uRaise (mkOwn (He.ga K "BadText") (tCons (tC (.str "a text is wanted")) tNil)) W) (tNext))
  (tRet (tBM K "str" (rJoin K) (tC (.str " ")) (tCons (uLc K (tBM K "str" (rSplit) (tVar 0) (tCons (tC (.str " ")) tNil)) (gName 1) (tTest (tOp (uNe K) (tVar 1) (tC (.str "")))) (tVar 1) [1]) tNil)))
def p_squeezed : MS :=
  mSeq (mIfS (mNot (mTru (mCB (pIsi xl) (mCons (mVar 0) (mCons (mC (.ty "str")) mNil))))) (mRaise "BadText" (mCons (mC (.str "a text is wanted")) mNil)) (mNext))
  (mRet (mBM "str" pJoin (mC (.str " ")) (mCons (mLc (mBM "str" pSplit (mVar 0) (mCons (mC (.str " ")) mNil)) (mgName 1) (mTest (mOp pNe (mVar 1) (mC (.str "")))) (mVar 1) [1]) mNil)))
def pf_squeezed : PF := pfOf 1 N_squeezed.length p_squeezed
def sp_squeezed (K : PySem.W.Frag) : Sp := spOf N_squeezed 1 (t_squeezed K)
theorem sim_squeezed {K : PySem.W.Frag} (c : exB xl K = true) : SP K (sp_squeezed K) pf_squeezed := s_fn (t := t_squeezed K) (by
  exact (s_seq (s_ifS (s_not (s_tru (s_cb (s_isi c) (s_cons (s_var 0) (s_cons s_ty s_nil))))) (s_raise (s_cons s_str s_nil)) s_next)
  (s_ret (s_bm s_join s_str (s_cons (s_lc (g := fun W => (gName 1)) (tt := fun W => tTest (tOp (uNe K) (tVar 1) (tC (.str "")))) (te := fun W => tVar 1) (s_bm s_split (s_var 0) (s_cons s_str s_nil)) (sg_name 1) (s_test (s_op s_ne (s_var 1) s_str)) (s_var 1) rfl) s_nil)))))
/-! _law_word -/
abbrev s_law_word : Stmt := top 22
def N_law_word : List Str := ["_law_error", "_law_found", "_law_words", "_law_told", "_law_word_here", "_law_good"]
theorem sc_law_word : FnScope N_law_word ["_law_error"] (defScope s_law_word) := ⟨rfl, rfl, rfl, by decide +kernel, rfl, by decide +kernel, by decide +kernel⟩
def t_law_word (K : PySem.W.Frag) (W : WX) : TS :=
  tSeq (tIfS (tTest (tOp (uIs) (tVar 0) (tC (.non)))) (tRet (tC (.str ""))) (tNext))
  (tSeq (tAsg (tLst (tCons (tCB (uIsi K) (tCons (tVar 0) (tCons (tC (.ref (He.ga K "BadWish"))) tNil))) (tCons (tCB (uIsi K) (tCons (tVar 0) (tCons (tC (.ref (He.ga K "BadPaper"))) tNil))) (tCons (tCB (uIsi K) (tCons (tVar 0) (tCons (tC (.ref (He.ga K "BadSheet"))) tNil))) tNil)))) (gName 1))
  (tSeq (tAsg (tOp (uAdd K) (tVar 1) (tLst (tCons (tCB (uIsi K) (tCons (tVar 0) (tCons (tC (.ref (He.ga K "BadLine"))) tNil))) (tCons (tCB (uIsi K) (tCons (tVar 0) (tCons (tC (.ref (He.ga K "Gone"))) tNil))) (tCons (tCB (uIsi K) (tCons (tVar 0) (tCons (tC (.ref (He.ga K "BadQuestion"))) tNil))) tNil))))) (gName 1))
  (tSeq (tAsg (tOp (uAdd K) (tVar 1) (tLst (tCons (tCB (uIsi K) (tCons (tVar 0) (tCons (tC (.ref (He.ga K "BadText"))) tNil))) (tCons (tCB (uIsi K) (tCons (tVar 0) (tCons (tC (.ref (He.ga K "NoSuch"))) tNil))) (tCons (tCB (uIsi K) (tCons (tVar 0) (tCons (tC (.ref (He.ga K "NoPlace"))) tNil))) tNil))))) (gName 1))
  (tSeq (tAsg (tOp (uAdd K) (tVar 1) (tLst (tCons (tCB (uIsi K) (tCons (tVar 0) (tCons (tC (.ref (He.ga K "TooMany"))) tNil))) (tCons (tCB (uIsi K) (tCons (tVar 0) (tCons (tC (.ref (He.ga K "BadKind"))) tNil))) (tCons (tCB (uIsi K) (tCons (tVar 0) (tCons (tC (.ref (He.ga K "Unmet"))) tNil))) tNil))))) (gName 1))
  (tSeq (tAsg (tOp (uAdd K) (tVar 1) (tLst (tCons (tCB (uIsi K) (tCons (tVar 0) (tCons (tC (.ref (He.ga K "NoAnswers"))) tNil))) (tCons (tCB (uIsi K) (tCons (tVar 0) (tCons (tC (.ref (He.ga K "Twice"))) tNil))) tNil)))) (gName 1))
  (tSeq (tAsg (tLst (tCons (tC (.str "wish")) (tCons (tC (.str "paper")) (tCons (tC (.str "sheet")) (tCons (tC (.str "line")) (tCons (tC (.str "gone")) (tCons (tC (.str "question")) (tCons (tC (.str "text")) (tCons (tC (.str "such")) (tCons (tC (.str "place")) (tCons (tC (.str "many")) (tCons (tC (.str "kind")) tNil)))))))))))) (gName 2))
  (tSeq (tAsg (uLcZ K (tOp (uAdd K) (tVar 2) (tLst (tCons (tC (.str "unmet")) (tCons (tC (.str "answers")) (tCons (tC (.str "twice")) tNil))))) (tVar 1) (gTup K 2 (gCons (gName 4) (gCons (gName 5) gNil))) (uTru K (tVar 5)) (tVar 4) [4, 5]) (gName 3))
  (tRet (tIf (tTest (tOp (uEq K) (tCB (uLen K) (tCons (tVar 3) tNil)) (tC (.int 1)))) (tOp (uIx K) (tVar 3) (tC (.int 0))) (tC (.str "another")))))))))))
def p_law_word : MS :=
  mSeq (mIfS (mTest (mOp pIs (mVar 0) (mC (.non)))) (mRet (mC (.str ""))) (mNext))
  (mSeq (mAsg (mLst (mCons (mCB (pIsi xl) (mCons (mVar 0) (mCons (mC (.cls "BadWish")) mNil))) (mCons (mCB (pIsi xl) (mCons (mVar 0) (mCons (mC (.cls "BadPaper")) mNil))) (mCons (mCB (pIsi xl) (mCons (mVar 0) (mCons (mC (.cls "BadSheet")) mNil))) mNil)))) (mgName 1))
  (mSeq (mAsg (mOp pAdd (mVar 1) (mLst (mCons (mCB (pIsi xl) (mCons (mVar 0) (mCons (mC (.cls "BadLine")) mNil))) (mCons (mCB (pIsi xl) (mCons (mVar 0) (mCons (mC (.cls "Gone")) mNil))) (mCons (mCB (pIsi xl) (mCons (mVar 0) (mCons (mC (.cls "BadQuestion")) mNil))) mNil))))) (mgName 1))
  (mSeq (mAsg (mOp pAdd (mVar 1) (mLst (mCons (mCB (pIsi xl) (mCons (mVar 0) (mCons (mC (.cls "BadText")) mNil))) (mCons (mCB (pIsi xl) (mCons (mVar 0) (mCons (mC (.cls "NoSuch")) mNil))) (mCons (mCB (pIsi xl) (mCons (mVar 0) (mCons (mC (.cls "NoPlace")) mNil))) mNil))))) (mgName 1))
  (mSeq (mAsg (mOp pAdd (mVar 1) (mLst (mCons (mCB (pIsi xl) (mCons (mVar 0) (mCons (mC (.cls "TooMany")) mNil))) (mCons (mCB (pIsi xl) (mCons (mVar 0) (mCons (mC (.cls "BadKind")) mNil))) (mCons (mCB (pIsi xl) (mCons (mVar 0) (mCons (mC (.cls "Unmet")) mNil))) mNil))))) (mgName 1))
  (mSeq (mAsg (mOp pAdd (mVar 1) (mLst (mCons (mCB (pIsi xl) (mCons (mVar 0) (mCons (mC (.cls "NoAnswers")) mNil))) (mCons (mCB (pIsi xl) (mCons (mVar 0) (mCons (mC (.cls "Twice")) mNil))) mNil)))) (mgName 1))
  (mSeq (mAsg (mLst (mCons (mC (.str "wish")) (mCons (mC (.str "paper")) (mCons (mC (.str "sheet")) (mCons (mC (.str "line")) (mCons (mC (.str "gone")) (mCons (mC (.str "question")) (mCons (mC (.str "text")) (mCons (mC (.str "such")) (mCons (mC (.str "place")) (mCons (mC (.str "many")) (mCons (mC (.str "kind")) mNil)))))))))))) (mgName 2))
  (mSeq (mAsg (mLcZ (mOp pAdd (mVar 2) (mLst (mCons (mC (.str "unmet")) (mCons (mC (.str "answers")) (mCons (mC (.str "twice")) mNil))))) (mVar 1) (mgTup 2 (mgCons (mgName 4) (mgCons (mgName 5) mgNil))) (mTru (mVar 5)) (mVar 4) [4, 5]) (mgName 3))
  (mRet (mIf (mTest (mOp pEq (mCB pLen (mCons (mVar 3) mNil)) (mC (.int 1)))) (mOp pIx (mVar 3) (mC (.int 0))) (mC (.str "another")))))))))))
def pf_law_word : PF := pfOf 1 N_law_word.length p_law_word
def sp_law_word (K : PySem.W.Frag) : Sp := spOf N_law_word 1 (t_law_word K)
theorem sim_law_word {K : PySem.W.Frag} (c : exB xl K = true) : SP K (sp_law_word K) pf_law_word := s_fn (t := t_law_word K) (by
  exact (s_seq (s_ifS (s_test (s_op s_is (s_var 0) s_non)) (s_ret s_str) s_next)
  (s_seq (s_asg (s_lst (s_cons (s_cb (s_isi c) (s_cons (s_var 0) (s_cons s_cls s_nil))) (s_cons (s_cb (s_isi c) (s_cons (s_var 0) (s_cons s_cls s_nil))) (s_cons (s_cb (s_isi c) (s_cons (s_var 0) (s_cons s_cls s_nil))) s_nil)))) (sg_name 1))
  (s_seq (s_asg (s_op s_add (s_var 1) (s_lst (s_cons (s_cb (s_isi c) (s_cons (s_var 0) (s_cons s_cls s_nil))) (s_cons (s_cb (s_isi c) (s_cons (s_var 0) (s_cons s_cls s_nil))) (s_cons (s_cb (s_isi c) (s_cons (s_var 0) (s_cons s_cls s_nil))) s_nil))))) (sg_name 1))
  (s_seq (s_asg (s_op s_add (s_var 1) (s_lst (s_cons (s_cb (s_isi c) (s_cons (s_var 0) (s_cons s_cls s_nil))) (s_cons (s_cb (s_isi c) (s_cons (s_var 0) (s_cons s_cls s_nil))) (s_cons (s_cb (s_isi c) (s_cons (s_var 0) (s_cons s_cls s_nil))) s_nil))))) (sg_name 1))
  (s_seq (s_asg (s_op s_add (s_var 1) (s_lst (s_cons (s_cb (s_isi c) (s_cons (s_var 0) (s_cons s_cls s_nil))) (s_cons (s_cb (s_isi c) (s_cons (s_var 0) (s_cons s_cls s_nil))) (s_cons (s_cb (s_isi c) (s_cons (s_var 0) (s_cons s_cls s_nil))) s_nil))))) (sg_name 1))
  (s_seq (s_asg (s_op s_add (s_var 1) (s_lst (s_cons (s_cb (s_isi c) (s_cons (s_var 0) (s_cons s_cls s_nil))) (s_cons (s_cb (s_isi c) (s_cons (s_var 0) (s_cons s_cls s_nil))) s_nil)))) (sg_name 1))
  (s_seq (s_asg (s_lst (s_cons s_str (s_cons s_str (s_cons s_str (s_cons s_str (s_cons s_str (s_cons s_str (s_cons s_str (s_cons s_str (s_cons s_str (s_cons s_str (s_cons s_str s_nil)))))))))))) (sg_name 2))
  (s_seq (s_asg (s_lcZ (g := fun W => (gTup K 2 (gCons (gName 4) (gCons (gName 5) gNil)))) (tt := fun W => uTru K (tVar 5)) (te := fun W => tVar 4) (s_op s_add (s_var 2) (s_lst (s_cons s_str (s_cons s_str (s_cons s_str s_nil))))) (s_var 1) (sg_tup (sg_cons (sg_name 4) (sg_cons (sg_name 5) sg_nil))) (s_tru (s_var 5)) (s_var 4) rfl) (sg_name 3))
  (s_ret (s_if (s_test (s_op s_eq (s_cb s_len (s_cons (s_var 3) s_nil)) s_int)) (s_op s_ix (s_var 3) s_int) s_str)))))))))))
/-! _law_said -/
abbrev s_law_said : Stmt := top 23
def N_law_said : List Str := ["_law_thing", "_law_caught", "_law_found", "_law_error"]
theorem sc_law_said : FnScope N_law_said ["_law_thing"] (defScope s_law_said) := ⟨rfl, rfl, rfl, by decide +kernel, rfl, by decide +kernel, by decide +kernel⟩
def t_law_said (K : PySem.W.Frag) (W : WX) : TS :=
  tSeq (tAsg (tC (.non)) (gName 1))
  (tSeq (tAsg (tC (.non)) (gName 2))
  (tSeq (uTry K [Value.ref (He.ga K "BankError"), Value.ref (He.ga K "BadQuestion"), Value.ref (He.ga K "BadText"), Value.ref (He.ga K "NoSuch"), Value.ref (He.ga K "NoPlace"), Value.ref (He.ga K "TooMany"), Value.ref (He.ga K "BadKind"), Value.ref (He.ga K "Unmet"), Value.ref (He.ga K "NoAnswers"), Value.ref (He.ga K "Twice")] 3 (fun W => tAsg (uCall (sp_squeezed K) (fun vs _ => vs) W (tCons (tVar 0) tNil) tNil) (gName 2)) (tAsg (tVar 3) (gName 1)) W)
  (tSeq (tIfS (tTest (tOp (uIs) (tVar 1) (tC (.non)))) (tRet (tTup (tCons (tC (.str "told")) (tCons (tVar 2) tNil)))) (tNext))
  (tRet (tTup (tCons (tC (.str "refused")) (tCons (tIf (uTru K (tCB (uIsi K) (tCons (tVar 1) (tCons (tC (.ty "ValueError")) tNil)))) (uCall (sp_law_word K) (fun vs _ => vs) W (tCons (tVar 1) tNil) tNil) (tC (.str "another"))) tNil)))))))
def p_law_said : MS :=
  mSeq (mAsg (mC (.non)) (mgName 1))
  (mSeq (mAsg (mC (.non)) (mgName 2))
  (mSeq (mTry (catX xl.exm [.own "BankError", .own "BadQuestion", .own "BadText", .own "NoSuch", .own "NoPlace", .own "TooMany", .own "BadKind", .own "Unmet", .own "NoAnswers", .own "Twice"]) 3 (mAsg (mCall pf_squeezed (fun vs _ => vs) (mCons (mVar 0) mNil) mNil) (mgName 2)) (mAsg (mVar 3) (mgName 1)))
  (mSeq (mIfS (mTest (mOp pIs (mVar 1) (mC (.non)))) (mRet (mTup (mCons (mC (.str "told")) (mCons (mVar 2) mNil)))) (mNext))
  (mRet (mTup (mCons (mC (.str "refused")) (mCons (mIf (mTru (mCB (pIsi xl) (mCons (mVar 1) (mCons (mC (.ty "ValueError")) mNil)))) (mCall pf_law_word (fun vs _ => vs) (mCons (mVar 1) mNil) mNil) (mC (.str "another"))) mNil)))))))
def pf_law_said : PF := pfOf 1 N_law_said.length p_law_said
def sp_law_said (K : PySem.W.Frag) : Sp := spOf N_law_said 1 (t_law_said K)
theorem sim_law_said {K : PySem.W.Frag} (c : exB xl K = true) : SP K (sp_law_said K) pf_law_said := s_fn (t := t_law_said K) (by
  exact (s_seq (s_asg s_non (sg_name 1))
  (s_seq (s_asg s_non (sg_name 2))
  (s_seq (s_try (catX_ok c [.own "BankError", .own "BadQuestion", .own "BadText", .own "NoSuch", .own "NoPlace", .own "TooMany", .own "BadKind", .own "Unmet", .own "NoAnswers", .own "Twice"]) (s_asg (s_call (sim_squeezed c) (fun _ _ _ _ _ h _ => h) (s_cons (s_var 0) s_nil) s_nil) (sg_name 2)) (s_asg (s_var 3) (sg_name 1)))
  (s_seq (s_ifS (s_test (s_op s_is (s_var 1) s_non)) (s_ret (s_tup (s_cons s_str (s_cons (s_var 2) s_nil)))) s_next)
  (s_ret (s_tup (s_cons s_str (s_cons (s_if (s_tru (s_cb (s_isi c) (s_cons (s_var 1) (s_cons s_ty s_nil)))) (s_call (sim_law_word c) (fun _ _ _ _ _ h _ => h) (s_cons (s_var 1) s_nil) s_nil) s_str) s_nil)))))))))
/-! _law_due -/
abbrev s_law_due : Stmt := top 24
def N_law_due : List Str := ["_law_row", "_law_found", "_law_waits", "_law_sign"]
theorem sc_law_due : FnScope N_law_due ["_law_row"] (defScope s_law_due) := ⟨rfl, rfl, rfl, by decide +kernel, rfl, by decide +kernel, by decide +kernel⟩
def t_law_due (K : PySem.W.Frag) (W : WX) : TS :=
  tSeq (tAsg (tC (.str "")) (gName 1))
  (tSeq (tAsg (tC (.bl false)) (gName 2))
  (tSeq (uFor K (tVar 0) (gName 3) (tIfS (tTest (tOp (uEq K) (tVar 3) (tC (.str " ")))) (tAsg (tOp (uNe K) (tVar 1) (tC (.str ""))) (gName 2)) (tSeq (tAsg (tOp (uAdd K) (tOp (uAdd K) (tVar 1) (tOp (uMul K) (tC (.str " ")) (tCB (uInt) (tCons (tVar 2) tNil)))) (tVar 3)) (gName 1))
  (tAsg (tC (.bl false)) (gName 2)))))
  (tRet (tVar 1))))
def p_law_due : MS :=
  mSeq (mAsg (mC (.str "")) (mgName 1))
  (mSeq (mAsg (mC (.bl false)) (mgName 2))
  (mSeq (mFor (mVar 0) (mgName 3) (mIfS (mTest (mOp pEq (mVar 3) (mC (.str " ")))) (mAsg (mOp pNe (mVar 1) (mC (.str ""))) (mgName 2)) (mSeq (mAsg (mOp pAdd (mOp pAdd (mVar 1) (mOp pMul (mC (.str " ")) (mCB pInt (mCons (mVar 2) mNil)))) (mVar 3)) (mgName 1))
  (mAsg (mC (.bl false)) (mgName 2)))))
  (mRet (mVar 1))))
def pf_law_due : PF := pfOf 1 N_law_due.length p_law_due
def sp_law_due (K : PySem.W.Frag) : Sp := spOf N_law_due 1 (t_law_due K)
theorem sim_law_due {K : PySem.W.Frag} (c : exB xl K = true) : SP K (sp_law_due K) pf_law_due := s_fn (t := t_law_due K) (by
  exact (s_seq (s_asg s_str (sg_name 1))
  (s_seq (s_asg s_bl (sg_name 2))
  (s_seq (s_for (s_var 0) (sg_name 3) (s_ifS (s_test (s_op s_eq (s_var 3) s_str)) (s_asg (s_op s_ne (s_var 1) s_str) (sg_name 2)) (s_seq (s_asg (s_op s_add (s_op s_add (s_var 1) (s_op s_mul s_str (s_cb s_intB (s_cons (s_var 2) s_nil)))) (s_var 3)) (sg_name 1))
  (s_asg s_bl (sg_name 2)))))
  (s_ret (s_var 1))))))
/-! _law_mixed -/
abbrev s_law_mixed : Stmt := top 19
def N_law_mixed : List Str := ["_law_number", "_law_k"]
theorem sc_law_mixed : FnScope N_law_mixed ["_law_number", "_law_k"] (defScope s_law_mixed) := ⟨rfl, rfl, rfl, by decide +kernel, rfl, by decide +kernel, by decide +kernel⟩
def t_law_mixed (K : PySem.W.Frag) (W : WX) : TS :=
  tSeq (tAsg (tOp (uMod) (tOp (uPow) (tOp (uAdd K) (tOp (uAdd K) (tOp (uAdd K) (tOp (uMod) (tVar 0) (tC (.int 2147483647))) (tOp (uMul K) (tOp (uMul K) (tC (.int 7919)) (tVar 1)) (tVar 1))) (tOp (uMul K) (tC (.int 31)) (tVar 1))) (tC (.int 5))) (tC (.int 5))) (tC (.int 2147483629))) (gName 0))
  (tRet (tOp (uFdiv) (tOp (uMod) (tOp (uMul K) (tVar 0) (tOp (uAdd K) (tC (.int 69621)) (tOp (uMul K) (tC (.int 2)) (tVar 1)))) (tC (.int 2147483587))) (tC (.int 7))))
def p_law_mixed : MS :=
  mSeq (mAsg (mOp pMod (mOp pPow (mOp pAdd (mOp pAdd (mOp pAdd (mOp pMod (mVar 0) (mC (.int 2147483647))) (mOp pMul (mOp pMul (mC (.int 7919)) (mVar 1)) (mVar 1))) (mOp pMul (mC (.int 31)) (mVar 1))) (mC (.int 5))) (mC (.int 5))) (mC (.int 2147483629))) (mgName 0))
  (mRet (mOp pFdiv (mOp pMod (mOp pMul (mVar 0) (mOp pAdd (mC (.int 69621)) (mOp pMul (mC (.int 2)) (mVar 1)))) (mC (.int 2147483587))) (mC (.int 7))))
def pf_law_mixed : PF := pfOf 2 N_law_mixed.length p_law_mixed
def sp_law_mixed (K : PySem.W.Frag) : Sp := spOf N_law_mixed 2 (t_law_mixed K)
theorem sim_law_mixed {K : PySem.W.Frag} (c : exB xl K = true) : SP K (sp_law_mixed K) pf_law_mixed := s_fn (t := t_law_mixed K) (by
  exact (s_seq (s_asg (s_op s_mod (s_op s_pow (s_op s_add (s_op s_add (s_op s_add (s_op s_mod (s_var 0) s_int) (s_op s_mul (s_op s_mul s_int (s_var 1)) (s_var 1))) (s_op s_mul s_int (s_var 1))) s_int) s_int) s_int) (sg_name 0))
  (s_ret (s_op s_fdiv (s_op s_mod (s_op s_mul (s_var 0) (s_op s_add s_int (s_op s_mul s_int (s_var 1)))) s_int) s_int))))
/-! _law_stream -/
abbrev s_law_stream : Stmt := top 20
def N_law_stream : List Str := ["_law_cell", "_law_k"]
theorem sc_law_stream : FnScope N_law_stream ["_law_cell", "_law_k"] (defScope s_law_stream) := ⟨rfl, rfl, rfl, by decide +kernel, rfl, by decide +kernel, by decide +kernel⟩
def t_law_stream (K : PySem.W.Frag) (W : WX) : TS :=
  tRet (tLst (tCons (tOp (uGe) (tVar 0) (tOp (uPow) (tC (.int 10)) (tC (.int 18)))) (tCons (tVar 0) (tCons (tC (.int 0)) (tCons (uCall (sp_law_mixed K) (fun vs _ => vs) W (tCons (tVar 0) (tCons (tVar 1) tNil)) tNil) tNil)))))
def p_law_stream : MS :=
  mRet (mLstO (mCons (mOp pGe (mVar 0) (mOp pPow (mC (.int 10)) (mC (.int 18)))) (mCons (mVar 0) (mCons (mC (.int 0)) (mCons (mCall pf_law_mixed (fun vs _ => vs) (mCons (mVar 0) (mCons (mVar 1) mNil)) mNil) mNil)))))
def pf_law_stream : PF := pfOf 2 N_law_stream.length p_law_stream
def sp_law_stream (K : PySem.W.Frag) : Sp := spOf N_law_stream 2 (t_law_stream K)
theorem sim_law_stream {K : PySem.W.Frag} (c : exB xl K = true) : SP K (sp_law_stream K) pf_law_stream := s_fn (t := t_law_stream K) (by
  exact (s_ret (s_lstO (s_cons (s_op s_ge (s_var 0) (s_op s_pow s_int s_int)) (s_cons (s_var 0) (s_cons s_int (s_cons (s_call (sim_law_mixed c) (fun _ _ _ _ _ h _ => h) (s_cons (s_var 0) (s_cons (s_var 1) s_nil)) s_nil) s_nil)))))))
/-! _law_take -/
abbrev s_law_take : Stmt := top 21
def N_law_take : List Str := ["_law_stream_here", "_law_many", "_law_number"]
theorem sc_law_take : FnScope N_law_take ["_law_stream_here", "_law_many"] (defScope s_law_take) := ⟨rfl, rfl, rfl, by decide +kernel, rfl, by decide +kernel, by decide +kernel⟩
def t_law_take (K : PySem.W.Frag) (W : WX) : TS :=
  tSeq (tAsg (tOp (uAdd K) (tOp (uIx K) (tVar 0) (tC (.int 2))) (tC (.int 1))) (gSub (tVar 0) (tC (.int 2)) uSet))
  (tSeq (tIfS (tOr (tNot (uTru K (tOp (uIx K) (tVar 0) (tC (.int 0))))) (tOr (tTest (tOp (uIn K) (tOp (uIx K) (tVar 0) (tC (.int 1))) (tTup (tCons (tC (.int 0)) (tCons (tUn uNeg (tC (.int 1))) tNil))))) (tTest (tOp (uGt) (tOp (uIx K) (tVar 0) (tC (.int 2))) (tC (.int 60)))))) (tRet (tOp (uMod) (tOp (uFdiv) (uCall (sp_law_mixed K) (fun vs _ => vs) W (tCons (tOp (uAdd K) (tOp (uIx K) (tVar 0) (tC (.int 3))) (tOp (uMul K) (tC (.int 104729)) (tOp (uIx K) (tVar 0) (tC (.int 2))))) (tCons (tOp (uIx K) (tVar 0) (tC (.int 2))) tNil)) tNil) (tC (.int 11))) (tVar 1))) (tNext))
  (tSeq (tAsg (tOp (uMod) (tOp (uIx K) (tVar 0) (tC (.int 1))) (tVar 1)) (gName 2))
  (tSeq (tAsg (tOp (uFdiv) (tOp (uIx K) (tVar 0) (tC (.int 1))) (tVar 1)) (gSub (tVar 0) (tC (.int 1)) uSet))
  (tRet (tVar 2)))))
def p_law_take : MS :=
  mSeq (mAsg (mOp pAdd (mOp pIx (mVar 0) (mC (.int 2))) (mC (.int 1))) (mgSub (mVar 0) (mC (.int 2)) pSet))
  (mSeq (mIfS (mOr (mNot (mTru (mOp pIx (mVar 0) (mC (.int 0))))) (mOr (mTest (mOp pIn (mOp pIx (mVar 0) (mC (.int 1))) (mTup (mCons (mC (.int 0)) (mCons (mUn pNeg (mC (.int 1))) mNil))))) (mTest (mOp pGt (mOp pIx (mVar 0) (mC (.int 2))) (mC (.int 60)))))) (mRet (mOp pMod (mOp pFdiv (mCall pf_law_mixed (fun vs _ => vs) (mCons (mOp pAdd (mOp pIx (mVar 0) (mC (.int 3))) (mOp pMul (mC (.int 104729)) (mOp pIx (mVar 0) (mC (.int 2))))) (mCons (mOp pIx (mVar 0) (mC (.int 2))) mNil)) mNil) (mC (.int 11))) (mVar 1))) (mNext))
  (mSeq (mAsg (mOp pMod (mOp pIx (mVar 0) (mC (.int 1))) (mVar 1)) (mgName 2))
  (mSeq (mAsg (mOp pFdiv (mOp pIx (mVar 0) (mC (.int 1))) (mVar 1)) (mgSub (mVar 0) (mC (.int 1)) pSet))
  (mRet (mVar 2)))))
def pf_law_take : PF := pfOf 2 N_law_take.length p_law_take
def sp_law_take (K : PySem.W.Frag) : Sp := spOf N_law_take 2 (t_law_take K)
theorem sim_law_take {K : PySem.W.Frag} (c : exB xl K = true) : SP K (sp_law_take K) pf_law_take := s_fn (t := t_law_take K) (by
  exact (s_seq (s_asg (s_op s_add (s_op s_ix (s_var 0) s_int) s_int) (sg_sub (s_var 0) s_int s_set))
  (s_seq (s_ifS (s_or (s_not (s_tru (s_op s_ix (s_var 0) s_int))) (s_or (s_test (s_op s_in (s_op s_ix (s_var 0) s_int) (s_tup (s_cons s_int (s_cons (s_un s_neg s_int) s_nil))))) (s_test (s_op s_gt (s_op s_ix (s_var 0) s_int) s_int)))) (s_ret (s_op s_mod (s_op s_fdiv (s_call (sim_law_mixed c) (fun _ _ _ _ _ h _ => h) (s_cons (s_op s_add (s_op s_ix (s_var 0) s_int) (s_op s_mul s_int (s_op s_ix (s_var 0) s_int))) (s_cons (s_op s_ix (s_var 0) s_int) s_nil)) s_nil) s_int) (s_var 1))) s_next)
  (s_seq (s_asg (s_op s_mod (s_op s_ix (s_var 0) s_int) (s_var 1)) (sg_name 2))
  (s_seq (s_asg (s_op s_fdiv (s_op s_ix (s_var 0) s_int) (s_var 1)) (sg_sub (s_var 0) s_int s_set))
  (s_ret (s_var 2)))))))
/-! _law_text_by -/
abbrev s_law_text_by : Stmt := top 25
def N_law_text_by : List Str := ["_law_stream_here", "_law_some", "_law_row", "_law_turn", "_law_word_here", "_law_place"]
theorem sc_law_text_by : FnScope N_law_text_by ["_law_stream_here"] (defScope s_law_text_by) := ⟨rfl, rfl, rfl, by decide +kernel, rfl, by decide +kernel, by decide +kernel⟩
def t_law_text_by (K : PySem.W.Frag) (W : WX) : TS :=
  tSeq (tAsg (tC (.str "!\"#$&'()*+,-./0123456789:;<=>?@ABCDEFGHIJKLMNOPQRSTUVWXYZ[\\]^_`abcdefghijklmnopqrstuvwxyz{|}~\n")) (gName 1))
  (tSeq (tAsg (tOp (uMul K) (tC (.str " ")) (uCall (sp_law_take K) (fun vs _ => vs) W (tCons (tVar 0) (tCons (tC (.int 4)) tNil)) tNil)) (gName 2))
  (tSeq (uForR1 (uCall (sp_law_take K) (fun vs _ => vs) W (tCons (tVar 0) (tCons (tC (.int 9)) tNil)) tNil) (gName 3) (tSeq (tAsg (tBM K "str" (rJoin K) (tC (.str "")) (tCons (uLcR1 (tOp (uAdd K) (tC (.int 1)) (uCall (sp_law_take K) (fun vs _ => vs) W (tCons (tVar 0) (tCons (tC (.int 4)) tNil)) tNil)) (gName 5) (tYes) (tOp (uIx K) (tVar 1) (uCall (sp_law_take K) (fun vs _ => vs) W0 (tCons (tVar 0) (tCons (tC (.int 94)) tNil)) tNil)) [5]) tNil)) (gName 4))
  (tAsg (tOp (uAdd K) (tOp (uAdd K) (tVar 2) (tVar 4)) (tOp (uMul K) (tC (.str " ")) (tOp (uIx K) (tLst (tCons (tC (.int 0)) (tCons (tC (.int 1)) (tCons (tC (.int 2)) (tCons (tC (.int 9)) tNil))))) (uCall (sp_law_take K) (fun vs _ => vs) W (tCons (tVar 0) (tCons (tC (.int 4)) tNil)) tNil)))) (gName 2))))
  (tRet (tVar 2))))
def p_law_text_by : MS :=
  mSeq (mAsg (mC (.str "!\"#$&'()*+,-./0123456789:;<=>?@ABCDEFGHIJKLMNOPQRSTUVWXYZ[\\]^_`abcdefghijklmnopqrstuvwxyz{|}~\n")) (mgName 1))
  (mSeq (mAsg (mOp pMul (mC (.str " ")) (mCall pf_law_take (fun vs _ => vs) (mCons (mVar 0) (mCons (mC (.int 4)) mNil)) mNil)) (mgName 2))
  (mSeq (mForR1 (mCall pf_law_take (fun vs _ => vs) (mCons (mVar 0) (mCons (mC (.int 9)) mNil)) mNil) (mgName 3) (mSeq (mAsg (mBM "str" pJoin (mC (.str "")) (mCons (mLcR1 (mOp pAdd (mC (.int 1)) (mCall pf_law_take (fun vs _ => vs) (mCons (mVar 0) (mCons (mC (.int 4)) mNil)) mNil)) (mgName 5) (mYes) (mOp pIx (mVar 1) (mCall pf_law_take (fun vs _ => vs) (mCons (mVar 0) (mCons (mC (.int 94)) mNil)) mNil)) [5]) mNil)) (mgName 4))
  (mAsg (mOp pAdd (mOp pAdd (mVar 2) (mVar 4)) (mOp pMul (mC (.str " ")) (mOp pIx (mLst (mCons (mC (.int 0)) (mCons (mC (.int 1)) (mCons (mC (.int 2)) (mCons (mC (.int 9)) mNil))))) (mCall pf_law_take (fun vs _ => vs) (mCons (mVar 0) (mCons (mC (.int 4)) mNil)) mNil)))) (mgName 2))))
  (mRet (mVar 2))))
def pf_law_text_by : PF := pfOf 1 N_law_text_by.length p_law_text_by
def sp_law_text_by (K : PySem.W.Frag) : Sp := spOf N_law_text_by 1 (t_law_text_by K)
theorem sim_law_text_by {K : PySem.W.Frag} (c : exB xl K = true) : SP K (sp_law_text_by K) pf_law_text_by := s_fn (t := t_law_text_by K) (by
  exact (s_seq (s_asg s_str (sg_name 1))
  (s_seq (s_asg (s_op s_mul s_str (s_call (sim_law_take c) (fun _ _ _ _ _ h _ => h) (s_cons (s_var 0) (s_cons s_int s_nil)) s_nil)) (sg_name 2))
  (s_seq (s_forR1 (s_call (sim_law_take c) (fun _ _ _ _ _ h _ => h) (s_cons (s_var 0) (s_cons s_int s_nil)) s_nil) (sg_name 3) (s_seq (s_asg (s_bm s_join s_str (s_cons (s_lcR1 (g := fun W => (gName 5)) (tt := fun W => tYes) (te := fun W => tOp (uIx K) (tVar 1) (uCall (sp_law_take K) (fun vs _ => vs) W (tCons (tVar 0) (tCons (tC (.int 94)) tNil)) tNil)) (s_op s_add s_int (s_call (sim_law_take c) (fun _ _ _ _ _ h _ => h) (s_cons (s_var 0) (s_cons s_int s_nil)) s_nil)) (sg_name 5) s_yes (s_op s_ix (s_var 1) (s_call (sim_law_take c) (fun _ _ _ _ _ h _ => h) (s_cons (s_var 0) (s_cons s_int s_nil)) s_nil)) rfl) s_nil)) (sg_name 4))
  (s_asg (s_op s_add (s_op s_add (s_var 2) (s_var 4)) (s_op s_mul s_str (s_op s_ix (s_lst (s_cons s_int (s_cons s_int (s_cons s_int (s_cons s_int s_nil))))) (s_call (sim_law_take c) (fun _ _ _ _ _ h _ => h) (s_cons (s_var 0) (s_cons s_int s_nil)) s_nil)))) (sg_name 2))))
  (s_ret (s_var 2))))))
/-! law -/
abbrev s_law : Stmt := top 26
def N_law : List Str := ["_law_script", "_law_row", "_law_k", "_law_cell", "_law_stream_here", "_law_due_here", "_law_none"]
theorem sc_law : FnScope N_law ["_law_script"] (defScope s_law) := ⟨rfl, rfl, rfl, by decide +kernel, rfl, by decide +kernel, by decide +kernel⟩
def t_law (K : PySem.W.Frag) (W : WX) : TS :=
  tSeq (uFor K (tTup (tCons (tC (.str "")) (tCons (tC (.str " ")) (tCons (tC (.str "   ")) (tCons (tC (.str " a")) (tCons (tC (.str "a ")) (tCons (tC (.str "a  b")) (tCons (tC (.str "\n")) (tCons (tC (.str " \n ")) (tCons (tC (.str "a \n b")) (tCons (tC (.str "  a   b  c ")) tNil))))))))))) (gName 1) (tIfS (tTest (tOp (uNe K) (uCall (sp_law_said K) (fun vs _ => vs) W (tCons (tVar 1) tNil) tNil) (tTup (tCons (tC (.str "told")) (tCons (uCall (sp_law_due K) (fun vs _ => vs) W (tCons (tVar 1) tNil) tNil) tNil))))) (tRet (tC (.bl false))) (tNext)))
  (tSeq (uForE K (tSl (uSl K) (tOp (uAdd K) (tVar 0) (tLst (tCons (tC (.int 0)) tNil))) (tNoPart) (tPart (tC (.int 63)))) (gTup K 2 (gCons (gName 2) (gCons (gName 3) gNil))) (tSeq (tAsg (uCall (sp_law_stream K) (fun vs _ => vs) W (tCons (tVar 3) (tCons (tVar 2) tNil)) tNil) (gName 4))
  (tSeq (tAsg (uCall (sp_law_text_by K) (fun vs _ => vs) W (tCons (tVar 4) tNil) tNil) (gName 1))
  (tSeq (tAsg (uCall (sp_law_due K) (fun vs _ => vs) W (tCons (tVar 1) tNil) tNil) (gName 5))
  (tSeq (tIfS (tOr (tTest (tOp (uNe K) (uCall (sp_law_said K) (fun vs _ => vs) W (tCons (tVar 1) tNil) tNil) (tTup (tCons (tC (.str "told")) (tCons (tVar 5) tNil))))) (tOr (tTest (tOp (uNe K) (uCall (sp_squeezed K) (fun vs zs => ((zs.drop 0).take 1)) W tNil (tCons (tVar 1) tNil)) (tVar 5))) (tTest (tOp (uNe K) (uCall (sp_squeezed K) (fun vs _ => vs) W (tCons (tVar 5) tNil) tNil) (tVar 5))))) (tRet (tC (.bl false))) (tNext))
  (tSeq (tIfS (tTest (tOp (uNe K) (uCall (sp_law_said K) (fun vs _ => vs) W (tCons (tOp (uMul K) (tVar 1) (tC (.int 40))) tNil) tNil) (tTup (tCons (tC (.str "told")) (tCons (uCall (sp_law_due K) (fun vs _ => vs) W (tCons (tOp (uMul K) (tVar 1) (tC (.int 40))) tNil) tNil) tNil))))) (tRet (tC (.bl false))) (tNext))
  (tSeq (tAsg (tOp (uIx K) (tLst (tCons (tC (.non)) (tCons (tC (.int 5)) (tCons (tC (.bl true)) (tCons (tLst (tCons (tVar 1) tNil)) (tCons (tTup (tCons (tVar 1) tNil)) (tCons (tDNewK) (tCons (tC (.int 0)) tNil)))))))) (uCall (sp_law_take K) (fun vs _ => vs) W (tCons (tVar 4) (tCons (tC (.int 7)) tNil)) tNil)) (gName 6))
  (tIfS (tTest (tOp (uNe K) (uCall (sp_law_said K) (fun vs _ => vs) W (tCons (tVar 6) tNil) tNil) (tTup (tCons (tC (.str "refused")) (tCons (tC (.str "text")) tNil))))) (tRet (tC (.bl false))) (tNext)))))))))
  (tRet (tC (.bl true))))
def p_law : MS :=
  mSeq (mFor (mTup (mCons (mC (.str "")) (mCons (mC (.str " ")) (mCons (mC (.str "   ")) (mCons (mC (.str " a")) (mCons (mC (.str "a ")) (mCons (mC (.str "a  b")) (mCons (mC (.str "\n")) (mCons (mC (.str " \n ")) (mCons (mC (.str "a \n b")) (mCons (mC (.str "  a   b  c ")) mNil))))))))))) (mgName 1) (mIfS (mTest (mOp pNe (mCall pf_law_said (fun vs _ => vs) (mCons (mVar 1) mNil) mNil) (mTup (mCons (mC (.str "told")) (mCons (mCall pf_law_due (fun vs _ => vs) (mCons (mVar 1) mNil) mNil) mNil))))) (mRet (mC (.bl false))) (mNext)))
  (mSeq (mForE (mSl (mOp pAdd (mVar 0) (mLst (mCons (mC (.int 0)) mNil))) (mNoPart) (mPart (mC (.int 63)))) (mgTup 2 (mgCons (mgName 2) (mgCons (mgName 3) mgNil))) (mSeq (mAsg (mCall pf_law_stream (fun vs _ => vs) (mCons (mVar 3) (mCons (mVar 2) mNil)) mNil) (mgName 4))
  (mSeq (mAsg (mCall pf_law_text_by (fun vs _ => vs) (mCons (mVar 4) mNil) mNil) (mgName 1))
  (mSeq (mAsg (mCall pf_law_due (fun vs _ => vs) (mCons (mVar 1) mNil) mNil) (mgName 5))
  (mSeq (mIfS (mOr (mTest (mOp pNe (mCall pf_law_said (fun vs _ => vs) (mCons (mVar 1) mNil) mNil) (mTup (mCons (mC (.str "told")) (mCons (mVar 5) mNil))))) (mOr (mTest (mOp pNe (mCall pf_squeezed (fun vs zs => ((zs.drop 0).take 1)) mNil (mCons (mVar 1) mNil)) (mVar 5))) (mTest (mOp pNe (mCall pf_squeezed (fun vs _ => vs) (mCons (mVar 5) mNil) mNil) (mVar 5))))) (mRet (mC (.bl false))) (mNext))
  (mSeq (mIfS (mTest (mOp pNe (mCall pf_law_said (fun vs _ => vs) (mCons (mOp pMul (mVar 1) (mC (.int 40))) mNil) mNil) (mTup (mCons (mC (.str "told")) (mCons (mCall pf_law_due (fun vs _ => vs) (mCons (mOp pMul (mVar 1) (mC (.int 40))) mNil) mNil) mNil))))) (mRet (mC (.bl false))) (mNext))
  (mSeq (mAsg (mOp pIx (mLst (mCons (mC (.non)) (mCons (mC (.int 5)) (mCons (mC (.bl true)) (mCons (mLst (mCons (mVar 1) mNil)) (mCons (mTup (mCons (mVar 1) mNil)) (mCons (mDNew) (mCons (mC (.int 0)) mNil)))))))) (mCall pf_law_take (fun vs _ => vs) (mCons (mVar 4) (mCons (mC (.int 7)) mNil)) mNil)) (mgName 6))
  (mIfS (mTest (mOp pNe (mCall pf_law_said (fun vs _ => vs) (mCons (mVar 6) mNil) mNil) (mTup (mCons (mC (.str "refused")) (mCons (mC (.str "text")) mNil))))) (mRet (mC (.bl false))) (mNext)))))))))
  (mRet (mC (.bl true))))
def pf_law : PF := pfOf 1 N_law.length p_law
def sp_law (K : PySem.W.Frag) : Sp := spOf N_law 1 (t_law K)
theorem sim_law {K : PySem.W.Frag} (c : exB xl K = true) : SP K (sp_law K) pf_law := s_fn (t := t_law K) (by
  exact (s_seq (s_for (s_tup (s_cons s_str (s_cons s_str (s_cons s_str (s_cons s_str (s_cons s_str (s_cons s_str (s_cons s_str (s_cons s_str (s_cons s_str (s_cons s_str s_nil))))))))))) (sg_name 1) (s_ifS (s_test (s_op s_ne (s_call (sim_law_said c) (fun _ _ _ _ _ h _ => h) (s_cons (s_var 1) s_nil) s_nil) (s_tup (s_cons s_str (s_cons (s_call (sim_law_due c) (fun _ _ _ _ _ h _ => h) (s_cons (s_var 1) s_nil) s_nil) s_nil))))) (s_ret s_bl) s_next))
  (s_seq (s_forE (s_sl (s_op s_add (s_var 0) (s_lst (s_cons s_int s_nil))) s_nopart (s_part s_int)) (sg_tup (sg_cons (sg_name 2) (sg_cons (sg_name 3) sg_nil))) (s_seq (s_asg (s_call (sim_law_stream c) (fun _ _ _ _ _ h _ => h) (s_cons (s_var 3) (s_cons (s_var 2) s_nil)) s_nil) (sg_name 4))
  (s_seq (s_asg (s_call (sim_law_text_by c) (fun _ _ _ _ _ h _ => h) (s_cons (s_var 4) s_nil) s_nil) (sg_name 1))
  (s_seq (s_asg (s_call (sim_law_due c) (fun _ _ _ _ _ h _ => h) (s_cons (s_var 1) s_nil) s_nil) (sg_name 5))
  (s_seq (s_ifS (s_or (s_test (s_op s_ne (s_call (sim_law_said c) (fun _ _ _ _ _ h _ => h) (s_cons (s_var 1) s_nil) s_nil) (s_tup (s_cons s_str (s_cons (s_var 5) s_nil))))) (s_or (s_test (s_op s_ne (s_call (sim_squeezed c) (fun _ _ _ _ _ h1 h2 => ((RL.drop h2 0).take 1)) s_nil (s_cons (s_var 1) s_nil)) (s_var 5))) (s_test (s_op s_ne (s_call (sim_squeezed c) (fun _ _ _ _ _ h _ => h) (s_cons (s_var 5) s_nil) s_nil) (s_var 5))))) (s_ret s_bl) s_next)
  (s_seq (s_ifS (s_test (s_op s_ne (s_call (sim_law_said c) (fun _ _ _ _ _ h _ => h) (s_cons (s_op s_mul (s_var 1) s_int) s_nil) s_nil) (s_tup (s_cons s_str (s_cons (s_call (sim_law_due c) (fun _ _ _ _ _ h _ => h) (s_cons (s_op s_mul (s_var 1) s_int) s_nil) s_nil) s_nil))))) (s_ret s_bl) s_next)
  (s_seq (s_asg (s_op s_ix (s_lst (s_cons s_non (s_cons s_int (s_cons s_bl (s_cons (s_lst (s_cons (s_var 1) s_nil)) (s_cons (s_tup (s_cons (s_var 1) s_nil)) (s_cons s_dnew (s_cons s_int s_nil)))))))) (s_call (sim_law_take c) (fun _ _ _ _ _ h _ => h) (s_cons (s_var 4) (s_cons s_int s_nil)) s_nil)) (sg_name 6))
  (s_ifS (s_test (s_op s_ne (s_call (sim_law_said c) (fun _ _ _ _ _ h _ => h) (s_cons (s_var 6) s_nil) s_nil) (s_tup (s_cons s_str (s_cons s_str s_nil))))) (s_ret s_bl) s_next))))))))
  (s_ret s_bl))))
def d_squeezed : He.DefD := ⟨("squeezed", none), "squeezed", "squeezed", defArgs s_squeezed, defBody s_squeezed, defScope s_squeezed, [], []⟩
def d_law_word : He.DefD := ⟨("_law_word", none), "_law_word", "_law_word", defArgs s_law_word, defBody s_law_word, defScope s_law_word, [], []⟩
def d_law_said : He.DefD := ⟨("_law_said", none), "_law_said", "_law_said", defArgs s_law_said, defBody s_law_said, defScope s_law_said, [], []⟩
def d_law_due : He.DefD := ⟨("_law_due", none), "_law_due", "_law_due", defArgs s_law_due, defBody s_law_due, defScope s_law_due, [], []⟩
def d_law_mixed : He.DefD := ⟨("_law_mixed", none), "_law_mixed", "_law_mixed", defArgs s_law_mixed, defBody s_law_mixed, defScope s_law_mixed, [], []⟩
def d_law_stream : He.DefD := ⟨("_law_stream", none), "_law_stream", "_law_stream", defArgs s_law_stream, defBody s_law_stream, defScope s_law_stream, [], []⟩
def d_law_take : He.DefD := ⟨("_law_take", none), "_law_take", "_law_take", defArgs s_law_take, defBody s_law_take, defScope s_law_take, [], []⟩
def d_law_text_by : He.DefD := ⟨("_law_text_by", none), "_law_text_by", "_law_text_by", defArgs s_law_text_by, defBody s_law_text_by, defScope s_law_text_by, [], []⟩
def d_law : He.DefD := ⟨("law", none), "law", "law", defArgs s_law, defBody s_law, defScope s_law, [], []⟩
def fn0 : List He.DefD := [d_squeezed, d_law_word, d_law_said, d_law_due, d_law_mixed, d_law_stream, d_law_take, d_law_text_by, d_law]
def fn : List He.DefD := fn0
/-! ### each def keeps its promise -/
section
variable {P : Program} {w : World} {K : PySem.W.Frag} {mg : Str → Option Value} {base h : Heap}
theorem ok_squeezed (KX : K.In h) (G : h.Ns mainGlobals mg) (c : SaysP fa fn (exB xl) K) : ∃ fd, FunD K d_squeezed.name d_squeezed.qual d_squeezed.params d_squeezed.body d_squeezed.scope (d_squeezed.dvs K) (d_squeezed.kws K) (He.fAd K d_squeezed.at_) fd ∧ FnOk P w K mg base (L2.CX P w) 1 (He.fAd K d_squeezed.at_) fd ["text"] (sp_squeezed K) := by
  have f_str := He.free_ok KX G (c.1.fact 11 (f := .free "str") rfl)
  have f_isinstance := He.free_ok KX G (c.1.fact 12 (f := .free "isinstance") rfl)
  have g_BadText := He.glo_ok KX G (c.1.fact 8 (f := .glo "BadText") rfl)
  have x_BadText := exs_cls c.2 0 (x := "BadText") rfl
  have xi_BadText := exs_noi c.2 0 rfl
  obtain ⟨fd, F⟩ := c.1.def_ 0 (d := d_squeezed) rfl
  refine ⟨fd, F, FunD.ok (k := 0) F sc_squeezed (fun vs H Q E h => h.1) (fun cdv A outer s H vs Q E hr hq => ⟨t_squeezed K (fun cl d _ H' => E cl d H'), ?_, hq.2⟩)⟩
  have nd := sc_squeezed.nd
  have tk := takes_of (X := cxOf (L2.CX P w) P w K mg base N_squeezed d_squeezed.qual (defScope s_squeezed) (He.fAd K d_squeezed.at_) cdv A outer s H E) rfl rfl rfl rfl
  have po := passes_of (X := cxOf (L2.CX P w) P w K mg base N_squeezed d_squeezed.qual (defScope s_squeezed) (He.fAd K d_squeezed.at_) cdv A outer s H E) rfl
  exact (pss_cons (ps_if (pt_not (pt_uTru (pe_callB call_uIsi rfl f_isinstance PyProof.Rows.Boot.«isinstance» (pa_cons (pv 0) (pa_cons (pe_bltn rfl f_str PyProof.Rows.Boot.«str» rfl) pa_nil))) (by intro _; rfl))) (pss_one (ps_uRaise rfl tk (pmk_uOwn PySem.F.excBase_ValueError xi_BadText g_BadText x_BadText.kp (raises_own x_BadText.c.sub x_BadText.ty) rfl (pa_cons pe_str pa_nil)))) pss_nil)
  (pss_one (ps_ret (pe_bm PySem.F.plainAttrs_str PySem.F.slot_str_join PySem.F.type_str_join mt_uJoin pe_str (pa_cons (pe_lcI (N := N_squeezed) (sc := defScope s_squeezed) (own := [("word", 1)]) rfl rfl rfl nd (li_seq  (pe_bm PySem.F.plainAttrs_str PySem.F.slot_str_split PySem.F.type_str_split mt_uSplit (pv 0) (pa_cons pe_str pa_nil))) (by decide +kernel) (fun _ _ _ _ _ => (pg_name (i := 1) nd rfl (Or.inl rfl))) (fun _ _ _ _ _ => (pts_one (pt_cmpR (op_uNe (u64 hr)) (pv 1) pe_str (nomark _)))) (fun _ _ _ _ _ => (pv 1))) pa_nil)))))
theorem ok_law_word (KX : K.In h) (G : h.Ns mainGlobals mg) (c : SaysP fa fn (exB xl) K) : ∃ fd, FunD K d_law_word.name d_law_word.qual d_law_word.params d_law_word.body d_law_word.scope (d_law_word.dvs K) (d_law_word.kws K) (He.fAd K d_law_word.at_) fd ∧ FnOk P w K mg base (L2.CX P w) 1 (He.fAd K d_law_word.at_) fd ["_law_error"] (sp_law_word K) := by
  have g_BadWish := He.glo_ok KX G (c.1.fact 15 (f := .glo "BadWish") rfl)
  have f_isinstance := He.free_ok KX G (c.1.fact 12 (f := .free "isinstance") rfl)
  have g_BadPaper := He.glo_ok KX G (c.1.fact 16 (f := .glo "BadPaper") rfl)
  have g_BadSheet := He.glo_ok KX G (c.1.fact 17 (f := .glo "BadSheet") rfl)
  have g_BadLine := He.glo_ok KX G (c.1.fact 18 (f := .glo "BadLine") rfl)
  have g_Gone := He.glo_ok KX G (c.1.fact 19 (f := .glo "Gone") rfl)
  have g_BadQuestion := He.glo_ok KX G (c.1.fact 9 (f := .glo "BadQuestion") rfl)
  have g_BadText := He.glo_ok KX G (c.1.fact 8 (f := .glo "BadText") rfl)
  have g_NoSuch := He.glo_ok KX G (c.1.fact 7 (f := .glo "NoSuch") rfl)
  have g_NoPlace := He.glo_ok KX G (c.1.fact 6 (f := .glo "NoPlace") rfl)
  have g_TooMany := He.glo_ok KX G (c.1.fact 5 (f := .glo "TooMany") rfl)
  have g_BadKind := He.glo_ok KX G (c.1.fact 4 (f := .glo "BadKind") rfl)
  have g_Unmet := He.glo_ok KX G (c.1.fact 3 (f := .glo "Unmet") rfl)
  have g_NoAnswers := He.glo_ok KX G (c.1.fact 2 (f := .glo "NoAnswers") rfl)
  have g_Twice := He.glo_ok KX G (c.1.fact 1 (f := .glo "Twice") rfl)
  have f_zip := He.free_ok KX G (c.1.fact 20 (f := .free "zip") rfl)
  have f_len := He.free_ok KX G (c.1.fact 21 (f := .free "len") rfl)
  obtain ⟨fd, F⟩ := c.1.def_ 1 (d := d_law_word) rfl
  refine ⟨fd, F, FunD.ok (k := 0) F sc_law_word (fun vs H Q E h => h.1) (fun cdv A outer s H vs Q E hr hq => ⟨t_law_word K (fun cl d _ H' => E cl d H'), ?_, hq.2⟩)⟩
  have nd := sc_law_word.nd
  have tk := takes_of (X := cxOf (L2.CX P w) P w K mg base N_law_word d_law_word.qual (defScope s_law_word) (He.fAd K d_law_word.at_) cdv A outer s H E) rfl rfl rfl rfl
  have po := passes_of (X := cxOf (L2.CX P w) P w K mg base N_law_word d_law_word.qual (defScope s_law_word) (He.fAd K d_law_word.at_) cdv A outer s H E) rfl
  exact (pss_cons (ps_if (pt_cmpR (op_uIs) (pv 0) pe_non (nomark _)) (pss_one (ps_ret pe_str)) pss_nil)
  (pss_cons (ps_set (i := 1) nd rfl (Or.inl rfl) (pe_lst (pa_cons (pe_callB call_uIsi rfl f_isinstance PyProof.Rows.Boot.«isinstance» (pa_cons (pv 0) (pa_cons (pe_glob rfl g_BadWish rfl) pa_nil))) (pa_cons (pe_callB call_uIsi rfl f_isinstance PyProof.Rows.Boot.«isinstance» (pa_cons (pv 0) (pa_cons (pe_glob rfl g_BadPaper rfl) pa_nil))) (pa_cons (pe_callB call_uIsi rfl f_isinstance PyProof.Rows.Boot.«isinstance» (pa_cons (pv 0) (pa_cons (pe_glob rfl g_BadSheet rfl) pa_nil))) pa_nil)))))
  (pss_cons (ps_set (i := 1) nd rfl (Or.inl rfl) (pe_op op_uAdd (pv 1) (pe_lst (pa_cons (pe_callB call_uIsi rfl f_isinstance PyProof.Rows.Boot.«isinstance» (pa_cons (pv 0) (pa_cons (pe_glob rfl g_BadLine rfl) pa_nil))) (pa_cons (pe_callB call_uIsi rfl f_isinstance PyProof.Rows.Boot.«isinstance» (pa_cons (pv 0) (pa_cons (pe_glob rfl g_Gone rfl) pa_nil))) (pa_cons (pe_callB call_uIsi rfl f_isinstance PyProof.Rows.Boot.«isinstance» (pa_cons (pv 0) (pa_cons (pe_glob rfl g_BadQuestion rfl) pa_nil))) pa_nil))))))
  (pss_cons (ps_set (i := 1) nd rfl (Or.inl rfl) (pe_op op_uAdd (pv 1) (pe_lst (pa_cons (pe_callB call_uIsi rfl f_isinstance PyProof.Rows.Boot.«isinstance» (pa_cons (pv 0) (pa_cons (pe_glob rfl g_BadText rfl) pa_nil))) (pa_cons (pe_callB call_uIsi rfl f_isinstance PyProof.Rows.Boot.«isinstance» (pa_cons (pv 0) (pa_cons (pe_glob rfl g_NoSuch rfl) pa_nil))) (pa_cons (pe_callB call_uIsi rfl f_isinstance PyProof.Rows.Boot.«isinstance» (pa_cons (pv 0) (pa_cons (pe_glob rfl g_NoPlace rfl) pa_nil))) pa_nil))))))
  (pss_cons (ps_set (i := 1) nd rfl (Or.inl rfl) (pe_op op_uAdd (pv 1) (pe_lst (pa_cons (pe_callB call_uIsi rfl f_isinstance PyProof.Rows.Boot.«isinstance» (pa_cons (pv 0) (pa_cons (pe_glob rfl g_TooMany rfl) pa_nil))) (pa_cons (pe_callB call_uIsi rfl f_isinstance PyProof.Rows.Boot.«isinstance» (pa_cons (pv 0) (pa_cons (pe_glob rfl g_BadKind rfl) pa_nil))) (pa_cons (pe_callB call_uIsi rfl f_isinstance PyProof.Rows.Boot.«isinstance» (pa_cons (pv 0) (pa_cons (pe_glob rfl g_Unmet rfl) pa_nil))) pa_nil))))))
  (pss_cons (ps_set (i := 1) nd rfl (Or.inl rfl) (pe_op op_uAdd (pv 1) (pe_lst (pa_cons (pe_callB call_uIsi rfl f_isinstance PyProof.Rows.Boot.«isinstance» (pa_cons (pv 0) (pa_cons (pe_glob rfl g_NoAnswers rfl) pa_nil))) (pa_cons (pe_callB call_uIsi rfl f_isinstance PyProof.Rows.Boot.«isinstance» (pa_cons (pv 0) (pa_cons (pe_glob rfl g_Twice rfl) pa_nil))) pa_nil)))))
  (pss_cons (ps_set (i := 2) nd rfl (Or.inl rfl) (pe_lst (pa_cons pe_str (pa_cons pe_str (pa_cons pe_str (pa_cons pe_str (pa_cons pe_str (pa_cons pe_str (pa_cons pe_str (pa_cons pe_str (pa_cons pe_str (pa_cons pe_str (pa_cons pe_str pa_nil)))))))))))))
  (pss_cons (ps_lcI (i := 3) (N := N_law_word) (sc := defScope s_law_word) (own := [("_law_word_here", 4), ("_law_good", 5)]) rfl rfl rfl nd rfl rfl (sw_true rfl rfl rfl (by decide +kernel)) (li_z rfl f_zip (pe_op op_uAdd (pv 2) (pe_lst (pa_cons pe_str (pa_cons pe_str (pa_cons pe_str pa_nil))))) (pv 1)) (by decide +kernel) (fun _ _ _ _ _ => (pg_tup rfl (pgs_cons (pg_name (i := 4) nd rfl (Or.inl rfl)) (pgs_cons (pg_name (i := 5) nd rfl (Or.inl rfl)) pgs_nil)))) (fun _ _ _ _ _ => (pts_one (pt_uTru (pv 5) (by intro _; rfl)))) (fun _ _ _ _ _ => (pv 4)))
  (pss_one (ps_ret (pe_ifExp (pt_cmpR (op_uEq (u64 hr)) (pe_callB call_uLen rfl f_len PyProof.Rows.Boot.«len» (pa_cons (pv 3) pa_nil)) pe_int (nomark _)) (pe_ix ix_u (pv 3) pe_int (fun _ _ => rfl)) pe_str)))))))))))
theorem ok_law_said (KX : K.In h) (G : h.Ns mainGlobals mg) (c : SaysP fa fn (exB xl) K) : ∃ fd, FunD K d_law_said.name d_law_said.qual d_law_said.params d_law_said.body d_law_said.scope (d_law_said.dvs K) (d_law_said.kws K) (He.fAd K d_law_said.at_) fd ∧ FnOk P w K mg base (L2.CX P w) 2 (He.fAd K d_law_said.at_) fd ["_law_thing"] (sp_law_said K) := by
  obtain ⟨fd_squeezed, F_squeezed, G_squeezed⟩ := ok_squeezed (P := P) (w := w) (base := base) KX G c
  obtain ⟨fd_law_word, F_law_word, G_law_word⟩ := ok_law_word (P := P) (w := w) (base := base) KX G c
  have g_Twice := He.glo_ok KX G (c.1.fact 1 (f := .glo "Twice") rfl)
  have g_NoAnswers := He.glo_ok KX G (c.1.fact 2 (f := .glo "NoAnswers") rfl)
  have g_Unmet := He.glo_ok KX G (c.1.fact 3 (f := .glo "Unmet") rfl)
  have g_BadKind := He.glo_ok KX G (c.1.fact 4 (f := .glo "BadKind") rfl)
  have g_TooMany := He.glo_ok KX G (c.1.fact 5 (f := .glo "TooMany") rfl)
  have g_NoPlace := He.glo_ok KX G (c.1.fact 6 (f := .glo "NoPlace") rfl)
  have g_NoSuch := He.glo_ok KX G (c.1.fact 7 (f := .glo "NoSuch") rfl)
  have g_BadText := He.glo_ok KX G (c.1.fact 8 (f := .glo "BadText") rfl)
  have g_BadQuestion := He.glo_ok KX G (c.1.fact 9 (f := .glo "BadQuestion") rfl)
  have g_BankError := He.glo_ok KX G (c.1.fact 10 (f := .glo "BankError") rfl)
  have b_squeezed_1_ := FunD.kbA (ps := ["text"]) F_squeezed 1 (fun _ _ _ _ _ _ us hl => match us, hl with | [_], _ => rfl)
  have g_squeezed := He.glo_ok KX G (c.1.fact 13 (f := .glo "squeezed") rfl)
  have f_ValueError := He.free_ok KX G (c.1.fact 14 (f := .free "ValueError") rfl)
  have f_isinstance := He.free_ok KX G (c.1.fact 12 (f := .free "isinstance") rfl)
  have b_law_word_1_ := FunD.kbA (ps := ["_law_error"]) F_law_word 1 (fun _ _ _ _ _ _ us hl => match us, hl with | [_], _ => rfl)
  have g_law_word := He.glo_ok KX G (c.1.fact 22 (f := .glo "_law_word") rfl)
  obtain ⟨fd, F⟩ := c.1.def_ 2 (d := d_law_said) rfl
  refine ⟨fd, F, FunD.ok (k := 1) F sc_law_said (fun vs H Q E h => h.1) (fun cdv A outer s H vs Q E hr hq => ⟨t_law_said K (fun cl d _ H' => E cl d H'), ?_, hq.2⟩)⟩
  have nd := sc_law_said.nd
  have tk := takes_of (X := cxOf (L2.CX P w) P w K mg base N_law_said d_law_said.qual (defScope s_law_said) (He.fAd K d_law_said.at_) cdv A outer s H E) rfl rfl rfl rfl
  have po := passes_of (X := cxOf (L2.CX P w) P w K mg base N_law_said d_law_said.qual (defScope s_law_said) (He.fAd K d_law_said.at_) cdv A outer s H E) rfl
  exact (pss_cons (ps_set (i := 1) nd rfl (Or.inl rfl) pe_non)
  (pss_cons (ps_set (i := 2) nd rfl (Or.inl rfl) pe_non)
  (pss_cons (ps_uTry rfl rfl rfl nd rfl rfl (NamesAll.cons ⟨rfl, by decide, Or.inl g_BankError⟩ (NamesAll.cons ⟨rfl, by decide, Or.inl g_BadQuestion⟩ (NamesAll.cons ⟨rfl, by decide, Or.inl g_BadText⟩ (NamesAll.cons ⟨rfl, by decide, Or.inl g_NoSuch⟩ (NamesAll.cons ⟨rfl, by decide, Or.inl g_NoPlace⟩ (NamesAll.cons ⟨rfl, by decide, Or.inl g_TooMany⟩ (NamesAll.cons ⟨rfl, by decide, Or.inl g_BadKind⟩ (NamesAll.cons ⟨rfl, by decide, Or.inl g_Unmet⟩ (NamesAll.cons ⟨rfl, by decide, Or.inl g_NoAnswers⟩ (NamesAll.cons ⟨rfl, by decide, Or.inl g_Twice⟩ NamesAll.nil)))))))))) (Nat.le_of_ble_eq_true rfl) tk (fun W pn xe tk2 po2 => (pss_one (ps_set (i := 2) nd rfl (Or.inl rfl) (pe_uCall G_squeezed (hr.mono (by decide)) rfl g_squeezed F_squeezed.kp b_squeezed_1_ tk2 (ar_pos (pl_cons (pv 0) pl_nil)))))) (fun a pn => (pss_one (ps_set (i := 1) nd rfl (Or.inl rfl) (pv 3)))))
  (pss_cons (ps_if (pt_cmpR (op_uIs) (pv 1) pe_non (nomark _)) (pss_one (ps_ret (pe_tup (pa_cons pe_str (pa_cons (pv 2) pa_nil))))) pss_nil)
  (pss_one (ps_ret (pe_tup (pa_cons pe_str (pa_cons (pe_ifExp (pt_uTru (pe_callB call_uIsi rfl f_isinstance PyProof.Rows.Boot.«isinstance» (pa_cons (pv 1) (pa_cons (pe_bltn rfl f_ValueError PyProof.Rows.Boot.«ValueError» rfl) pa_nil))) (by intro _; rfl)) (pe_uCall G_law_word (hr.mono (by decide)) rfl g_law_word F_law_word.kp b_law_word_1_ tk (ar_pos (pl_cons (pv 1) pl_nil))) pe_str) pa_nil)))))))))
theorem ok_law_due (KX : K.In h) (G : h.Ns mainGlobals mg) (c : SaysP fa fn (exB xl) K) : ∃ fd, FunD K d_law_due.name d_law_due.qual d_law_due.params d_law_due.body d_law_due.scope (d_law_due.dvs K) (d_law_due.kws K) (He.fAd K d_law_due.at_) fd ∧ FnOk P w K mg base (L2.CX P w) 1 (He.fAd K d_law_due.at_) fd ["_law_row"] (sp_law_due K) := by
  have f_int := He.free_ok KX G (c.1.fact 24 (f := .free "int") rfl)
  obtain ⟨fd, F⟩ := c.1.def_ 3 (d := d_law_due) rfl
  refine ⟨fd, F, FunD.ok (k := 0) F sc_law_due (fun vs H Q E h => h.1) (fun cdv A outer s H vs Q E hr hq => ⟨t_law_due K (fun cl d _ H' => E cl d H'), ?_, hq.2⟩)⟩
  have nd := sc_law_due.nd
  have tk := takes_of (X := cxOf (L2.CX P w) P w K mg base N_law_due d_law_due.qual (defScope s_law_due) (He.fAd K d_law_due.at_) cdv A outer s H E) rfl rfl rfl rfl
  have po := passes_of (X := cxOf (L2.CX P w) P w K mg base N_law_due d_law_due.qual (defScope s_law_due) (He.fAd K d_law_due.at_) cdv A outer s H E) rfl
  exact (pss_cons (ps_set (i := 1) nd rfl (Or.inl rfl) pe_str)
  (pss_cons (ps_set (i := 2) nd rfl (Or.inl rfl) pe_bl)
  (pss_cons (ps_forV po rfl (pv 0) (pg_name (i := 3) nd rfl (Or.inl rfl)) (pss_one (ps_if (pt_cmpR (op_uEq (u64 hr)) (pv 3) pe_str (nomark _)) (pss_one (ps_set (i := 2) nd rfl (Or.inl rfl) (pe_cmpR (op_uNe (u64 hr)) (pv 1) pe_str (nomark _)))) (pss_cons (ps_set (i := 1) nd rfl (Or.inl rfl) (pe_op op_uAdd (pe_op op_uAdd (pv 1) (pe_op op_uMul pe_str (pe_callTy call_uInt rfl f_int PyProof.Rows.Boot.«int» (pa_cons (pv 2) pa_nil)))) (pv 3)))
  (pss_one (ps_set (i := 2) nd rfl (Or.inl rfl) pe_bl))))))
  (pss_one (ps_ret (pv 1))))))
theorem ok_law_mixed (KX : K.In h) (G : h.Ns mainGlobals mg) (c : SaysP fa fn (exB xl) K) : ∃ fd, FunD K d_law_mixed.name d_law_mixed.qual d_law_mixed.params d_law_mixed.body d_law_mixed.scope (d_law_mixed.dvs K) (d_law_mixed.kws K) (He.fAd K d_law_mixed.at_) fd ∧ FnOk P w K mg base (L2.CX P w) 1 (He.fAd K d_law_mixed.at_) fd ["_law_number", "_law_k"] (sp_law_mixed K) := by
  obtain ⟨fd, F⟩ := c.1.def_ 4 (d := d_law_mixed) rfl
  refine ⟨fd, F, FunD.ok (k := 0) F sc_law_mixed (fun vs H Q E h => h.1) (fun cdv A outer s H vs Q E hr hq => ⟨t_law_mixed K (fun cl d _ H' => E cl d H'), ?_, hq.2⟩)⟩
  have nd := sc_law_mixed.nd
  have tk := takes_of (X := cxOf (L2.CX P w) P w K mg base N_law_mixed d_law_mixed.qual (defScope s_law_mixed) (He.fAd K d_law_mixed.at_) cdv A outer s H E) rfl rfl rfl rfl
  have po := passes_of (X := cxOf (L2.CX P w) P w K mg base N_law_mixed d_law_mixed.qual (defScope s_law_mixed) (He.fAd K d_law_mixed.at_) cdv A outer s H E) rfl
  exact (pss_cons (ps_set (i := 0) nd rfl (Or.inl rfl) (pe_op op_uMod (pe_op op_uPow (pe_op op_uAdd (pe_op op_uAdd (pe_op op_uAdd (pe_op op_uMod (pv 0) pe_int) (pe_op op_uMul (pe_op op_uMul pe_int (pv 1)) (pv 1))) (pe_op op_uMul pe_int (pv 1))) pe_int) pe_int) pe_int))
  (pss_one (ps_ret (pe_op op_uFdiv (pe_op op_uMod (pe_op op_uMul (pv 0) (pe_op op_uAdd pe_int (pe_op op_uMul pe_int (pv 1)))) pe_int) pe_int))))
theorem ok_law_stream (KX : K.In h) (G : h.Ns mainGlobals mg) (c : SaysP fa fn (exB xl) K) : ∃ fd, FunD K d_law_stream.name d_law_stream.qual d_law_stream.params d_law_stream.body d_law_stream.scope (d_law_stream.dvs K) (d_law_stream.kws K) (He.fAd K d_law_stream.at_) fd ∧ FnOk P w K mg base (L2.CX P w) 2 (He.fAd K d_law_stream.at_) fd ["_law_cell", "_law_k"] (sp_law_stream K) := by
  obtain ⟨fd_law_mixed, F_law_mixed, G_law_mixed⟩ := ok_law_mixed (P := P) (w := w) (base := base) KX G c
  have b_law_mixed_2_ := FunD.kbA (ps := ["_law_number", "_law_k"]) F_law_mixed 2 (fun _ _ _ _ _ _ us hl => match us, hl with | [_, _], _ => rfl)
  have g_law_mixed := He.glo_ok KX G (c.1.fact 27 (f := .glo "_law_mixed") rfl)
  obtain ⟨fd, F⟩ := c.1.def_ 5 (d := d_law_stream) rfl
  refine ⟨fd, F, FunD.ok (k := 1) F sc_law_stream (fun vs H Q E h => h.1) (fun cdv A outer s H vs Q E hr hq => ⟨t_law_stream K (fun cl d _ H' => E cl d H'), ?_, hq.2⟩)⟩
  have nd := sc_law_stream.nd
  have tk := takes_of (X := cxOf (L2.CX P w) P w K mg base N_law_stream d_law_stream.qual (defScope s_law_stream) (He.fAd K d_law_stream.at_) cdv A outer s H E) rfl rfl rfl rfl
  have po := passes_of (X := cxOf (L2.CX P w) P w K mg base N_law_stream d_law_stream.qual (defScope s_law_stream) (He.fAd K d_law_stream.at_) cdv A outer s H E) rfl
  exact (pss_one (ps_ret (pe_lst (pa_cons (pe_cmpR (op_uGe) (pv 0) (pe_op op_uPow pe_int pe_int) (nomark _)) (pa_cons (pv 0) (pa_cons pe_int (pa_cons (pe_uCall G_law_mixed (hr.mono (by decide)) rfl g_law_mixed F_law_mixed.kp b_law_mixed_2_ tk (ar_pos (pl_cons (pv 0) (pl_cons (pv 1) pl_nil)))) pa_nil)))))))
theorem ok_law_take (KX : K.In h) (G : h.Ns mainGlobals mg) (c : SaysP fa fn (exB xl) K) : ∃ fd, FunD K d_law_take.name d_law_take.qual d_law_take.params d_law_take.body d_law_take.scope (d_law_take.dvs K) (d_law_take.kws K) (He.fAd K d_law_take.at_) fd ∧ FnOk P w K mg base (L2.CX P w) 2 (He.fAd K d_law_take.at_) fd ["_law_stream_here", "_law_many"] (sp_law_take K) := by
  obtain ⟨fd_law_mixed, F_law_mixed, G_law_mixed⟩ := ok_law_mixed (P := P) (w := w) (base := base) KX G c
  have b_law_mixed_2_ := FunD.kbA (ps := ["_law_number", "_law_k"]) F_law_mixed 2 (fun _ _ _ _ _ _ us hl => match us, hl with | [_, _], _ => rfl)
  have g_law_mixed := He.glo_ok KX G (c.1.fact 27 (f := .glo "_law_mixed") rfl)
  obtain ⟨fd, F⟩ := c.1.def_ 6 (d := d_law_take) rfl
  refine ⟨fd, F, FunD.ok (k := 1) F sc_law_take (fun vs H Q E h => h.1) (fun cdv A outer s H vs Q E hr hq => ⟨t_law_take K (fun cl d _ H' => E cl d H'), ?_, hq.2⟩)⟩
  have nd := sc_law_take.nd
  have tk := takes_of (X := cxOf (L2.CX P w) P w K mg base N_law_take d_law_take.qual (defScope s_law_take) (He.fAd K d_law_take.at_) cdv A outer s H E) rfl rfl rfl rfl
  have po := passes_of (X := cxOf (L2.CX P w) P w K mg base N_law_take d_law_take.qual (defScope s_law_take) (He.fAd K d_law_take.at_) cdv A outer s H E) rfl
  exact (pss_cons (ps_asg (pe_op op_uAdd (pe_ix ix_u (pv 0) pe_int (fun _ _ => rfl)) pe_int) (pg_sub (pv 0) pe_int (set_u (u1 hr))))
  (pss_cons (ps_if (PW.pt (pw_or (pt_not (pt_uTru (pe_ix ix_u (pv 0) pe_int (fun _ _ => rfl)) (by intro _; rfl))) (pw_or (pt_cmpR (op_uIn (u65 hr)) (pe_ix ix_u (pv 0) pe_int (fun _ _ => rfl)) (pe_tup (pa_cons pe_int (pa_cons (pe_un un_neg pe_int) pa_nil))) (by rfl)) (pw_or1 (pt_cmpR (op_uGt) (pe_ix ix_u (pv 0) pe_int (fun _ _ => rfl)) pe_int (nomark _)))))) (pss_one (ps_ret (pe_op op_uMod (pe_op op_uFdiv (pe_uCall G_law_mixed (hr.mono (by decide)) rfl g_law_mixed F_law_mixed.kp b_law_mixed_2_ tk (ar_pos (pl_cons (pe_op op_uAdd (pe_ix ix_u (pv 0) pe_int (fun _ _ => rfl)) (pe_op op_uMul pe_int (pe_ix ix_u (pv 0) pe_int (fun _ _ => rfl)))) (pl_cons (pe_ix ix_u (pv 0) pe_int (fun _ _ => rfl)) pl_nil)))) pe_int) (pv 1)))) pss_nil)
  (pss_cons (ps_set (i := 2) nd rfl (Or.inl rfl) (pe_op op_uMod (pe_ix ix_u (pv 0) pe_int (fun _ _ => rfl)) (pv 1)))
  (pss_cons (ps_asg (pe_op op_uFdiv (pe_ix ix_u (pv 0) pe_int (fun _ _ => rfl)) (pv 1)) (pg_sub (pv 0) pe_int (set_u (u1 hr))))
  (pss_one (ps_ret (pv 2)))))))
theorem ok_law_text_by (KX : K.In h) (G : h.Ns mainGlobals mg) (c : SaysP fa fn (exB xl) K) : ∃ fd, FunD K d_law_text_by.name d_law_text_by.qual d_law_text_by.params d_law_text_by.body d_law_text_by.scope (d_law_text_by.dvs K) (d_law_text_by.kws K) (He.fAd K d_law_text_by.at_) fd ∧ FnOk P w K mg base (L2.CX P w) 3 (He.fAd K d_law_text_by.at_) fd ["_law_stream_here"] (sp_law_text_by K) := by
  obtain ⟨fd_law_take, F_law_take, G_law_take⟩ := ok_law_take (P := P) (w := w) (base := base) KX G c
  have b_law_take_2_ := FunD.kbA (ps := ["_law_stream_here", "_law_many"]) F_law_take 2 (fun _ _ _ _ _ _ us hl => match us, hl with | [_, _], _ => rfl)
  have g_law_take := He.glo_ok KX G (c.1.fact 29 (f := .glo "_law_take") rfl)
  have f_range := He.free_ok KX G (c.1.fact 30 (f := .free "range") rfl)
  obtain ⟨fd, F⟩ := c.1.def_ 7 (d := d_law_text_by) rfl
  refine ⟨fd, F, FunD.ok (k := 2) F sc_law_text_by (fun vs H Q E h => h.1) (fun cdv A outer s H vs Q E hr hq => ⟨t_law_text_by K (fun cl d _ H' => E cl d H'), ?_, hq.2⟩)⟩
  have nd := sc_law_text_by.nd
  have tk := takes_of (X := cxOf (L2.CX P w) P w K mg base N_law_text_by d_law_text_by.qual (defScope s_law_text_by) (He.fAd K d_law_text_by.at_) cdv A outer s H E) rfl rfl rfl rfl
  have po := passes_of (X := cxOf (L2.CX P w) P w K mg base N_law_text_by d_law_text_by.qual (defScope s_law_text_by) (He.fAd K d_law_text_by.at_) cdv A outer s H E) rfl
  exact (pss_cons (ps_set (i := 1) nd rfl (Or.inr rfl) pe_str)
  (pss_cons (ps_set (i := 2) nd rfl (Or.inl rfl) (pe_op op_uMul pe_str (pe_uCall G_law_take (hr.mono (by decide)) rfl g_law_take F_law_take.kp b_law_take_2_ tk (ar_pos (pl_cons (pv 0) (pl_cons pe_int pl_nil))))))
  (pss_cons (ps_forR1 po rfl rfl f_range (pe_uCall G_law_take (hr.mono (by decide)) rfl g_law_take F_law_take.kp b_law_take_2_ tk (ar_pos (pl_cons (pv 0) (pl_cons pe_int pl_nil)))) (pg_name (i := 3) nd rfl (Or.inl rfl)) (pss_cons (ps_set (i := 4) nd rfl (Or.inl rfl) (pe_bm PySem.F.plainAttrs_str PySem.F.slot_str_join PySem.F.type_str_join mt_uJoin pe_str (pa_cons (pe_lcI (N := N_law_text_by) (sc := defScope s_law_text_by) (own := [("_law_place", 5)]) rfl rfl rfl nd (li_r1 rfl f_range (pe_op op_uAdd pe_int (pe_uCall G_law_take (hr.mono (by decide)) rfl g_law_take F_law_take.kp b_law_take_2_ tk (ar_pos (pl_cons (pv 0) (pl_cons pe_int pl_nil)))))) (by decide +kernel) (fun _ _ _ _ _ => (pg_name (i := 5) nd rfl (Or.inl rfl))) (fun _ _ _ _ _ => pts_nil) (fun _ _ _ _ _ => (pe_ix ix_u (pv 1) (pe_uCall G_law_take (hr.mono (by decide)) rfl g_law_take F_law_take.kp b_law_take_2_ takes0 (ar_pos (pl_cons (pv 0) (pl_cons pe_int pl_nil)))) (fun _ _ => rfl)))) pa_nil)))
  (pss_one (ps_set (i := 2) nd rfl (Or.inl rfl) (pe_op op_uAdd (pe_op op_uAdd (pv 2) (pv 4)) (pe_op op_uMul pe_str (pe_ix ix_u (pe_lst (pa_cons pe_int (pa_cons pe_int (pa_cons pe_int (pa_cons pe_int pa_nil))))) (pe_uCall G_law_take (hr.mono (by decide)) rfl g_law_take F_law_take.kp b_law_take_2_ tk (ar_pos (pl_cons (pv 0) (pl_cons pe_int pl_nil)))) (fun _ _ => rfl))))))))
  (pss_one (ps_ret (pv 2))))))
theorem ok_law (KX : K.In h) (G : h.Ns mainGlobals mg) (c : SaysP fa fn (exB xl) K) : ∃ fd, FunD K d_law.name d_law.qual d_law.params d_law.body d_law.scope (d_law.dvs K) (d_law.kws K) (He.fAd K d_law.at_) fd ∧ FnOk P w K mg base (L2.CX P w) 4 (He.fAd K d_law.at_) fd ["_law_script"] (sp_law K) := by
  obtain ⟨fd_law_said, F_law_said, G_law_said⟩ := ok_law_said (P := P) (w := w) (base := base) KX G c
  obtain ⟨fd_law_due, F_law_due, G_law_due⟩ := ok_law_due (P := P) (w := w) (base := base) KX G c
  obtain ⟨fd_law_stream, F_law_stream, G_law_stream⟩ := ok_law_stream (P := P) (w := w) (base := base) KX G c
  obtain ⟨fd_law_text_by, F_law_text_by, G_law_text_by⟩ := ok_law_text_by (P := P) (w := w) (base := base) KX G c
  obtain ⟨fd_squeezed, F_squeezed, G_squeezed⟩ := ok_squeezed (P := P) (w := w) (base := base) KX G c
  obtain ⟨fd_law_take, F_law_take, G_law_take⟩ := ok_law_take (P := P) (w := w) (base := base) KX G c
  have b_law_said_1_ := FunD.kbA (ps := ["_law_thing"]) F_law_said 1 (fun _ _ _ _ _ _ us hl => match us, hl with | [_], _ => rfl)
  have g_law_said := He.glo_ok KX G (c.1.fact 23 (f := .glo "_law_said") rfl)
  have b_law_due_1_ := FunD.kbA (ps := ["_law_row"]) F_law_due 1 (fun _ _ _ _ _ _ us hl => match us, hl with | [_], _ => rfl)
  have g_law_due := He.glo_ok KX G (c.1.fact 25 (f := .glo "_law_due") rfl)
  have f_enumerate := He.free_ok KX G (c.1.fact 26 (f := .free "enumerate") rfl)
  have b_law_stream_2_ := FunD.kbA (ps := ["_law_cell", "_law_k"]) F_law_stream 2 (fun _ _ _ _ _ _ us hl => match us, hl with | [_, _], _ => rfl)
  have g_law_stream := He.glo_ok KX G (c.1.fact 28 (f := .glo "_law_stream") rfl)
  have b_law_text_by_1_ := FunD.kbA (ps := ["_law_stream_here"]) F_law_text_by 1 (fun _ _ _ _ _ _ us hl => match us, hl with | [_], _ => rfl)
  have g_law_text_by := He.glo_ok KX G (c.1.fact 31 (f := .glo "_law_text_by") rfl)
  have b_squeezed_0_text := FunD.kbK (ps := ["text"]) F_squeezed 0 ["text"] (fun us ws => ((ws.drop 0).take 1)) (fun r1 r3 => ((r3.drop 0).take 1)) (fun _ _ _ _ _ _ us ws h1 h3 => match us, h1, ws, h3 with | [], _, [_], _ => rfl)
  have g_squeezed := He.glo_ok KX G (c.1.fact 13 (f := .glo "squeezed") rfl)
  have b_squeezed_1_ := FunD.kbA (ps := ["text"]) F_squeezed 1 (fun _ _ _ _ _ _ us hl => match us, hl with | [_], _ => rfl)
  have b_law_take_2_ := FunD.kbA (ps := ["_law_stream_here", "_law_many"]) F_law_take 2 (fun _ _ _ _ _ _ us hl => match us, hl with | [_, _], _ => rfl)
  have g_law_take := He.glo_ok KX G (c.1.fact 29 (f := .glo "_law_take") rfl)
  obtain ⟨fd, F⟩ := c.1.def_ 8 (d := d_law) rfl
  refine ⟨fd, F, FunD.ok (k := 3) F sc_law (fun vs H Q E h => h.1) (fun cdv A outer s H vs Q E hr hq => ⟨t_law K (fun cl d _ H' => E cl d H'), ?_, hq.2⟩)⟩
  have nd := sc_law.nd
  have tk := takes_of (X := cxOf (L2.CX P w) P w K mg base N_law d_law.qual (defScope s_law) (He.fAd K d_law.at_) cdv A outer s H E) rfl rfl rfl rfl
  have po := passes_of (X := cxOf (L2.CX P w) P w K mg base N_law d_law.qual (defScope s_law) (He.fAd K d_law.at_) cdv A outer s H E) rfl
  exact (pss_cons (ps_forV po rfl (pe_tup (pa_cons pe_str (pa_cons pe_str (pa_cons pe_str (pa_cons pe_str (pa_cons pe_str (pa_cons pe_str (pa_cons pe_str (pa_cons pe_str (pa_cons pe_str (pa_cons pe_str pa_nil))))))))))) (pg_name (i := 1) nd rfl (Or.inl rfl)) (pss_one (ps_if (pt_cmpR (op_uNe (u64 hr)) (pe_uCall G_law_said (hr.mono (by decide)) rfl g_law_said F_law_said.kp b_law_said_1_ tk (ar_pos (pl_cons (pv 1) pl_nil))) (pe_tup (pa_cons pe_str (pa_cons (pe_uCall G_law_due (hr.mono (by decide)) rfl g_law_due F_law_due.kp b_law_due_1_ tk (ar_pos (pl_cons (pv 1) pl_nil))) pa_nil))) (nomark _)) (pss_one (ps_ret pe_bl)) pss_nil)))
  (pss_cons (ps_forE po rfl rfl f_enumerate (pe_slice sl_u (pe_op op_uAdd (pv 0) (pe_lst (pa_cons pe_int pa_nil))) po_none (po_some pe_int)) (pg_tup rfl (pgs_cons (pg_name (i := 2) nd rfl (Or.inl rfl)) (pgs_cons (pg_name (i := 3) nd rfl (Or.inl rfl)) pgs_nil))) (pss_cons (ps_set (i := 4) nd rfl (Or.inl rfl) (pe_uCall G_law_stream (hr.mono (by decide)) rfl g_law_stream F_law_stream.kp b_law_stream_2_ tk (ar_pos (pl_cons (pv 3) (pl_cons (pv 2) pl_nil)))))
  (pss_cons (ps_set (i := 1) nd rfl (Or.inl rfl) (pe_uCall G_law_text_by (hr.mono (by decide)) rfl g_law_text_by F_law_text_by.kp b_law_text_by_1_ tk (ar_pos (pl_cons (pv 4) pl_nil))))
  (pss_cons (ps_set (i := 5) nd rfl (Or.inl rfl) (pe_uCall G_law_due (hr.mono (by decide)) rfl g_law_due F_law_due.kp b_law_due_1_ tk (ar_pos (pl_cons (pv 1) pl_nil))))
  (pss_cons (ps_if (PW.pt (pw_or (pt_cmpR (op_uNe (u64 hr)) (pe_uCall G_law_said (hr.mono (by decide)) rfl g_law_said F_law_said.kp b_law_said_1_ tk (ar_pos (pl_cons (pv 1) pl_nil))) (pe_tup (pa_cons pe_str (pa_cons (pv 5) pa_nil))) (nomark _)) (pw_or (pt_cmpR (op_uNe (u64 hr)) (pe_uCall G_squeezed (hr.mono (by decide)) rfl g_squeezed F_squeezed.kp b_squeezed_0_text tk (ar_kw (kl_cons (pv 1) kl_nil))) (pv 5) (nomark _)) (pw_or1 (pt_cmpR (op_uNe (u64 hr)) (pe_uCall G_squeezed (hr.mono (by decide)) rfl g_squeezed F_squeezed.kp b_squeezed_1_ tk (ar_pos (pl_cons (pv 5) pl_nil))) (pv 5) (nomark _)))))) (pss_one (ps_ret pe_bl)) pss_nil)
  (pss_cons (ps_if (pt_cmpR (op_uNe (u64 hr)) (pe_uCall G_law_said (hr.mono (by decide)) rfl g_law_said F_law_said.kp b_law_said_1_ tk (ar_pos (pl_cons (pe_op op_uMul (pv 1) pe_int) pl_nil))) (pe_tup (pa_cons pe_str (pa_cons (pe_uCall G_law_due (hr.mono (by decide)) rfl g_law_due F_law_due.kp b_law_due_1_ tk (ar_pos (pl_cons (pe_op op_uMul (pv 1) pe_int) pl_nil))) pa_nil))) (nomark _)) (pss_one (ps_ret pe_bl)) pss_nil)
  (pss_cons (ps_set (i := 6) nd rfl (Or.inl rfl) (pe_ix ix_u (pe_lst (pa_cons pe_non (pa_cons pe_int (pa_cons pe_bl (pa_cons (pe_lst (pa_cons (pv 1) pa_nil)) (pa_cons (pe_tup (pa_cons (pv 1) pa_nil)) (pa_cons pe_dnewK (pa_cons pe_int pa_nil)))))))) (pe_uCall G_law_take (hr.mono (by decide)) rfl g_law_take F_law_take.kp b_law_take_2_ tk (ar_pos (pl_cons (pv 4) (pl_cons pe_int pl_nil)))) (fun _ _ => rfl)))
  (pss_one (ps_if (pt_cmpR (op_uNe (u64 hr)) (pe_uCall G_law_said (hr.mono (by decide)) rfl g_law_said F_law_said.kp b_law_said_1_ tk (ar_pos (pl_cons (pv 6) pl_nil))) (pe_tup (pa_cons pe_str (pa_cons pe_str pa_nil))) (nomark _)) (pss_one (ps_ret pe_bl)) pss_nil)))))))))
  (pss_one (ps_ret pe_bl))))
end
/-! ### the head -/
abbrev R : PySem.W.OpenRow := PySem.W.OpenLaw.row PySem.Challenge.rw_paperkin_k02_squeezed
abbrev hk : PySem.W.Hook := hookP 5 fa fn (exB xl)
def ob (s : PySem.W.SharedT) : AlP := obsP 5 fa fn (exB xl) (HandSHeadRun.getT s)
theorem ob_eq (s : PySem.W.SharedT) : ob s = hk.obs s.abs := obsP_eq (HandSHeadRun.getT_eq s)
def names0 : List Str := ["BankError", "BadWish", "BadPaper", "BadSheet", "BadLine", "Gone", "BadQuestion", "BadText", "NoSuch", "NoPlace", "TooMany", "BadKind", "Unmet", "NoAnswers", "Twice", "squeezed", "_law_mixed", "_law_stream", "_law_take", "_law_word", "_law_said", "_law_due", "_law_text_by"]
def names : List Str := names0
theorem run (w : World) : HandSHeadRun.RunEq R (PySem.W.view R.prog [26]) hk ob 60000 names w := by
  intro os
  kernel_rfl
end Lw

set_option Elab.async false
set_option linter.all false
set_option maxRecDepth 100000
set_option maxHeartbeats 2000000
namespace Lw
open PySem PySem.Spec PyProof.Rows L2 PP PU
def mixed (n k : Int) : Int := (n % 2147483647 + 7919 * k * k + 31 * k + 5) ^ 5 % 2147483629 * (69621 + 2 * k) % 2147483587 / 7
theorem mixed_ok (n k : Int) (S : Stt) (h0 : 0 ≤ k) (h1 : k ≤ 1000000) : pf_law_mixed [.int n, .int k] S = some (.ok (.int (mixed n k)) S) := by
  have a1 : 0 ≤ 7919 * k * k := Int.mul_nonneg (by omega) h0
  have a2 : 7919 * k * k ≤ 7919000000 * 1000000 := Int.mul_le_mul (by omega) h1 h0 (by omega)
  have a3 : 0 ≤ n % 2147483647 := Int.emod_nonneg _ (by decide)
  have a4 : n % 2147483647 < 2147483647 := Int.emod_lt_of_pos _ (by decide)
  have b1 := pMul_ii (S := S) (i := 7919) (j := k) (by omega)
  have b2 := pMul_ii (S := S) (i := 7919 * k) (j := k) (by omega)
  have b3 := pMul_ii (S := S) (i := 31) (j := k) (by omega)
  have b4 := pMul_ii (S := S) (i := 2) (j := k) (by omega)
  have b5 := pPow_ii (S := S) (i := n % 2147483647 + 7919 * k * k + 31 * k + 5) (j := 5) (by omega)
  have c1 : 0 ≤ (n % 2147483647 + 7919 * k * k + 31 * k + 5) ^ 5 % 2147483629 := Int.emod_nonneg _ (by decide)
  have c2 : (n % 2147483647 + 7919 * k * k + 31 * k + 5) ^ 5 % 2147483629 < 2147483629 := Int.emod_lt_of_pos _ (by decide)
  have b6 := pMul_ii (S := S) (i := (n % 2147483647 + 7919 * k * k + 31 * k + 5) ^ 5 % 2147483629) (j := 69621 + 2 * k) (by omega)
  have d1 := fun i => pMod_ii (S := S) (i := i) (j := 2147483647) (by omega)
  have d2 := fun i => pMod_ii (S := S) (i := i) (j := 2147483629) (by omega)
  have d3 := fun i => pMod_ii (S := S) (i := i) (j := 2147483587) (by omega)
  have d4 := fun i => pFdiv_ii (S := S) (i := i) (j := 7) (by omega)
  have e5 : (5 : Int).toNat = 5 := rfl
  rw [e5] at b5
  simp [pf_law_mixed, N_law_mixed, p_law_mixed, b1, b2, b3, b4, b5, b6, d1, d2, d3, d4, mixed]
theorem mixed_nn (n k : Int) : 0 ≤ mixed n k := by
  unfold mixed
  exact Int.ediv_nonneg (Int.emod_nonneg _ (by decide)) (by decide)
theorem stream_ok (c k : Int) (S : Stt) (h0 : 0 ≤ k) (h1 : k ≤ 1000000) : pf_law_stream [.int c, .int k] S = some (.ok (.obj S.length) (S ++ [.lst [.bl (decide (10 ^ 18 ≤ c)), .int c, .int 0, .int (mixed c k)]])) := by
  have b := pPow_ii (S := S) (i := 10) (j := 18) (by decide)
  have m := mixed_ok c k S h0 h1
  simp [pf_law_stream, N_law_stream, p_law_stream, b, m]
/-- a stream at n whose count is t -/
def Strm (S : Stt) (n : Nat) (t : Int) : Prop := ∃ b c x, S[n]? = some (.lst [.bl b, .int c, .int t, .int x])
/-- the store but for n -/
def Same (S S' : Stt) (n : Nat) : Prop := S'.length = S.length ∧ ∀ m, m ≠ n → S'[m]? = S[m]?
theorem Same.set (S : Stt) (n : Nat) (o : O) : Same S (S.set n o) n := ⟨by simp, fun m h => by rw [List.getElem?_set_ne (fun e => h e.symm)]⟩
theorem Same.trans {S S' S'' : Stt} {n : Nat} (a : Same S S' n) (b : Same S' S'' n) : Same S S'' n := ⟨b.1.trans a.1, fun m h => (b.2 m h).trans (a.2 m h)⟩
theorem take_ok {S : Stt} {n : Nat} {t m : Int} (h : Strm S n t) (h0 : 0 ≤ t) (h1 : t ≤ 900000) (m0 : 0 < m) (m1 : m < 1073741824) :
    ∃ v S', pf_law_take [.obj n, .int m] S = some (.ok (.int v) S') ∧ 0 ≤ v ∧ v < m ∧ Strm S' n (t + 1) ∧ Same S S' n := by
  obtain ⟨b, c, x, h⟩ := h
  have hn : n < S.length := (List.getElem?_eq_some_iff.mp h).1
  have q0 : ∀ (S : Stt) (b c t x : D), S[n]? = some (.lst [b, c, t, x]) → pIx (.obj n) (.int 0) S = some (b, S) := fun S b c t x h => by rw [pIx_o h]; rfl
  have q1 : ∀ (S : Stt) (b c t x : D), S[n]? = some (.lst [b, c, t, x]) → pIx (.obj n) (.int 1) S = some (c, S) := fun S b c t x h => by rw [pIx_o h]; rfl
  have q2 : ∀ (S : Stt) (b c t x : D), S[n]? = some (.lst [b, c, t, x]) → pIx (.obj n) (.int 2) S = some (t, S) := fun S b c t x h => by rw [pIx_o h]; rfl
  have q3 : ∀ (S : Stt) (b c t x : D), S[n]? = some (.lst [b, c, t, x]) → pIx (.obj n) (.int 3) S = some (x, S) := fun S b c t x h => by rw [pIx_o h]; rfl
  have s2 := pSet_o (v := .int (t + 1)) h (k := 2) (j := 2) rfl
  let S1 := S.set n (.lst [.bl b, .int c, .int (t + 1), .int x])
  have g1 : S1[n]? = some (.lst [.bl b, .int c, .int (t + 1), .int x]) := by simp [S1, hn]
  have s2 : pSet (.obj n) (.int 2) (.int (t + 1)) S = some S1 := s2
  have e0 := q2 S _ _ _ _ h
  have f0 := q0 S1 _ _ _ _ g1
  have f1 := q1 S1 _ _ _ _ g1
  have f2 := q2 S1 _ _ _ _ g1
  have f3 := q3 S1 _ _ _ _ g1
  have s1 := fun v => pSet_o (v := v) g1 (k := 1) (j := 1) rfl
  have hin : pIn (.int c) (.tup [.int 0, .int (-1)]) S1 = some (.bl (inV (.int c) [.int 0, .int (-1)]), S1) := rfl
  have b1 := pMul_ii (S := S1) (i := 104729) (j := t + 1) (by omega)
  have b2 := mixed_ok (x + 104729 * (t + 1)) (t + 1) S1 (by omega) (by omega)
  have b3 := fun i => pFdiv_ii (S := S1) (i := i) (j := 11) (by omega)
  have b4 := fun i => pMod_ii (S := S1) (i := i) (j := m) m0
  have b5 := fun i => pFdiv_ii (S := S1) (i := i) (j := m) ⟨m0, m1⟩
  have sm : Same S S1 n := Same.set S n _
  have fin : ∀ v, (∃ S', pf_law_take [.obj n, .int m] S = some (.ok (.int v) S') ∧ Strm S' n (t + 1) ∧ Same S S' n) → 0 ≤ v → v < m → ∃ v S', pf_law_take [.obj n, .int m] S = some (.ok (.int v) S') ∧ 0 ≤ v ∧ v < m ∧ Strm S' n (t + 1) ∧ Same S S' n :=
    fun v ⟨S', h1, h2, h3⟩ h4 h5 => ⟨v, S', h1, h4, h5, h2, h3⟩
  by_cases hc : b = false ∨ inV (.int c) [.int 0, .int (-1)] = true ∨ 60 < t + 1
  · refine fin (mixed (x + 104729 * (t + 1)) (t + 1) / 11 % m) ⟨S1, ?_, ⟨b, c, x, g1⟩, sm⟩ (Int.emod_nonneg _ (by omega)) (Int.emod_lt_of_pos _ m0)
    rcases hc with hc | hc | hc
    · subst hc
      simp [pf_law_take, N_law_take, p_law_take, e0, s2, f0, f1, f2, f3, b1, b2, b3, b4]
    · cases b <;> simp [pf_law_take, N_law_take, p_law_take, e0, s2, f0, f1, f2, f3, b1, b2, b3, b4, hin, hc]
    · cases b <;> cases hq : inV (.int c) [.int 0, .int (-1)] <;> simp [pf_law_take, N_law_take, p_law_take, e0, s2, f0, f1, f2, f3, b1, b2, b3, b4, hin, hc, hq]
  · have hb : b = true := by cases b <;> simp_all
    have hi : inV (.int c) [.int 0, .int (-1)] = false := by
      cases hq : inV (.int c) [.int 0, .int (-1)] with
      | false => rfl
      | true => exact absurd (Or.inr (Or.inl hq)) hc
    have ht : ¬ 60 < t + 1 := fun e => hc (Or.inr (Or.inr e))
    subst hb
    refine fin (c % m) ⟨S1.set n (.lst [.bl true, .int (c / m), .int (t + 1), .int x]), ?_, ⟨true, c / m, x, by simp [S1, hn]⟩, sm.trans (Same.set _ _ _)⟩ (Int.emod_nonneg _ (by omega)) (Int.emod_lt_of_pos _ m0)
    simp [pf_law_take, N_law_take, p_law_take, e0, s2, f0, f1, f2, f3, b4, b5, hin, hi, ht, s1]
end Lw

set_option Elab.async false
set_option linter.all false
set_option maxRecDepth 100000
set_option maxHeartbeats 2000000
/-! plain: words between spaces, sign by sign -/
namespace Lw
open SX TL
def nz (l : List Nat) : Bool := !l.isEmpty
/-- the words that are not empty, joined by one space -/
def sqL (cs : List Nat) : List Nat := joinL [32] ((spl [32] 0 [] cs).filter nz)
def dueStep (p : List Nat × Bool) (c : Nat) : List Nat × Bool := if c = 32 then (p.1, nz p.1) else (p.1 ++ (if p.2 = true then [32] else []) ++ [c], false)
def dueL (cs : List Nat) : List Nat := (cs.foldl dueStep ([], false)).1
theorem pre32 (c : Nat) (r : List Nat) : pre [32] (c :: r) = decide (c = 32) := by
  simp [pre]; by_cases h : c = 32 <;> simp [h]
theorem spl_sp (acc r : List Nat) : spl [32] 0 acc (32 :: r) = acc :: spl [32] 0 [] r := by
  rw [spl_hit (by rw [pre32]; rfl)]; rfl
theorem spl_no {c : Nat} (h : c ≠ 32) (acc r : List Nat) : spl [32] 0 acc (c :: r) = spl [32] 0 (acc ++ [c]) r :=
  spl_miss (by rw [pre32]; exact decide_eq_false h)
theorem joinL_snoc (S x : List Nat) : ∀ ws : List (List Nat), ws ≠ [] → joinL S (ws ++ [x]) = joinL S ws ++ (S ++ x)
  | [], h => absurd rfl h
  | [p], _ => rfl
  | p :: q :: r, _ => by
    show p ++ (S ++ joinL S (q :: r ++ [x])) = p ++ (S ++ joinL S (q :: r)) ++ (S ++ x)
    rw [joinL_snoc S x (q :: r) (by simp)]
    simp [List.append_assoc]
theorem joinL_last (S x y : List Nat) : ∀ ws : List (List Nat), joinL S (ws ++ [x ++ y]) = joinL S (ws ++ [x]) ++ y
  | [] => rfl
  | p :: r => by
    rw [joinL_snoc S _ (p :: r) (by simp), joinL_snoc S _ (p :: r) (by simp)]
    simp [List.append_assoc]
theorem joinL_nz : ∀ {ws : List (List Nat)}, (∀ w, w ∈ ws → nz w = true) → ws ≠ [] → nz (joinL [32] ws) = true
  | [], _, h => absurd rfl h
  | [p], h, _ => h p (by simp)
  | p :: q :: r, h, _ => by
    show nz (p ++ _) = true
    cases p with
    | nil => exact absurd (h [] (by simp)) (by decide)
    | cons a b => rfl
theorem due_gen : ∀ (cs : List Nat) (ws : List (List Nat)) (acc : List Nat) (w : Bool), (∀ x, x ∈ ws → nz x = true) → (acc = [] → w = nz (joinL [32] ws)) → (acc ≠ [] → w = false) →
    (cs.foldl dueStep (joinL [32] (ws ++ [acc].filter nz), w)).1 = joinL [32] (ws ++ (spl [32] 0 acc cs).filter nz) := by
  intro cs
  induction cs with
  | nil => intro ws acc w _ _ _; rw [spl_nil]; rfl
  | cons c r ih =>
    intro ws acc w hw h0 h1
    rw [List.foldl_cons]
    by_cases hc : c = 32
    · subst hc
      rw [spl_sp]
      have e1 : dueStep (joinL [32] (ws ++ [acc].filter nz), w) 32 = (joinL [32] (ws ++ [acc].filter nz), nz (joinL [32] (ws ++ [acc].filter nz))) := by simp [dueStep]
      rw [e1]
      have := ih (ws ++ [acc].filter nz) [] (nz (joinL [32] (ws ++ [acc].filter nz))) (fun x hx => by
        rw [List.mem_append] at hx
        rcases hx with hx | hx
        · exact hw x hx
        · exact (List.mem_filter.mp hx).2) (fun _ => rfl) (fun h => absurd rfl h)
      have e2 : ([[]] : List (List Nat)).filter nz = [] := rfl
      rw [e2, List.append_nil] at this
      rw [this]
      have e3 : (acc :: spl [32] 0 [] r).filter nz = [acc].filter nz ++ (spl [32] 0 [] r).filter nz := by
        rw [← List.filter_append]; rfl
      rw [e3, List.append_assoc]
    · rw [spl_no hc]
      have := ih ws (acc ++ [c]) false hw (fun h => by simp at h) (fun _ => rfl)
      rw [← this]
      apply congrArg (fun p => (r.foldl dueStep p).1)
      unfold dueStep
      rw [if_neg hc]
      have e4 : ([acc ++ [c]] : List (List Nat)).filter nz = [acc ++ [c]] := by
        have : nz (acc ++ [c]) = true := by cases acc <;> rfl
        simp [List.filter, this]
      rw [e4]
      congr 1
      cases acc with
      | cons a b =>
        have : w = false := h1 (by simp)
        subst this
        have e5 : ([a :: b] : List (List Nat)).filter nz = [a :: b] := rfl
        rw [e5, joinL_last]
        simp
      | nil =>
        have e5 : ([[]] : List (List Nat)).filter nz = [] := rfl
        rw [e5, List.append_nil, h0 rfl]
        cases ws with
        | nil => rfl
        | cons p q =>
          rw [joinL_nz hw (by simp), List.nil_append, joinL_snoc [32] [c] (p :: q) (by simp)]
          simp [List.append_assoc]
theorem due_eq (cs : List Nat) : dueL cs = sqL cs := by
  have := due_gen cs [] [] false (fun x h => by cases h) (fun _ => rfl) (fun h => absurd rfl h)
  exact this
theorem spl_free32 : ∀ (cs acc : List Nat), 32 ∉ acc → ∀ p, p ∈ spl [32] 0 acc cs → 32 ∉ p
  | [], acc, h, p, m => by rw [spl_nil] at m; simp at m; subst m; exact h
  | c :: r, acc, h, p, m => by
    by_cases hc : c = 32
    · subst hc
      rw [spl_sp] at m
      rcases List.mem_cons.mp m with m | m
      · subst m; exact h
      · exact spl_free32 r [] (by simp) p m
    · rw [spl_no hc] at m
      exact spl_free32 r (acc ++ [c]) (by simp; exact ⟨h, fun e => hc e.symm⟩) p m
theorem sq_sq (cs : List Nat) : sqL (sqL cs) = sqL cs := by
  unfold sqL
  by_cases he : (spl [32] 0 [] cs).filter nz = []
  · rw [he]; rfl
  · have := TL.spl_join (s := 32) (S := []) he (fun p hp => spl_free32 cs [] (by simp) p (List.mem_filter.mp hp).1)
    rw [this, List.filter_filter]
    simp
theorem due_len : ∀ (cs : List Nat) (f : List Nat) (w : Bool), (cs.foldl dueStep (f, w)).1.length ≤ f.length + 2 * cs.length
  | [], f, w => by simp
  | c :: r, f, w => by
    rw [List.foldl_cons]
    by_cases hc : c = 32
    · have : dueStep (f, w) c = (f, nz f) := by simp [dueStep, hc]
      rw [this]
      have := due_len r f (nz f)
      simp; omega
    · have : dueStep (f, w) c = (f ++ (if w = true then [32] else []) ++ [c], false) := by simp [dueStep, hc]
      rw [this]
      have := due_len r (f ++ (if w = true then [32] else []) ++ [c]) false
      have h2 : (f ++ (if w = true then [32] else []) ++ [c]).length ≤ f.length + 2 := by cases w <;> simp
      simp only [List.length_cons]
      omega
theorem due_small {b : Nat} (hb : 32 < b) : ∀ (cs : List Nat) (f : List Nat) (w : Bool), (∀ c, c ∈ cs → c < b) → (∀ c, c ∈ f → c < b) → ∀ c, c ∈ (cs.foldl dueStep (f, w)).1 → c < b
  | [], f, w, _, hf, c, m => hf c m
  | d :: r, f, w, hc, hf, c, m => by
    rw [List.foldl_cons] at m
    by_cases h : d = 32
    · have e : dueStep (f, w) d = (f, nz f) := by simp [dueStep, h]
      rw [e] at m
      exact due_small hb r f _ (fun x hx => hc x (by simp [hx])) hf c m
    · have e : dueStep (f, w) d = (f ++ (if w = true then [32] else []) ++ [d], false) := by simp [dueStep, h]
      rw [e] at m
      refine due_small hb r _ _ (fun x hx => hc x (by simp [hx])) (fun x hx => ?_) c m
      rw [List.mem_append, List.mem_append] at hx
      rcases hx with (hx | hx) | hx
      · exact hf x hx
      · cases w <;> simp at hx; omega
      · simp at hx; subst hx; exact hc x (by simp)
end Lw

set_option Elab.async false
set_option linter.all false
set_option maxRecDepth 100000
set_option maxHeartbeats 2000000
namespace Lw
open PySem PySem.Spec PyProof.Rows L2 PP PU
open SX (S)
abbrev sg (c : Nat) : D := .str ⟨#[c]⟩
theorem beq_ss (x : List Nat) (c : Nat) : decide (S [c] = S x) = decide ([c] = x) := by
  by_cases h : [c] = x
  · subst h; simp
  · rw [decide_eq_false h, decide_eq_false (fun e => h (SX.S_inj e))]
theorem S_append (a b : List Nat) : S a ++ S b = S (a ++ b) := SX.S_cat a b
theorem rep_sp (n : Nat) : strRep (S [32]) n = S (List.replicate n 32) := by
  unfold strRep S
  congr 1
  simp
theorem sp_eq : (" " : Str) = S [32] := rfl
theorem e_eq : ("" : Str) = S [] := rfl
theorem nz_ne (f : List Nat) : (!decide (S f = S [])) = nz f := by
  cases f with
  | nil => rfl
  | cons a b =>
    have : S (a :: b) ≠ S [] := fun e => by have := SX.S_inj e; cases this
    rw [decide_eq_false this]; rfl
/-- the loop of due -/
theorem due_loop (s : Str) (d3 : Option D) (T : Stt) : ∀ (cs f : List Nat) (w : Bool) (d3 : Option D), f.length + 2 * cs.length ≤ 1000000 →
    ∃ w' d3', mLoop (fun _ => true) (mgName 3) (mIfS (mTest (mOp pEq (mVar 3) (mC (.str " ")))) (mAsg (mOp pNe (mVar 1) (mC (.str ""))) (mgName 2)) (mSeq (mAsg (mOp pAdd (mOp pAdd (mVar 1) (mOp pMul (mC (.str " ")) (mCB pInt (mCons (mVar 2) mNil)))) (mVar 3)) (mgName 1))
  (mAsg (mC (.bl false)) (mgName 2)))) (cs.map sg) [some (.str s), some (.str (S f)), some (.bl w), d3] T = some (.nx [some (.str s), some (.str (S (cs.foldl dueStep (f, w)).1)), some (.bl w'), d3'] T)
  | [], f, w, d3, _ => ⟨w, d3, by simp [mLoop]⟩
  | c :: r, f, w, d3, h => by
    have h' : f.length + 2 * (r.length + 1) ≤ 1000000 := by simpa using h
    by_cases hc : c = 32
    · subst hc
      have e : dueStep (f, w) 32 = (f, nz f) := by simp [dueStep]
      obtain ⟨w', d3', q⟩ := due_loop s none T r f (nz f) (some (sg 32)) (by omega)
      refine ⟨w', d3', ?_⟩
      have e1 : ((⟨#[32]⟩ : Str) = " ") = True := by simp; rfl
      rw [List.foldl_cons, e]
      have hn : (!decide (S f = ("" : Str))) = nz f := nz_ne f
      simp [mLoop, e1, hn]
      exact q
    · have e : dueStep (f, w) c = (f ++ (if w = true then [32] else []) ++ [c], false) := by simp [dueStep, hc]
      obtain ⟨w', d3', q⟩ := due_loop s none T r (f ++ (if w = true then [32] else []) ++ [c]) false (some (sg c)) (by cases w <;> simp <;> omega)
      refine ⟨w', d3', ?_⟩
      have e1 : ((⟨#[c]⟩ : Str) = " ") = False := by
        rw [sp_eq]
        refine eq_false fun e => hc ?_
        have := SX.S_inj (a := [c]) e
        simpa using this
      rw [List.foldl_cons, e]
      have m1 := pMul_si (S := T) (x := S [32]) (n := if w then 1 else 0) (by cases w <;> decide)
      have e2 : strRep (S [32]) (if w then (1 : Int) else 0).toNat = S (if w = true then [32] else []) := by
        rw [rep_sp]; cases w <;> rfl
      rw [e2] at m1
      have a1 := pAdd_ss (S := T) (x := S f) (y := S (if w = true then [32] else [])) (by cases w <;> simp [SX.S_len] <;> omega)
      rw [S_append] at a1
      have a2 := pAdd_ss (S := T) (x := S (f ++ if w = true then [32] else [])) (y := S [c]) (by cases w <;> simp [SX.S_len] <;> omega)
      rw [S_append] at a2
      simp only [sp_eq] at q e1 ⊢
      simp [mLoop, e1, m1, a1, a2]
      simpa using q
theorem due_ok (cs : List Nat) (T : Stt) (h : cs.length ≤ 400000) : pf_law_due [.str (S cs)] T = some (.ok (.str (S (dueL cs))) T) := by
  obtain ⟨w', d3', q⟩ := due_loop (S cs) none T cs [] false none (by simp; omega)
  simp only [e_eq, sp_eq] at q
  simp [pf_law_due, N_law_due, p_law_due]
  simp only [e_eq, sp_eq, sg] at q ⊢
  rw [q]
  rfl
/-- the comprehension of squeezed -/
theorem sq_comp (s : Str) (T : Stt) : ∀ (ws : List (List Nat)) (acc : List D), acc.length + ws.length ≤ 16777216 →
    mComp (mgName 1) (mTest (mOp pNe (mVar 1) (mC (.str "")))) (mVar 1) [1] [some (.str s), none] (ws.map fun w => .str (S w)) acc T = some (.ok (.lst (acc ++ (ws.filter nz).map fun w => .str (S w))) T)
  | [], acc, _ => by simp [mComp]
  | w :: ws, acc, h => by
    have h' : acc.length + (ws.length + 1) ≤ 16777216 := by simpa using h
    have hn : (!decide (S w = ("" : Str))) = nz w := nz_ne w
    cases hz : nz w with
    | true =>
      have q := sq_comp s T ws (acc ++ [.str (S w)]) (by simp; omega)
      have hl : acc.length < 16777216 := by omega
      rw [hz] at hn
      simp [mComp, hn, hz, hl, q]
    | false =>
      have q := sq_comp s T ws acc (by omega)
      rw [hz] at hn
      simp [mComp, hn, hz, q]
theorem strsD_map : ∀ ws : List (List Nat), strsD (ws.map fun w => .str (S w)) = some (ws.map S)
  | [] => rfl
  | w :: ws => by
    show (strsD (ws.map fun w => D.str (S w))).map (S w :: ·) = _
    rw [strsD_map ws]; rfl
theorem filt_sum (f : List Nat → Bool) (g : List Nat → Nat) : ∀ l : List (List Nat), ((l.filter f).map g).sum ≤ (l.map g).sum
  | [] => Nat.le_refl _
  | a :: l => by
    have := filt_sum f g l
    cases h : f a <;> simp [h] <;> omega
theorem isi_str (T : Stt) (s : Str) : pIsi xl [.str s, .ty "str"] T = some (.bl true, T) := by
  have : isT xl.kit (.ty "str") (.ty "str") = some true := by decide +kernel
  show (isT xl.kit (.ty "str") (.ty "str")).map (fun k => (D.bl k, T)) = _
  rw [this]; rfl
theorem squeezed_ok (cs : List Nat) (T : Stt) (h : cs.length ≤ 400000) : pf_squeezed [.str (S cs)] T = some (.ok (.str (S (sqL cs))) T) := by
  have h1 : pSplit (.str (S cs)) [.str " "] T = some (.lst ((TL.spl [32] 0 [] cs).map fun w => .str (S w)), T) := by
    unfold pSplit
    have hl : (S cs).length = cs.length := SX.S_len cs
    simp only
    rw [if_pos ⟨by decide, by rw [hl]; show cs.length + 2 ≤ 16777216; omega⟩]
    rw [show (" " : Str) = S [32] from rfl, SX.split_S (by simp) (by decide)]
    simp [Function.comp_def]
  have hw := split_weight (S cs) (S [32]) (by decide)
  rw [SX.split_S (by simp) (by decide), SX.S_len] at hw
  simp only [List.length_map, List.map_map] at hw
  have h2 := sq_comp (S cs) T (TL.spl [32] 0 [] cs) [] (by simp; omega)
  have h3 : pJoin (.str " ") [.lst (((TL.spl [32] 0 [] cs).filter nz).map fun w => .str (S w))] T = some (.str (S (sqL cs)), T) := by
    have e : Txt.join (" " : Str) (((TL.spl [32] 0 [] cs).filter nz).map S) = S (sqL cs) := SX.join_S [32] _
    show (match strsD (((TL.spl [32] 0 [] cs).filter nz).map fun w => .str (S w)) with
      | some ys => if (ys.map (fun x : Str => x.length)).sum + ys.length * (" " : Str).length ≤ 16777216 then some (D.str (Txt.join (" " : Str) ys), T) else none
      | none => none) = _
    rw [strsD_map]
    simp only
    rw [e, if_pos]
    have a1 := filt_sum nz (fun w => (S w).length) (TL.spl [32] 0 [] cs)
    have a2 := List.length_filter_le nz (TL.spl [32] 0 [] cs)
    have a3 : (" " : Str).length = 1 := rfl
    rw [a3]
    simp only [List.length_map, List.map_map]
    have a4 : ((TL.spl [32] 0 [] cs).map ((fun x : Str => x.length) ∘ S)).sum + (TL.spl [32] 0 [] cs).length ≤ cs.length + 1 := hw
    have a5 : (((TL.spl [32] 0 [] cs).filter nz).map ((fun x : Str => x.length) ∘ S)).sum ≤ ((TL.spl [32] 0 [] cs).map ((fun x : Str => x.length) ∘ S)).sum := a1
    omega
  rw [List.nil_append] at h2
  simp [pf_squeezed, N_squeezed, p_squeezed, isi_str, h1, h2, h3]
theorem word_ok (T : Stt) : pf_law_word [.exc "BadText" []] T = some (.ok (.str "text") T) := by
  rfl
theorem said_ok (cs : List Nat) (T : Stt) (h : cs.length ≤ 400000) : pf_law_said [.str (S cs)] T = some (.ok (.tup [.str "told", .str (S (dueL cs))]) T) := by
  have q := squeezed_ok cs T h
  rw [← due_eq] at q
  simp [pf_law_said, N_law_said, p_law_said, q]
theorem said_bad {d : D} {t : Cn} {T : Stt} (h : tyC xl T d = some t) (h2 : isT xl.kit t (.ty "str") = some false) : pf_law_said [d] T = some (.ok (.tup [.str "refused", .str "text"]) T) := by
  have e1 : pIsi xl [d, .ty "str"] T = some (.bl false, T) := by
    show (match tyC xl T d, clsC (.ty "str") with
      | some a, some b => (isT xl.kit a b).map fun k => (D.bl k, T)
      | _, _ => none) = _
    rw [h]
    show (isT xl.kit t (.ty "str")).map (fun k => (D.bl k, T)) = _
    rw [h2]; rfl
  have e2 : pf_squeezed [d] T = some (.ex "BadText" [] T) := by
    simp [pf_squeezed, N_squeezed, p_squeezed, e1]
  have e3 : catX xl.exm [.own "BankError", .own "BadQuestion", .own "BadText", .own "NoSuch", .own "NoPlace", .own "TooMany", .own "BadKind", .own "Unmet", .own "NoAnswers", .own "Twice"] "BadText" = some true := by decide +kernel
  have e4 : pIsi xl [.exc "BadText" [], .ty "ValueError"] T = some (.bl true, T) := by rfl
  have e5 := word_ok T
  simp [pf_law_said, N_law_said, p_law_said, e2, e3, e4, e5]
def small (cs : List Nat) : Prop := ∀ c, c ∈ cs → c < 1114112
def alpha : Str := "!\"#$&'()*+,-./0123456789:;<=>?@ABCDEFGHIJKLMNOPQRSTUVWXYZ[\\]^_`abcdefghijklmnopqrstuvwxyz{|}~\n"
theorem alpha_len : alpha.cps.toList.length = 94 := by decide +kernel
theorem alpha_small : small alpha.cps.toList := by
  have : alpha.cps.toList.all (fun c => decide (c < 1114112)) = true := by decide +kernel
  intro c h
  exact of_decide_eq_true (List.all_eq_true.mp this c h)
theorem strsD_sg : ∀ l : List Nat, strsD (l.map sg) = some ((l.map fun c => [c]).map S)
  | [] => rfl
  | c :: l => by
    show (strsD (l.map sg)).map (S [c] :: ·) = _
    rw [strsD_sg l]; rfl
theorem joinL_nil : ∀ l : List Nat, TL.joinL [] (l.map fun c => [c]) = l
  | [] => rfl
  | [c] => rfl
  | c :: d :: l => by
    show [c] ++ ([] ++ TL.joinL [] ((d :: l).map fun c => [c])) = _
    rw [joinL_nil (d :: l)]; rfl
theorem join_sg (l : List Nat) (T : Stt) (h : l.length ≤ 1000) : pJoin (.str "") [.lst (l.map sg)] T = some (.str (S l), T) := by
  show (match strsD (l.map sg) with
      | some ys => if (ys.map (fun x : Str => x.length)).sum + ys.length * ("" : Str).length ≤ 16777216 then some (D.str (Txt.join ("" : Str) ys), T) else none
      | none => none) = _
  rw [strsD_sg]
  simp only
  have e : Txt.join ("" : Str) ((l.map fun c => [c]).map S) = S (TL.joinL [] (l.map fun c => [c])) := SX.join_S [] _
  rw [e, joinL_nil, if_pos]
  have a3 : ("" : Str).length = 0 := rfl
  rw [a3]
  have : ∀ l : List Nat, (((l.map fun c => [c]).map S).map (fun x : Str => x.length)).sum = l.length := fun l => by
    induction l with
    | nil => rfl
    | cons c l ih => simp only [List.map_cons, List.sum_cons, ih, SX.S_len, List.length_cons, List.length_nil]; omega
  rw [this]; omega
theorem text_by_ok {T : Stt} {n : Nat} {t : Int} (h : Strm T n t) (h0 : 0 ≤ t) (h1 : t ≤ 100000) :
    ∃ cs T' t', pf_law_text_by [.obj n] T = some (.ok (.str (S cs)) T') ∧ cs.length ≤ 200 ∧ small cs ∧ Strm T' n t' ∧ 0 ≤ t' ∧ t' ≤ t + 100 ∧ Same T T' n := by
  obtain ⟨v1, T1, e1, p1, q1, s1, m1⟩ := take_ok (m := 4) h h0 (by omega) (by omega) (by omega)
  obtain ⟨v2, T2, e2, p2, q2, s2, m2⟩ := take_ok (m := 9) s1 (by omega) (by omega) (by omega) (by omega)
  have mul1 := pMul_si (S := T1) (x := S [32]) (n := v1) ⟨by omega, by omega, by rw [SX.S_len]; simp; omega⟩
  rw [rep_sp] at mul1
  let I : Nat → PU.Env → Stt → Prop := fun i ρ T' => ∃ cs t' d3 d4 d5, ρ = [some (.obj n), some (.str alpha), some (.str (S cs)), d3, d4, d5] ∧ cs.length ≤ 3 + 13 * i ∧ small cs ∧ Strm T' n t' ∧ 0 ≤ t' ∧ t' ≤ t + 2 + 6 * i ∧ Same T T' n
  have hI0 : I 0 [some (.obj n), some (.str alpha), some (.str (S (List.replicate v1.toNat 32))), none, none, none] T2 :=
    ⟨_, _, none, none, none, rfl, by simp; omega, fun c hc => by simp at hc; omega, s2, by omega, by omega, m1.trans m2⟩
  have hstep := mLoop_inv (g := mgName 3) (b := mSeq (mAsg (mBM "str" pJoin (mC (.str "")) (mCons (mLcR1 (mOp pAdd (mC (.int 1)) (mCall pf_law_take (fun vs _ => vs) (mCons (mVar 0) (mCons (mC (.int 4)) mNil)) mNil)) (mgName 5) (mYes) (mOp pIx (mVar 1) (mCall pf_law_take (fun vs _ => vs) (mCons (mVar 0) (mCons (mC (.int 94)) mNil)) mNil)) [5]) mNil)) (mgName 4))
  (mAsg (mOp pAdd (mOp pAdd (mVar 2) (mVar 4)) (mOp pMul (mC (.str " ")) (mOp pIx (mLst (mCons (mC (.int 0)) (mCons (mC (.int 1)) (mCons (mC (.int 2)) (mCons (mC (.int 9)) mNil))))) (mCall pf_law_take (fun vs _ => vs) (mCons (mVar 0) (mCons (mC (.int 4)) mNil)) mNil)))) (mgName 2))) I (upD 0 v2.toNat) 0 ?_ _ _ hI0
  · obtain ⟨ρ', T', e3, cs, t', d3, d4, d5, rfl, hc, hs, hst, ht0, ht1, hm⟩ := hstep
    rw [upD_len] at hc ht1
    refine ⟨cs, T', t', ?_, by omega, hs, hst, ht0, by omega, hm⟩
    have r2 : (-4611686018427387904 ≤ v2 ∧ v2 < 4611686018427387904) := by omega
    have hal : (Str.ofString "!\"#$&'()*+,-./0123456789:;<=>?@ABCDEFGHIJKLMNOPQRSTUVWXYZ[\\]^_`abcdefghijklmnopqrstuvwxyz{|}~\n") = alpha := rfl
    have hsp : (Str.ofString " ") = S [32] := rfl
    rw [← hsp] at mul1
    simp [pf_law_text_by, N_law_text_by, p_law_text_by, e1, mul1, e2, r2, hal, e3]
  · intro i d hi ρ T' hI
    obtain ⟨rfl, hlt⟩ := upD_get _ _ _ _ hi
    obtain ⟨cs, t', d3, d4, d5, rfl, hc, hs, hst, ht0, ht1, hm⟩ := hI
    rw [Nat.zero_add] at hc ht1 ⊢
    have hi8 : i < 9 := by omega
    obtain ⟨v3, T3, e3, p3, q3, s3, m3⟩ := take_ok (m := 4) hst ht0 (by omega) (by omega) (by omega)
    let J : Nat → Stt → List D → Prop := fun k T4 acc => ∃ l : List Nat, acc = l.map sg ∧ l.length = k ∧ small l ∧ Strm T4 n (t' + 1 + k) ∧ Same T T4 n
    obtain ⟨T4, out, e4, l, rfl, hl, hsl, s4, m4⟩ := mComp_ok (g := mgName 5) (tt := mYes) (te := mOp pIx (mVar 1) (mCall pf_law_take (fun vs _ => vs) (mCons (mVar 0) (mCons (mC (.int 94)) mNil)) mNil)) (vs := [5])
      (ρ := [some (.obj n), some (.str alpha), some (.str (S cs)), some (.int (0 + i)), d4, d5]) J (upD 0 (1 + v3).toNat) 0 [] (by rw [upD_len]; simp; omega) (by
        intro k d hk T5 acc hJ
        obtain ⟨rfl, hk2⟩ := upD_get _ _ _ _ hk
        obtain ⟨l, rfl, hl, hsl, s5, m5⟩ := hJ
        rw [Nat.zero_add] at hl s5 ⊢
        obtain ⟨v6, T6, e6, p6, q6, s6, m6⟩ := take_ok (m := 94) s5 (by omega) (by omega) (by omega) (by omega)
        obtain ⟨c, hc1, hc2⟩ := atI_some (l := alpha.cps.toList) (v := v6) p6 (by rw [alpha_len]; exact q6)
        have ix := pIx_s (S := T6) (s := alpha) (i := v6) (by decide +kernel)
        rw [hc1] at ix
        refine ⟨[some (.obj n), some (.str alpha), some (.str (S cs)), some (.int (0 + i)), d4, some (.int (0 + k))], T5, true, T5, by simp, by simp, .inl ⟨rfl, sg c, T6, ?_, l ++ [c], by simp, by simp [hl], ?_, ?_, m5.trans m6⟩⟩
        · simp [e6, ix]
        · intro x hx
          rw [List.mem_append] at hx
          rcases hx with hx | hx
          · exact hsl x hx
          · simp at hx; subst hx; exact alpha_small _ hc2
        · have : t' + 1 + (k : Int) + 1 = t' + 1 + ((k + 1 : Nat) : Int) := by omega
          rw [← this]; exact s6) T3 ⟨[], rfl, rfl, (fun _ h => by cases h), (by simpa using s3), hm.trans m3⟩
    rw [upD_len, Nat.zero_add] at hl s4
    obtain ⟨v7, T7, e7, p7, q7, s7, m7⟩ := take_ok (m := 4) s4 (by omega) (by omega) (by omega) (by omega)
    obtain ⟨w, hw, hw0, hw9⟩ : ∃ w : Int, atI [D.int 0, D.int 1, D.int 2, D.int 9] v7 = some (.int w) ∧ 0 ≤ w ∧ w ≤ 9 := by
      have : v7 = 0 ∨ v7 = 1 ∨ v7 = 2 ∨ v7 = 3 := by omega
      rcases this with rfl | rfl | rfl | rfl
      · exact ⟨0, rfl, by omega, by omega⟩
      · exact ⟨1, rfl, by omega, by omega⟩
      · exact ⟨2, rfl, by omega, by omega⟩
      · exact ⟨9, rfl, by omega, by omega⟩
    have hll : l.length ≤ 4 := by omega
    have j4 := join_sg l T4 (by omega)
    have a1 := pAdd_ss (S := T4) (x := S cs) (y := S l) (by rw [SX.S_len, SX.S_len]; omega)
    rw [S_append] at a1
    have mul2 := pMul_si (S := T7) (x := S [32]) (n := w) ⟨by omega, by omega, by rw [SX.S_len]; simp; omega⟩
    rw [rep_sp] at mul2
    have a2 := pAdd_ss (S := T7) (x := S (cs ++ l)) (y := S (List.replicate w.toNat 32)) (by rw [SX.S_len, SX.S_len]; simp; omega)
    rw [S_append] at a2
    have r3 : (-4611686018427387904 ≤ 1 + v3 ∧ 1 + v3 < 4611686018427387904) := by omega
    have hsp : (Str.ofString " ") = S [32] := rfl
    rw [← hsp] at mul2
    refine ⟨[some (.obj n), some (.str alpha), some (.str (S cs)), some (.int (0 + i)), d4, d5], T', [some (.obj n), some (.str alpha), some (.str (S (cs ++ l ++ List.replicate w.toNat 32))), some (.int (0 + i)), some (.str (S l)), d5], T7, by simp, .inl ?_,
      cs ++ l ++ List.replicate w.toNat 32, _, some (.int (0 + i)), some (.str (S l)), d5, rfl, by simp; omega, ?_, s7, by omega, by omega, m4.trans m7⟩
    · simp at e4
      simp [e3, r3, e4, j4, a1, e7, hw, mul2, a2]
    · intro x hx
      rw [List.mem_append, List.mem_append] at hx
      rcases hx with (hx | hx) | hx
      · exact hs x hx
      · exact hsl x hx
      · simp at hx; omega
end Lw

set_option Elab.async false
set_option linter.all false
set_option maxRecDepth 100000
set_option maxHeartbeats 2000000
namespace Lw
open PySem PySem.Spec PyProof.Rows L2 PP PU
open SX (S)
theorem strOk_S {cs : List Nat} (h : small cs) : PyData.strOk (S cs) = true := by
  unfold PyData.strOk
  rw [← Array.all_toList]
  exact List.all_eq_true.mpr fun c hc => decide_eq_true (h c hc)
theorem peq_told {a b : Str} (T : Stt) (ha : PyData.strOk a = true) (hb : PyData.strOk b = true) : peq T (.tup [.str a, .str b]) (.tup [.str a, .str b]) = some true := by
  show deq T (.tup [.str a, .str b]) (.tup [.str a, .str b]) = some true
  have e : toPyS T (.tup [.str a, .str b]) = some (.tuple [.str a, .str b]) := rfl
  unfold deq
  rw [e]
  simp [SeqAt.shaped, PyData.canLay0, PyData.canLayAll0, PyData.depth, PyData.depthAll, ha, hb, PyData.eqv, PyData.eqvAll]
theorem told_ok : PyData.strOk "told" = true := by decide +kernel
def okT (d : D) : Prop := ∃ cs, d = .str (S cs) ∧ cs.length ≤ 1000 ∧ small cs
def okTb (s : Str) : Bool := decide (s.cps.toList.length ≤ 1000) && s.cps.toList.all fun c => decide (c < 1114112)
theorem okT_of {s : Str} (h : okTb s = true) : okT (.str s) := by
  obtain ⟨h1, h2⟩ := Bool.and_eq_true_iff.mp h
  exact ⟨s.cps.toList, by rw [SX.S_tl], of_decide_eq_true h1, fun c hc => of_decide_eq_true (List.all_eq_true.mp h2 c hc)⟩
def fixed : List D := [.str "", .str " ", .str "   ", .str " a", .str "a ", .str "a  b", .str "\n", .str " \n ", .str "a \n b", .str "  a   b  c "]
theorem fixed_ok : ∀ d, d ∈ fixed → okT d := by
  intro d h
  simp only [fixed, List.mem_cons, List.not_mem_nil, or_false] at h
  rcases h with rfl | rfl | rfl | rfl | rfl | rfl | rfl | rfl | rfl | rfl <;> exact okT_of (by decide +kernel)
theorem due_small' {cs : List Nat} (h : small cs) : small (dueL cs) := due_small (by decide) cs [] false h (fun _ h => by cases h)
theorem due_len' (cs : List Nat) : (dueL cs).length ≤ 2 * cs.length := by
  have := due_len cs [] false
  simpa [dueL] using this
theorem loop1 (s : D) (T : Stt) : ∃ ρ' T', mLoop (fun _ => true) (mgName 1) (mIfS (mTest (mOp pNe (mCall pf_law_said (fun vs _ => vs) (mCons (mVar 1) mNil) mNil) (mTup (mCons (mC (.str "told")) (mCons (mCall pf_law_due (fun vs _ => vs) (mCons (mVar 1) mNil) mNil) mNil))))) (mRet (mC (.bl false))) (mNext))
    fixed [some s, none, none, none, none, none, none] T = some (.nx ρ' T') ∧ T' = T ∧ ∃ a, ρ' = [some s, a, none, none, none, none, none] := by
  have hstep := mLoop_inv (g := mgName 1) (b := mIfS (mTest (mOp pNe (mCall pf_law_said (fun vs _ => vs) (mCons (mVar 1) mNil) mNil) (mTup (mCons (mC (.str "told")) (mCons (mCall pf_law_due (fun vs _ => vs) (mCons (mVar 1) mNil) mNil) mNil))))) (mRet (mC (.bl false))) (mNext))
    (fun _ ρ T' => T' = T ∧ ∃ a, ρ = [some s, a, none, none, none, none, none]) fixed 0 ?_ [some s, none, none, none, none, none, none] T ⟨rfl, none, rfl⟩
  · exact hstep
  · intro i d hi ρ T1 hI
    obtain ⟨rfl, a, rfl⟩ := hI
    obtain ⟨cs, rfl, hl, hs⟩ := fixed_ok d (List.mem_of_getElem? hi)
    have e1 := said_ok cs T1 (by omega)
    have e2 := due_ok cs T1 (by omega)
    have e3 := peq_told (a := "told") (b := S (dueL cs)) T1 told_ok (strOk_S (due_small' hs))
    have e4 := pNe_of e3
    exact ⟨[some s, some (.str (S cs)), none, none, none, none, none], T1, [some s, some (.str (S cs)), none, none, none, none, none], T1, by simp, .inl (by simp [e1, e2, e4]), rfl, some (.str (S cs)), rfl⟩
theorem flat40 (cs : List Nat) : (strRep (S cs) 40) = S (List.replicate 40 cs).flatten := by
  unfold strRep S
  rfl
theorem lenRep (cs : List Nat) : ∀ n : Nat, (List.replicate n cs).flatten.length = n * cs.length
  | 0 => by simp
  | n + 1 => by rw [List.replicate_succ, List.flatten_cons, List.length_append, lenRep cs n, Nat.add_mul]; omega
theorem len40 (cs : List Nat) : (List.replicate 40 cs).flatten.length = 40 * cs.length := lenRep cs 40
theorem small40 {cs : List Nat} (h : small cs) : small (List.replicate 40 cs).flatten := by
  intro c hc
  rw [List.mem_flatten] at hc
  obtain ⟨l, hl, hc⟩ := hc
  have := List.eq_of_mem_replicate hl
  subst this
  exact h c hc
theorem none_ok (cs : List Nat) {v : Int} (h0 : 0 ≤ v) (h1 : v < 7) : ∃ d t, atI [.non, .int 5, .bl true, .lst [.str (S cs)], .tup [.str (S cs)], .dct [], .int 0] v = some d ∧ (∀ T, tyC xl T d = some t) ∧ isT xl.kit t (.ty "str") = some false := by
  have : v = 0 ∨ v = 1 ∨ v = 2 ∨ v = 3 ∨ v = 4 ∨ v = 5 ∨ v = 6 := by omega
  rcases this with rfl | rfl | rfl | rfl | rfl | rfl | rfl
  · exact ⟨_, .ty "NoneType", rfl, fun _ => rfl, by decide +kernel⟩
  · exact ⟨_, .ty "int", rfl, fun _ => rfl, by decide +kernel⟩
  · exact ⟨_, .ty "bool", rfl, fun _ => rfl, by decide +kernel⟩
  · exact ⟨_, .ty "list", rfl, fun _ => rfl, by decide +kernel⟩
  · exact ⟨_, .ty "tuple", rfl, fun _ => rfl, by decide +kernel⟩
  · exact ⟨_, .ty "dict", rfl, fun _ => rfl, by decide +kernel⟩
  · exact ⟨_, .ty "int", rfl, fun _ => rfl, by decide +kernel⟩
def body2 : MS := (mSeq (mAsg (mCall pf_law_stream (fun vs _ => vs) (mCons (mVar 3) (mCons (mVar 2) mNil)) mNil) (mgName 4))
  (mSeq (mAsg (mCall pf_law_text_by (fun vs _ => vs) (mCons (mVar 4) mNil) mNil) (mgName 1))
  (mSeq (mAsg (mCall pf_law_due (fun vs _ => vs) (mCons (mVar 1) mNil) mNil) (mgName 5))
  (mSeq (mIfS (mOr (mTest (mOp pNe (mCall pf_law_said (fun vs _ => vs) (mCons (mVar 1) mNil) mNil) (mTup (mCons (mC (.str "told")) (mCons (mVar 5) mNil))))) (mOr (mTest (mOp pNe (mCall pf_squeezed (fun vs zs => ((zs.drop 0).take 1)) mNil (mCons (mVar 1) mNil)) (mVar 5))) (mTest (mOp pNe (mCall pf_squeezed (fun vs _ => vs) (mCons (mVar 5) mNil) mNil) (mVar 5))))) (mRet (mC (.bl false))) (mNext))
  (mSeq (mIfS (mTest (mOp pNe (mCall pf_law_said (fun vs _ => vs) (mCons (mOp pMul (mVar 1) (mC (.int 40))) mNil) mNil) (mTup (mCons (mC (.str "told")) (mCons (mCall pf_law_due (fun vs _ => vs) (mCons (mOp pMul (mVar 1) (mC (.int 40))) mNil) mNil) mNil))))) (mRet (mC (.bl false))) (mNext))
  (mSeq (mAsg (mOp pIx (mLst (mCons (mC (.non)) (mCons (mC (.int 5)) (mCons (mC (.bl true)) (mCons (mLst (mCons (mVar 1) mNil)) (mCons (mTup (mCons (mVar 1) mNil)) (mCons (mDNew) (mCons (mC (.int 0)) mNil)))))))) (mCall pf_law_take (fun vs _ => vs) (mCons (mVar 4) (mCons (mC (.int 7)) mNil)) mNil)) (mgName 6))
  (mIfS (mTest (mOp pNe (mCall pf_law_said (fun vs _ => vs) (mCons (mVar 6) mNil) mNil) (mTup (mCons (mC (.str "refused")) (mCons (mC (.str "text")) mNil))))) (mRet (mC (.bl false))) (mNext))))))))
theorem body2_ok (s : D) (k c : Int) (hk0 : 0 ≤ k) (hk : k ≤ 100) (a d e f : Option D) (T : Stt) : ∃ T' x1 x4 x5 x6, body2 [some s, a, some (.int k), some (.int c), d, e, f] T = some (.nx [some s, x1, some (.int k), some (.int c), x4, x5, x6] T') := by
  have e1 := stream_ok c k T hk0 (by omega)
  have hst : Strm (T ++ [.lst [.bl (decide (10 ^ 18 ≤ c)), .int c, .int 0, .int (mixed c k)]]) T.length 0 := ⟨decide (10 ^ 18 ≤ c), c, mixed c k, by simp⟩
  generalize T ++ [O.lst [.bl (decide (10 ^ 18 ≤ c)), .int c, .int 0, .int (mixed c k)]] = T1 at e1 hst
  obtain ⟨cs, T2, t2, e2, hl, hs, s2, ht0, ht1, m2⟩ := text_by_ok hst (by omega) (by omega)
  have e3 := due_ok cs T2 (by omega)
  have e4 := said_ok cs T2 (by omega)
  have e5 := pNe_of (peq_told (a := "told") (b := S (dueL cs)) T2 told_ok (strOk_S (due_small' hs)))
  have e6 := squeezed_ok cs T2 (by omega)
  rw [← due_eq] at e6
  have e7 := squeezed_ok (dueL cs) T2 (by have := due_len' cs; omega)
  rw [due_eq, sq_sq, ← due_eq] at e7
  have e8 := pMul_si (S := T2) (x := S cs) (n := 40) ⟨by omega, by omega, by rw [SX.S_len]; show cs.length * 40 ≤ 16777216; omega⟩
  have h40 : (40 : Int).toNat = 40 := rfl
  rw [h40, flat40] at e8
  have hl40 := len40 cs
  have e9 := said_ok (List.replicate 40 cs).flatten T2 (by omega)
  have e10 := due_ok (List.replicate 40 cs).flatten T2 (by omega)
  have e11 := pNe_of (peq_told (a := "told") (b := S (dueL (List.replicate 40 cs).flatten)) T2 told_ok (strOk_S (due_small' (small40 hs))))
  obtain ⟨v, T3, e12, hv0, hv1, s3, m3⟩ := take_ok (m := 7) s2 ht0 (by omega) (by omega) (by omega)
  obtain ⟨dd, t, e13, e14, e15⟩ := none_ok cs hv0 hv1
  have e16 := said_bad (T := T3) (e14 T3) e15
  have e17 := pNe_of (peq_told (a := "refused") (b := "text") T3 (by decide +kernel) (by decide +kernel))
  refine ⟨T3, some (.str (S cs)), some (.obj T.length), some (.str (S (dueL cs))), some dd, ?_⟩
  generalize List.replicate 40 cs = R40 at *
  simp [body2, e1, e2, e3, e4, e5, e6, e7, e8, e9, e10, e11, e12, e13, e16, e17]
theorem cut63 (l : List D) : PU.cutD l none (some 63) = l.take 63 := by
  unfold PU.cutD
  rw [HT.sIx_none, show ((63 : Int)) = ((63 : Nat) : Int) from rfl, HT.sIx_nat]
  simp only [List.drop_zero, Nat.sub_zero]
  by_cases h : 63 ≤ l.length
  · rw [Nat.min_eq_left h]
  · rw [Nat.min_eq_right (by omega), List.take_length, List.take_of_length_le (by omega)]
theorem law_ok (ns : List Int) (hn : ns.length ≤ 63) : ∃ S', pf_law [.lst (ns.map D.int)] [] = some (.ok (.bl true) S') := by
  obtain ⟨ρ1, T1, e1, rfl, a1, rfl⟩ := loop1 (.lst (ns.map D.int)) []
  have hstep := mLoop_inv (g := mgTup 2 (mgCons (mgName 2) (mgCons (mgName 3) mgNil))) (b := body2) (fun _ ρ _ => ∃ a b c d e f, ρ = [some (.lst (ns.map D.int)), a, b, c, d, e, f])
    (enumD 0 ((ns.map D.int ++ [D.int 0]).take 63)) 0 ?_ [some (.lst (ns.map D.int)), a1, none, none, none, none, none] [] ⟨a1, none, none, none, none, none, rfl⟩
  · obtain ⟨ρ2, T2, e2, a, b, c, d, e, f, rfl⟩ := hstep
    have ha := pAdd_ll (S := []) (x := ns.map D.int) (y := [D.int 0]) (by simp; omega)
    refine ⟨T2, ?_⟩
    have hs : pSl (.lst (ns.map D.int ++ [D.int 0])) none (some 63) [] = some (.lst ((ns.map D.int ++ [D.int 0]).take 63), []) := by
      rw [← cut63]; rfl
    unfold body2 at e2
    simp only [List.drop_zero] at e2
    unfold fixed at e1
    simp [pf_law, N_law, p_law, e1, ha, hs, e2]
  · intro i d hi ρ T hI
    obtain ⟨a, b, c, d0, e, f, rfl⟩ := hI
    obtain ⟨x, hx, rfl⟩ := enumD_get _ _ _ _ hi
    have hil : i < 63 := by
      have := (List.getElem?_eq_some_iff.mp hx).1
      simp at this; omega
    have hm : x ∈ (ns.map D.int ++ [.int 0] : List D) := List.mem_of_mem_take (List.mem_of_getElem? hx)
    obtain ⟨n, rfl⟩ : ∃ n, x = .int n := by
      rw [List.mem_append] at hm
      rcases hm with hm | hm
      · obtain ⟨n, _, rfl⟩ := List.mem_map.mp hm
        exact ⟨n, rfl⟩
      · simp at hm; exact ⟨0, hm⟩
    obtain ⟨T', x1, x4, x5, x6, e⟩ := body2_ok (.lst (ns.map D.int)) (0 + i) n (by omega) (by omega) a d0 e f T
    exact ⟨[some (.lst (ns.map D.int)), a, some (.int (0 + i)), some (.int n), d0, _, f], T, _, T', by simp, .inl e, x1, _, _, x4, x5, x6, rfl⟩
theorem law_reading (K : PySem.W.Frag) (c : exB xl K = true) (H : Hp) (a : Addr) (ns : List Int) (hl : ns.length ≤ 63) (ho : Only H) (hs : SqL K H a (ns.map V.int)) : sp_law K [.ref a] H (fun v _ => v = .bl true) X0 :=
  reading_of (sim_law c) hs (law_ok ns hl)
end Lw

set_option Elab.async false
set_option linter.all false
open PySem PySem.W PySem.Calls PyProof.Rows
set_option maxRecDepth 100000 in
set_option maxHeartbeats 0 in
theorem PySem.Challenge.cw_paperkin_k02_squeezed_holds : PySem.Challenge.rw_paperkin_k02_squeezed.Holds := by
  w_on; o_law
  refine HandSHeadRun.head_any (r := OpenLaw.row PySem.Challenge.rw_paperkin_k02_squeezed) (q := view (OpenLaw.row PySem.Challenge.rw_paperkin_k02_squeezed).prog [26]) (H := Lw.hk) (ob := Lw.ob) (M := 60000) (loose := Lw.names) (d := HandSHeadRun.topDef (OpenLaw.row PySem.Challenge.rw_paperkin_k02_squeezed).prog 26) (kwd := []) Lw.ob_eq
    (by kernel_rfl) (fun s => by kernel_rfl) Lw.run (by kernel_rfl) (by kernel_rfl) (by kernel_rfl) (by rfl) (by first | assumption | decide +kernel) (by decide +kernel) ⟨rfl, rfl, rfl, rfl, rfl, by decide +kernel⟩ ?hw ?hc
  case hw => w_witness2
  case hc =>
    refine PP.walk_end (l := PySem.Challenge.rw_paperkin_k02_squeezed) (n := 63) (k := 4) (x := "_law_script") rfl (by decide) (by kernel_rfl) ⟨rfl, by decide, by decide⟩ ?F
    case F =>
      intro w mg fa h Y G hmg0
      obtain ⟨K, KX, c⟩ := Y
      have hmg : mg ("law" : PySem.Str) = some (.ref fa) := by
        have e : (HandSHeadRun.topDef (OpenLaw.row PySem.Challenge.rw_paperkin_k02_squeezed).prog 26).name = ("law" : PySem.Str) := by kernel_rfl
        rw [← e]
        exact hmg0
      have e := hmg.symm.trans (He.glo_ok KX G (c.1.fact 0 (f := .glo "law") rfl))
      cases e
      obtain ⟨fd, F, _⟩ := Lw.ok_law (P := PySem.Challenge.rw_paperkin_k02_squeezed.prog) (w := w) (base := h) KX G c
      refine ⟨K, fd, Lw.sp_law K, KX, fun s v => L2.FunD.bindsA (ps := ["_law_script"]) F (fun _ _ _ _ _ _ us hl => match us, hl with | [_], _ => rfl) s [v] rfl, fun H a ns hl hO hS => Lw.law_reading K c.2 H a ns hl hO hS, fun base hb hg => ?_⟩
      obtain ⟨fd', F', G'⟩ := Lw.ok_law (P := PySem.Challenge.rw_paperkin_k02_squeezed.prog) (w := w) (base := base) hb hg c
      have e := PP.funD_eq F F'
      subst e
      exact G'

