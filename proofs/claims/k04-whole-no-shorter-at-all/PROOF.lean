import PyProof.Rows.All
import Wide.All
import OpenK.AllK
import Wide.FinOn
import PySem.Challenge.RW_shifttape_k04_whole_no_shorter_at_all
import HandS.ForMost
import HandS.IsInst
import HandS.Wide
import HandS.StrMore
import HandS.RevRange
import HandS.Rev
import HandS.Strs
import HandS.Replace
import HandS.Codes
import HandS.More
import PyProof.Rows.StrLawsPart
import KE.KDictDisplayH
import HandS.Style
import HandS.Conv
import HandS.Lambda
import KE.LtSeq
import KE.KMinKey
import PyProof.P3Eq
import HandS.EndTab
import KE.KeyNested
import PyProof.Rows.TupTab
set_option Elab.async false
set_option linter.all false
set_option maxRecDepth 100000
set_option maxHeartbeats 4000000
/-! the layer: rules by syntax alone, heaps as letters -/
namespace Z
open PySem PySem.Spec PyProof.Rows L2

/-! ### heaps -/
theorem same_new {H : Hp} {p : Addr} {o : HO} (h : H p = none) : Same H (upd H p o) := fun b x e => by
  rw [upd_ne (ne_of_none e h)]
  exact e
theorem same_at {H H' : Hp} {p : Addr} {o : HO} (e : Same H H') (h : H p = some o) : H' p = some o := e _ _ h
theorem same_tup {K : PySem.W.Frag} {H H' : Hp} {a : Addr} {xs : List V} (e : Same H H') (h : SqT K H a xs) : SqT K H' a xs := by
  rcases h with (h | ⟨o, h⟩) | h
  · exact .inl (.inl (e _ _ h))
  · exact .inl (.inr ⟨o, e _ _ h⟩)
  · exact .inr h
/-- all but l stays -/
def But (l : Addr) (H H' : Hp) : Prop := ∀ b o, b ≠ l → H b = some o → H' b = some o
theorem but_upd {l : Addr} {H : Hp} {o : HO} : But l H (upd H l o) := fun b x hb e => by
  rw [upd_ne hb]
  exact e
theorem But.same {l : Addr} {H0 H H' : Hp} (b : But l H H') (e : Same H0 H) (h : H0 l = none) : Same H0 H' := fun c o q => b c o (ne_of_none q h) (e c o q)
theorem But.at {l p : Addr} {H H' : Hp} {o : HO} (b : But l H H') (e : H p = some o) (h : p ≠ l) : H' p = some o := b p o h e
theorem same_ne {H H' : Hp} {p q : Addr} {o : HO} (e : Same H H') (h : H p = some o) (n : H' q = none) : p ≠ q := ne_of_none (e _ _ h) n

/-! ### deep data under growth -/
mutual
theorem same_dp {K : PySem.W.Frag} {H H' : Hp} (e : Same H H') : ∀ (d : PyData) (v : V), Dp K H v d → Dp K H' v d
  | .none, _, h => by cases h; exact .non
  | .bool b, _, h => by cases h; exact .bl b
  | .int i, _, h => by cases h; exact .int i
  | .str s, _, h => by cases h; exact .str s
  | .list ds, _, h => by
    cases h with
    | lst hl ha => exact .lst (Same.seq e hl) (same_dpAll e ds _ ha)
  | .tuple ds, _, h => by
    cases h with
    | tup hl ha => exact .tup (same_tup e hl) (same_dpAll e ds _ ha)
  | .dict _, _, h => by cases h
theorem same_dpAll {K : PySem.W.Frag} {H H' : Hp} (e : Same H H') : ∀ (ds : List PyData) (vs : List V), DpAll K H vs ds → DpAll K H' vs ds
  | [], _, h => by cases h; exact .nil
  | d :: ds, _, h => by
    cases h with
    | cons h1 h2 => exact .cons (same_dp e d _ h1) (same_dpAll e ds _ h2)
end

/-! ### a list of which only a part is told -/
def lstAt (h : Heap) (a : Addr) (xs : List V) : Prop := xs.length ≤ sizeLine ∧ ∃ (its : List Value) (n : Nat), Vals xs its ∧ h.get? a = some { cls := .type "list", data := .seq its.toArray n }
def hidL (Pd : List V → Prop) (a : Addr) : HO := .ext fun h => ∃ xs, Pd xs ∧ lstAt h a xs
section
variable {X : Cx} {pins : List (Addr × Obj)} {σ : L2.St} {H : Hp} {s : Shared} {a : Addr} {xs : List V} {Pd : List V → Prop}
theorem inv_hide (I : Inv X pins σ H s) (h : H a = some (.lst xs)) (p : Pd xs) : Inv X pins σ (upd H a (hidL Pd a)) s := by
  have x : ObjOk X.prog X.w H s.heap a (.lst xs) := I.hok a _ h
  obtain ⟨z, its, n, r, e⟩ := x
  exact I.write (x := a) (e := a) (t' := s.toks) (h' := s.heap) (by rw [h]; exact True.intro) (.inl rfl) (fun b v _ q => q) ⟨_, e⟩
    ⟨⟨xs, p, z, its, n, r, e⟩, ⟨_, e⟩, fun h1 h2 ⟨ys, q, z, its, n, r, e⟩ k => ⟨ys, q, z, its, n, r, k _ e⟩⟩
theorem inv_show (I : Inv X pins σ H s) (h : H a = some (hidL Pd a)) : ∃ xs, Pd xs ∧ Inv X pins σ (upd H a (.lst xs)) s := by
  obtain ⟨⟨xs, p, z, its, n, r, e⟩, _, _⟩ := (show ObjOk X.prog X.w H s.heap a (hidL Pd a) from I.hok a _ h)
  exact ⟨xs, p, I.write (x := a) (e := a) (t' := s.toks) (h' := s.heap) (by rw [h]; exact True.intro) (.inl rfl) (fun b v _ q => q) ⟨_, e⟩ ⟨z, its, n, r, e⟩⟩
end
def tShow (t : TS) : TS := fun D σ H => ∃ a Pd, H a = some (hidL Pd a) ∧ ∀ xs H', Pd xs → But a H H' → H' a = some (.lst xs) → (∀ b, H' b = none ↔ H b = none) → t D σ H'
theorem none_iff {H : Hp} {a : Addr} {o u : HO} (h : H a = some o) (b : Addr) : upd H a u b = none ↔ H b = none := by
  by_cases e : b = a
  · rw [e, upd_same, h]
    exact ⟨(fun z => nomatch z), (fun z => nomatch z)⟩
  · rw [upd_ne e]
theorem pss_show {X : Cx} {sts : List Stmt} {t : TS} (h : PSs X sts t) : PSs X sts (tShow t) := ⟨fun pins s σ H D I ⟨a, Pd, e, q⟩ => by
  obtain ⟨xs, p, I'⟩ := inv_show I e
  exact h.run pins s σ _ D I' (q xs _ p but_upd upd_same (none_iff e))⟩
def tHide (t : TE) : TE := fun σ H Q => t σ H fun v H1 => ∃ a xs Pd, H1 a = some (.lst xs) ∧ Pd xs ∧ ∀ H', But a H1 H' → H' a = some (hidL Pd a) → Q v H'
theorem pe_hide {X : Cx} {e : Expr} {t : TE} (h : PE X e t) : PE X e (tHide t) := ⟨fun pins s σ H Q I q =>
  thn (h.run pins s σ H _ I q) fun u s1 ⟨v, H1, I1, r, a, xs, Pd, e, p, q⟩ => ⟨v, _, inv_hide I1 e p, r, q _ but_upd upd_same⟩⟩

/-! ### new objects -/
abbrev NewL (H : Hp) (xs : List V) (Q : VK) : Prop := ∀ p H', H p = none → Same H H' → H' p = some (.lst xs) → Q (.ref p) H'
abbrev NewT (H : Hp) (xs : List V) (Q : VK) : Prop := ∀ p H', H p = none → Same H H' → H' p = some (.tup xs) → Q (.ref p) H'
theorem newL {H : Hp} {xs : List V} {Q : VK} (q : NewL H xs Q) : ∀ p, H p = none → Q (.ref p) (upd H p (.lst xs)) := fun p n => q p _ n (same_new n) upd_same
theorem newT {H : Hp} {xs : List V} {Q : VK} (q : NewT H xs Q) : ∀ p, H p = none → Q (.ref p) (upd H p (.tup xs)) := fun p n => q p _ n (same_new n) upd_same

/-! ### weaker readings -/
theorem opr_imp {X : Cx} {f : Value → Value → Sem Value} {r r' : R2} (h : OpR X f r) (k : ∀ x y H Q, r' x y H Q → r x y H Q) : OpR X f r' :=
  fun pins s σ H x y v u Q I rx ry q => h pins s σ H x y v u Q I rx ry (k x y H Q q)
theorem callr_imp {X : Cx} {f : Value} {r r' : List V → Hp → VK → Prop} (h : CallR X f r) (k : ∀ xs H Q, r' xs H Q → r xs H Q) : CallR X f r' :=
  fun pins s σ H xs us Q I rx q => h pins s σ H xs us Q I rx (k xs H Q q)
theorem mtr_imp {X : Cx} {id : String} {r r' : V → List V → Hp → VK → Prop} (h : MtR X id r) (k : ∀ x xs H Q, r' x xs H Q → r x xs H Q) : MtR X id r' :=
  fun pins s σ H x xs v us Q I rx rs q => h pins s σ H x xs v us Q I rx rs (k x xs H Q q)
theorem slr_imp {X : Cx} {r r' : V → Option Int → Option Int → Hp → VK → Prop} (h : SlR X r) (k : ∀ x l u H Q, r' x l u H Q → r x l u H Q) : SlR X r' :=
  fun pins s σ H x v vl vu lo hi sl Q I rx a b c q => h pins s σ H x v vl vu lo hi sl Q I rx a b c (k x lo hi H Q q)
theorem pe_imp {X : Cx} {e : Expr} {t t' : TE} (h : PE X e t) (k : ∀ σ H Q, t' σ H Q → t σ H Q) : PE X e t' := ⟨fun pins s σ H Q I q => h.run pins s σ H Q I (k σ H Q q)⟩

/-! ### operators by values -/
def rAddStr : R2 := fun x y H Q => ∃ i j, x = .str i ∧ y = .str j ∧ i.length + j.length ≤ sizeLine ∧ Q (.str (i ++ j)) H
def rCatL : R2 := fun x y H Q => ∃ l b xs zs, x = .ref l ∧ y = .ref b ∧ H l = some (.lst xs) ∧ H b = some (.lst zs) ∧ xs.length + zs.length ≤ sizeLine ∧ NewL H (xs ++ zs) Q
def rCatU (K : PySem.W.Frag) : R2 := fun x y H Q => ∃ a b xs ys, x = .ref a ∧ y = .ref b ∧ SqT K H a xs ∧ SqT K H b ys ∧ xs ≠ [] ∧ ys ≠ [] ∧ xs.length + ys.length ≤ sizeLine ∧ NewT H (xs ++ ys) Q
def uAdd (K : PySem.W.Frag) : R2 := fun x y H Q => rI0 (fun i j => .int (i + j)) x y H Q ∨ rAddStr x y H Q ∨ rCatL x y H Q ∨ rCatU K x y H Q
def uSub : R2 := rI0 fun i j => .int (i - j)
def uMul : R2 := rI CMul fun i j => .int (i * j)
def uFdiv : R2 := rI CDivW fun i j => .int (i / j)
def uMod : R2 := rI (fun _ j => 0 < j) fun i j => .int (i % j)
def uEq (K : PySem.W.Frag) : R2 := fun x y H Q => rEq x y H Q ∨ rEqD K x y H Q
def uNe (K : PySem.W.Frag) : R2 := fun x y H Q => rNe x y H Q ∨ rNeD K x y H Q
def rLeS : R2 := fun x y H Q => ∃ i j, x = .str i ∧ y = .str j ∧ Q (.bl (!decide (j.cps.toList < i.cps.toList))) H
def uLe : R2 := fun x y H Q => rI0 (fun i j => .bl (decide (i ≤ j))) x y H Q ∨ rLeS x y H Q
def uLt : R2 := rI0 fun i j => .bl (decide (i < j))
def uGt : R2 := rI0 fun i j => .bl (decide (j < i))
def uGe : R2 := rI0 fun i j => .bl (decide (j ≤ i))
def rInSign : R2 := fun x y H Q => ∃ (c : Nat) (z : Str), x = .str ⟨#[c]⟩ ∧ y = .str z ∧ Q (.bl (decide (c ∈ z.cps.toList))) H
def rNiSign : R2 := fun x y H Q => ∃ (c : Nat) (z : Str), x = .str ⟨#[c]⟩ ∧ y = .str z ∧ Q (.bl (!decide (c ∈ z.cps.toList))) H
def uIn (K : PySem.W.Frag) : R2 := fun x y H Q => rInSign x y H Q ∨ rIn K false x y H Q
def uNi (K : PySem.W.Frag) : R2 := fun x y H Q => rNiSign x y H Q ∨ rIn K true x y H Q
def uIsN : R2 := fun x y H Q => y = .non ∧ Q (.bl (decide (x = .non))) H
def uNotN : R2 := fun x y H Q => y = .non ∧ Q (.bl (!decide (x = .non))) H
section
variable {X : Cx}
theorem op_uAdd (K : PySem.W.Frag) (hk : X.K = K := by rfl) : OpR X (binaryOp .Add) (uAdd K) := by
  subst hk
  exact
  op_add.or (op_add_str.or ((opr_imp op_cat fun x y H Q ⟨l, b, xs, zs, h1, h2, h3, h4, h5, q⟩ => ⟨l, b, xs, zs, h1, h2, h3, h4, h5, newL q⟩).or
    (opr_imp op_catT fun x y H Q ⟨a, b, xs, ys, h1, h2, h3, h4, h5, h6, h7, q⟩ => ⟨a, b, xs, ys, h1, h2, h3, h4, h5, h7, fun z => absurd z h6, fun _ => newT q⟩)))
theorem op_uSub : OpR X (binaryOp .Sub) uSub := op_sub
theorem op_uMul : OpR X (binaryOp .Mult) uMul := op_mul
theorem op_uFdiv : OpR X (binaryOp .FloorDiv) uFdiv := op_fdivW
theorem op_uMod : OpR X (binaryOp .Mod) uMod := op_mod
theorem op_uEq (K : PySem.W.Frag) (hu : X.A.units + 64 < cLine) (hk : X.K = K := by rfl) : OpR X (compareOp .Eq) (uEq K) := by
  subst hk
  exact op_eq.or (op_eqD hu)
theorem op_uNe (K : PySem.W.Frag) (hu : X.A.units + 64 < cLine) (hk : X.K = K := by rfl) : OpR X (compareOp .NotEq) (uNe K) := by
  subst hk
  exact op_ne.or (op_neD hu)
theorem op_uLe : OpR X (compareOp .LtE) uLe := op_le.or op_le_str
theorem op_uLt : OpR X (compareOp .Lt) uLt := op_lt
theorem op_uGt : OpR X (compareOp .Gt) uGt := op_gt
theorem op_uGe : OpR X (compareOp .GtE) uGe := op_ge
theorem op_uIn (K : PySem.W.Frag) (hk : X.K = K := by rfl) : OpR X (compareOp .In) (uIn K) := by
  subst hk
  exact op_in_sign.or op_in_seq
theorem op_uNi (K : PySem.W.Frag) (hk : X.K = K := by rfl) : OpR X (compareOp .NotIn) (uNi K) := by
  subst hk
  exact op_notIn_sign.or op_notIn_seq
theorem op_uIsN : OpR X (compareOp .Is) uIsN := op_isN
theorem op_uNotN : OpR X (compareOp .IsNot) uNotN := op_notN
end
/-! ### subscripts, slices -/
def uIx (K : PySem.W.Frag) : R2 := rIx K
theorem ix_u {X : Cx} (K : PySem.W.Frag) (hk : X.K = K := by rfl) : IxR X (uIx K) := by
  subst hk
  exact ix_seq
def rSlLn (K : PySem.W.Frag) : V → Option Int → Option Int → Hp → VK → Prop := fun x lo hi H Q => ∃ a xs, x = .ref a ∧ SqL K H a xs ∧ NewL H (cutV xs lo hi) Q
def uSl (K : PySem.W.Frag) : V → Option Int → Option Int → Hp → VK → Prop := fun x lo hi H Q => rSlS x lo hi H Q ∨ rSlLn K x lo hi H Q
theorem sl_u {X : Cx} (K : PySem.W.Frag) (hk : X.K = K := by rfl) : SlR X (uSl K) := by
  subst hk
  exact sl_str.or (slr_imp sl_list fun x lo hi H Q ⟨a, xs, h1, h2, q⟩ => ⟨a, xs, h1, h2, newL q⟩)

/-! ### displays -/
def tLstN (t : TA) : TE := fun σ H Q => t σ H fun xs H1 => xs.length ≤ sizeLine ∧ NewL H1 xs Q
def tTupN (t : TA) : TE := fun σ H Q => t σ H fun xs H1 => xs.length ≤ sizeLine ∧ NewT H1 xs Q
section
variable {X : Cx} {es : List Expr} {t : TA} {pos : Pos}
theorem pe_lstN (h : PA X es t) : PE X (.List es pos) (tLstN t) := by
  refine ⟨fun pins s σ H Q I hq => ?_⟩
  refine wpAny_List_spliced (thn (h.run pos pins s σ H _ I hq) fun us s1 ⟨xs, H1, I1, r, z, q⟩ => ⟨by rw [← r.length]; exact z, ?_⟩)
  have hf : H1 s1.heap.objs.size = none := I1.hok.fresh (Nat.le_refl _)
  refine ⟨.ref s1.heap.objs.size, upd H1 s1.heap.objs.size (.lst xs), I1.laid (t' := s1.toks) (fun b u e => Heap.get?_push_of_some _ e) (Nat.le_refl _) ?_, rfl, q _ _ hf (same_new hf) upd_same⟩
  exact ⟨z, us, 0, r, Heap.get?_push_size _ rfl⟩
theorem pe_tupN {x1} (h : PA X es t) : PE X (.Tuple es x1 pos) (tTupN t) := by
  refine ⟨fun pins s σ H Q I hq => ?_⟩
  refine wpAny_Tuple_spliced (thn (h.run pos pins s σ H _ I hq) fun us s1 ⟨xs, H1, I1, r, z, q⟩ => ⟨by rw [← r.length]; exact z, ?_⟩)
  have hf : H1 s1.heap.objs.size = none := I1.hok.fresh (Nat.le_refl _)
  refine ⟨.ref s1.heap.objs.size, upd H1 s1.heap.objs.size (.tup xs), I1.laid (t' := s1.toks) (fun b u e => Heap.get?_push_of_some _ e) (Nat.le_refl _) ?_, rfl, q _ _ hf (same_new hf) upd_same⟩
  exact ⟨z, us, r, ⟨_, Heap.get?_push_size _ rfl, rfl, _, rfl⟩⟩
end

/-! ### defs -/
/-- the def x of the module, as it stands -/
structure Df (K : PySem.W.Frag) (mg : Str → Option Value) (x : Str) (st : Stmt) (ps : List Str) : Prop where
  ex : ∃ (f : Addr) (fd : FuncData), Fun K x x st f fd ∧ Binds K fd ps [] ∧ mg x = some (.ref f)
structure OkAt (P : Program) (w : World) (K : PySem.W.Frag) (mg : Str → Option Value) (base : Heap) (x : Str) (k : Nat) (ps : List Str) (sp : Sp) : Prop where
  ex : ∃ (f : Addr) (fd : FuncData), FnOk P w K mg base CX0 k f fd ps sp ∧ Binds K fd ps [] ∧ mg x = some (.ref f) ∧ PySem.W.keepIn K (.ref f) = true
section
variable {P : Program} {w : World} {K : PySem.W.Frag} {mg : Str → Option Value} {base : Heap}
/-- THE RULE for a def -/
theorem Df.ok {x : Str} {st : Stmt} {N ps : List Str} {k : Nat} {sp : Sp} (F : Df K mg x st ps) (S : FnScope N ps (defScope st)) (len : ∀ vs H Q E, sp vs H Q E → vs.length = ps.length)
    (hbody : ∀ (f : Addr) (cdv : Value) (A : Around) (outer : List Env) (s : Shared) (H : Hp) (vs : List V) (Q : VK) (E : XK), Room k (A.deeper (envOfC x (defScope st) s.heap.objs.size f cdv)) → sp vs H Q E →
      ∃ t, PSs (cxOf CX0 P w K mg base N x (defScope st) f cdv A outer s H E).nox (defBody st) t ∧ t { nx := fun _ H' => Q .non H', rt := Q } (start N vs) H) : OkAt P w K mg base x (k + 1) ps sp := by
  obtain ⟨f, fd, F, b, m⟩ := F.ex
  exact ⟨f, fd, F.ok S len fun cdv A outer s H vs Q E hr h => hbody f cdv A outer s H vs Q E hr h, b, m, F.kp⟩
theorem OkAt.mono {x : Str} {ps : List Str} {j k : Nat} {sp : Sp} (o : OkAt P w K mg base x j ps sp) (h : j ≤ k) : OkAt P w K mg base x k ps sp := by
  obtain ⟨f, fd, F, b, m, kp⟩ := o.ex
  exact ⟨f, fd, F.mono h, b, m, kp⟩
theorem OkAt.imp {x : Str} {ps : List Str} {k : Nat} {sp sp' : Sp} (o : OkAt P w K mg base x k ps sp) (h : ∀ vs H Q E, sp' vs H Q E → sp vs H Q E) : OkAt P w K mg base x k ps sp' := by
  obtain ⟨f, fd, F, b, m, kp⟩ := o.ex
  exact ⟨f, fd, F.imp h, b, m, kp⟩
end
def tCl (sp : Sp) (t : TA) : TE := fun σ H Q => t σ H fun vs H1 => sp vs H1 Q E0
theorem pe_cl {X : Cx} {x : Str} {ps : List Str} {k : Nat} {sp : Sp} {e : Expr} {es : List Expr} {t : TA} {p pos : Pos} (o : OkAt X.prog X.w X.K X.mg X.base x k ps sp) (hr : Room k X.A) (hg : Gl X x) (ha : PA X (e :: es) t)
    (hdb : (x == ("__debug__" : Str)) = false := by decide) (he : starEach (e :: es) X.env = (false, eval e X.env) :: starEach es X.env := by rfl) (hpl : (backTo pos (starEach es X.env)).any (·.1) = false := by rfl) :
    PE X (.Call (.Name x p) (e :: es) [] pos) (tCl sp t) := by
  obtain ⟨f, fd, F, b, m, kp⟩ := o.ex
  refine pe_imp (pe_call F hr hg m kp b .nil pass0 ha hdb he hpl) fun σ H Q h => ?_
  show t σ H fun vs H1 => sp (vs ++ []) H1 Q E0
  have e1 : (fun vs H1 => sp (vs ++ []) H1 Q E0) = fun vs H1 => sp vs H1 Q E0 := by
    funext vs H1
    rw [List.append_nil]
  rw [e1]
  exact h

/-! ### built-ins -/
def bLen (K : PySem.W.Frag) : List V → Hp → VK → Prop := fun xs H Q => ∃ x n, xs = [x] ∧ LenV K x H n ∧ Q (.int n) H
theorem cr_len {X : Cx} (K : PySem.W.Frag) (hk : X.K = K := by rfl) : CallR X (.builtin "len") (bLen K) := by
  subst hk
  exact call_len
def bMin : List V → Hp → VK → Prop := fun xs H Q => ∃ i j, xs = [.int i, .int j] ∧ Q (.int (if j < i then j else i)) H
theorem cr_minI {X : Cx} (hc : X.calm = true := by rfl) : CallR X (.builtin "min") bMin := call_min2 hc
def bInt : List V → Hp → VK → Prop := fun xs H Q => (∃ i, xs = [.int i] ∧ Q (.int i) H) ∨ (∃ k, xs = [.bl k] ∧ Q (.int (if k then 1 else 0)) H) ∨ ∃ (x : Str) (n : Int), xs = [.str x] ∧ PySem.intText? x = some n ∧ x.length ≤ 640 ∧ Q (.int n) H
theorem cr_int {X : Cx} : CallR X (.type "int") bInt := fun pins s σ H xs us Q I r h => by
  rcases h with h | h | ⟨x, n, h1, h2, h3, q⟩
  · exact call_int1 pins s σ H xs us Q I r (.inl h)
  · exact call_int1 pins s σ H xs us Q I r (.inr h)
  · exact call_int_str pins s σ H xs us Q I r ⟨x, n, h1, h2, h3, q⟩
def bStr : List V → Hp → VK → Prop := fun xs H Q => ∃ i, xs = [.int i] ∧ i.natAbs.log2 < 1920 ∧ Q (.str (toString i)) H
theorem cr_str {X : Cx} : CallR X (.type "str") bStr := call_str_int
def bListN (K : PySem.W.Frag) : List V → Hp → VK → Prop := fun xs H Q => ∃ p ys, xs = [.ref p] ∧ (SqL K H p ys ∨ SqT K H p ys) ∧ NewL H ys Q
theorem cr_listN {X : Cx} (K : PySem.W.Frag) (hk : X.K = K := by rfl) : CallR X (.type "list") (bListN K) := by
  subst hk
  exact callr_imp call_list_of fun xs H Q ⟨p, ys, h1, h2, q⟩ => ⟨p, ys, h1, h2, newL q⟩
def bAll (K : PySem.W.Frag) : List V → Hp → VK → Prop := rAll K
theorem cr_allB {X : Cx} (K : PySem.W.Frag) (hc : X.calm = true := by rfl) (hk : X.K = K := by rfl) : CallR X (.builtin "all") (bAll K) := by
  subst hk
  exact cr_all hc
def bSorted (K : PySem.W.Frag) : List V → Hp → VK → Prop := fun vs H Q => ∃ (a : Addr) (ns : List Int), vs = [V.ref a] ∧ SqL K H a (ns.map V.int) ∧ ns.length < 64 ∧ ∀ ns' : List Int, ns'.Perm ns → ns'.Pairwise (· ≤ ·) → NewL H (ns'.map V.int) Q
theorem cr_sortedN {X : Cx} (K : PySem.W.Frag) (hk : X.K = K := by rfl) : CallR X (.builtin "sorted") (bSorted K) := by
  subst hk
  exact callr_imp cr_sorted fun vs H Q ⟨a, ns, h1, h2, h3, q⟩ => ⟨a, ns, h1, h2, h3, fun ns' p hp hs n => newL (q ns' hp hs) p n⟩
def bIsi (K : PySem.W.Frag) : List V → Hp → VK → Prop := rIsi K
theorem cr_isi {X : Cx} (K : PySem.W.Frag) (hk : X.K = K := by rfl) : CallR X (.builtin "isinstance") (bIsi K) := by
  subst hk
  exact call_isi

/-! ### methods -/
def mAppend : V → List V → Hp → VK → Prop := fun x vs H Q => ∃ l xs y, x = .ref l ∧ vs = [y] ∧ H l = some (.lst xs) ∧ xs.length < sizeLine ∧ ∀ H', But l H H' → H' l = some (.lst (xs ++ [y])) → Q .non H'
theorem mt_appendN {X : Cx} : MtR X "list.append" mAppend := mtr_imp mt_append fun x vs H Q ⟨l, xs, y, h1, h2, h3, h4, q⟩ => ⟨l, xs, y, h1, h2, h3, h4, q _ but_upd upd_same⟩
def mPopAt : V → List V → Hp → VK → Prop := fun x vs H Q => ∃ l xs i k y, x = .ref l ∧ vs = [.int i] ∧ H l = some (.lst xs) ∧ -(2 ^ 63) ≤ i ∧ i < 2 ^ 63 ∧ seqIndex? i xs.length = some k ∧ xs[k]? = some y ∧ ∀ H', But l H H' → H' l = some (.lst (xs.eraseIdx k)) → Q y H'
theorem mt_popAtN {X : Cx} : MtR X "list.pop" mPopAt := mtr_imp mt_popAt fun x vs H Q ⟨l, xs, i, k, y, h1, h2, h3, h4, h5, h6, h7, q⟩ => ⟨l, xs, i, k, y, h1, h2, h3, h4, h5, h6, h7, q _ but_upd upd_same⟩
def mJoin (K : PySem.W.Frag) : V → List V → Hp → VK → Prop := fun x xs H Q => ∃ a p, ∃ ys : List Str, x = .str a ∧ xs = [.ref p] ∧ (SqL K H p (ys.map V.str) ∨ SqT K H p (ys.map V.str)) ∧
    (ys.map (·.length)).sum + ys.length * a.length ≤ 16777216 ∧ Q (.str (Txt.join a ys)) H
theorem mt_joinN {X : Cx} (K : PySem.W.Frag) (hk : X.K = K := by rfl) : MtR X "str.join" (mJoin K) := by
  subst hk
  exact mt_join
/-- xs[i] = v -/
def uSetL : V → V → V → Hp → (Hp → Prop) → Prop := fun o i v H Q => ∃ p xs k j, o = .ref p ∧ i = .int k ∧ H p = some (.lst xs) ∧ ixN xs.length k = some j ∧ ∀ H', But p H H' → H' p = some (.lst (xs.set j v)) → Q H'
theorem set_u {X : Cx} : PSet X uSetL := fun pins s σ H o i v ov iv u Q I r1 r2 r3 ⟨p, xs, k, j, h1, h2, h3, h4, q⟩ => set_list pins s σ H o i v ov iv u Q I r1 r2 r3 ⟨p, xs, k, j, h1, h2, h3, h4, q _ but_upd upd_same⟩
/-! ### the same with K told -/
section
variable {X : Cx} {o e tg l : Expr} {es ets : List Expr} {to te tl : TE} {t : TA} {name : Str} {apos cpos p pos tpos : Pos} {T id : String} {r : V → List V → Hp → VK → Prop} {kk n : Nat} {u : TGs}
theorem pe_bmK (K : PySem.W.Frag) (pa : PlainAttrs T) (slot : Slot T name id) (hty : typeOf (.builtin id) = pure (.type "method_descriptor")) (hm : MtR X id r) (ho : PE X o to) (ha : PA X (e :: es) t) (hk : X.K = K := by rfl)
    (hbase : attributeBase o name X.env (eval o X.env) = eval o X.env := by rfl)
    (hfew : ((backTo cpos (starEach (e :: es) X.env)).all (fun x => !x.1) && (backToKw cpos (keywordEach [] X.env)).all (fun x => x.1.isSome)
      && decide ((e :: es).length + ([] : List Keyword).length + (if ([] : List Keyword).isEmpty then 0 else 1) < 30)) = true := by rfl)
    (hline : (apos.endLine == cpos.line) = true := by rfl) (hs : starEach (e :: es) X.env = (false, eval e X.env) :: starEach es X.env := by rfl) (hplain : (backTo cpos (starEach es X.env)).any (·.1) = false := by rfl) :
    PE X (.Call (.Attribute o name apos) (e :: es) [] cpos) (tBM K T r to t) := by
  subst hk
  exact pe_bm pa slot hty hm ho ha hbase hfew hline hs hplain
theorem pi_listK (K : PySem.W.Frag) (hl : PE X l tl) (hk : X.K = K := by rfl) : PI X tg l (iList K tl) := by
  subst hk
  exact pi_list hl
theorem pi_tupK (K : PySem.W.Frag) (hl : PE X l tl) (hk : X.K = K := by rfl) : PI X tg l (iTup K tl) := by
  subst hk
  exact pi_tup hl
theorem pi_enumK (K : PySem.W.Frag) (hg : Gl X "enumerate") (hm : X.mg "enumerate" = none) (ha : PA X [e] t) (hk : X.K = K := by rfl) (hs : starEach [e] X.env = [(false, eval e X.env)] := by rfl) :
    PI X (.Tuple ets kk tpos) (.Call (.Name "enumerate" p) [e] [] pos) (iEnum K t) := by
  subst hk
  exact pi_enum hg hm ha hs
theorem pi_revK (K : PySem.W.Frag) (hg : Gl X "reversed") (hm : X.mg "reversed" = none) (ha : PA X [e] t) (hk : X.K = K := by rfl) (hs : starEach [e] X.env = [(false, eval e X.env)] := by rfl) :
    PI X tg (.Call (.Name "reversed" p) [e] [] pos) (iRev K t) := by
  subst hk
  exact pi_reversed hg hm ha hs
theorem pg_tupK (K : PySem.W.Frag) (hc : X.calm = true) (h : PGs X es u) (hk : X.K = K := by rfl) (hn : (assignEach es X.env).length = n := by rfl) (hst : (assignEach es X.env).findIdx? (·.1) = none := by rfl) :
    PG X (.Tuple es kk pos) (gTup K n u) := by
  subst hk
  exact pg_tup hc h hn hst
theorem pe_gStr {x z : Str} (hg : Gl X x) (h : ∃ t, X.mg x = some (.str z t)) (hd : (x == ("__debug__" : Str)) = false := by decide) : PE X (.Name x pos) (tC (.str z)) := by
  obtain ⟨t, h⟩ := h
  exact pe_glob hg h ⟨t, rfl⟩ hd
theorem pe_gInt {x : Str} {z : Int} (hg : Gl X x) (h : ∃ t, X.mg x = some (.int z t)) (hd : (x == ("__debug__" : Str)) = false := by decide) : PE X (.Name x pos) (tC (.int z)) := by
  obtain ⟨t, h⟩ := h
  exact pe_glob hg h ⟨t, rfl⟩ hd
end
end Z

/-! running a reading step by step -/
namespace Z
open PySem PySem.Spec PyProof.Rows L2
theorem le_size {n : Nat} (h : n ≤ 100000) : n ≤ sizeLine := Nat.le_trans h (by decide)
theorem lt_size {n : Nat} (h : n < 100000) : n < sizeLine := Nat.lt_of_lt_of_le h (by decide)
theorem decV_int {i j : Int} : decide (V.int i = V.int j) = decide (i = j) := by
  by_cases e : i = j
  · rw [e, decide_eq_true rfl, decide_eq_true rfl]
  · rw [decide_eq_false e, decide_eq_false (fun z => e (V.int.inj z))]
theorem decV_str {i j : Str} : decide (V.str i = V.str j) = decide (i = j) := by
  by_cases e : i = j
  · rw [e, decide_eq_true rfl, decide_eq_true rfl]
  · rw [decide_eq_false e, decide_eq_false (fun z => e (V.str.inj z))]
theorem decV_bl {i j : Bool} : decide (V.bl i = V.bl j) = decide (i = j) := by
  by_cases e : i = j
  · rw [e, decide_eq_true rfl, decide_eq_true rfl]
  · rw [decide_eq_false e, decide_eq_false (fun z => e (V.bl.inj z))]
section
variable {K : PySem.W.Frag} {σ : L2.St} {H : Hp} {Q : VK} {i : Nat} {v x y : V} {ta tb tc te to ti : TE} {t u : TT} {tl : TA} {a b : Addr} {xs ys : List V}

/-! ### expressions -/
theorem r_var (h : σ[i]? = some (some v)) (q : Q v H) : tVar i σ H Q := ⟨v, h, q⟩
theorem r_c (q : Q v H) : tC v σ H Q := q
theorem r_op {r : R2} (q : ta σ H fun x H1 => tb σ H1 fun y H2 => r x y H2 Q) : tOp r ta tb σ H Q := q
theorem r_un {r : V → Hp → VK → Prop} (q : ta σ H fun x H1 => r x H1 Q) : tUn r ta σ H Q := q
theorem r_neg {n : Int} (q : Q (.int (-n)) H) : rU (fun i => .int (-i)) (.int n) H Q := ⟨n, rfl, q⟩
theorem r_addI {i j : Int} (q : Q (.int (i + j)) H) : uAdd K (.int i) (.int j) H Q := .inl ⟨i, j, rfl, rfl, q⟩
theorem r_addS {a b : Str} (h : a.length + b.length ≤ sizeLine) (q : Q (.str (a ++ b)) H) : uAdd K (.str a) (.str b) H Q := .inr (.inl ⟨a, b, rfl, rfl, h, q⟩)
theorem r_addL (h1 : H a = some (.lst xs)) (h2 : H b = some (.lst ys)) (h : xs.length + ys.length ≤ sizeLine) (q : NewL H (xs ++ ys) Q) : uAdd K (.ref a) (.ref b) H Q := .inr (.inr (.inl ⟨a, b, xs, ys, rfl, rfl, h1, h2, h, q⟩))
theorem r_addU (h1 : H a = some (.tup xs)) (h2 : H b = some (.tup ys)) (e1 : xs ≠ []) (e2 : ys ≠ []) (h : xs.length + ys.length ≤ sizeLine) (q : NewT H (xs ++ ys) Q) : uAdd K (.ref a) (.ref b) H Q :=
  .inr (.inr (.inr ⟨a, b, xs, ys, rfl, rfl, SqT.of h1, SqT.of h2, e1, e2, h, q⟩))
theorem r_subI {i j : Int} (q : Q (.int (i - j)) H) : uSub (.int i) (.int j) H Q := ⟨i, j, rfl, rfl, q⟩
theorem r_mulI {i j : Int} (h : CMul i j) (q : Q (.int (i * j)) H) : uMul (.int i) (.int j) H Q := ⟨i, j, rfl, rfl, h, q⟩
theorem r_fdivI {i j : Int} (h : CDivW i j) (q : Q (.int (i / j)) H) : uFdiv (.int i) (.int j) H Q := ⟨i, j, rfl, rfl, h, q⟩
theorem r_modI {i j : Int} (h : 0 < j) (q : Q (.int (i % j)) H) : uMod (.int i) (.int j) H Q := ⟨i, j, rfl, rfl, h, q⟩
theorem r_leI {i j : Int} (q : Q (.bl (decide (i ≤ j))) H) : uLe (.int i) (.int j) H Q := .inl ⟨i, j, rfl, rfl, q⟩
theorem r_leS {a b : Str} (q : Q (.bl (!decide (b.cps.toList < a.cps.toList))) H) : uLe (.str a) (.str b) H Q := .inr ⟨a, b, rfl, rfl, q⟩
theorem r_ltI {i j : Int} (q : Q (.bl (decide (i < j))) H) : uLt (.int i) (.int j) H Q := ⟨i, j, rfl, rfl, q⟩
theorem r_gtI {i j : Int} (q : Q (.bl (decide (j < i))) H) : uGt (.int i) (.int j) H Q := ⟨i, j, rfl, rfl, q⟩
theorem r_geI {i j : Int} (q : Q (.bl (decide (j ≤ i))) H) : uGe (.int i) (.int j) H Q := ⟨i, j, rfl, rfl, q⟩
theorem r_eqI {i j : Int} (q : Q (.bl (decide (i = j))) H) : uEq K (.int i) (.int j) H Q := .inl ⟨rfl, by rw [decV_int]; exact q⟩
theorem r_neI {i j : Int} (q : Q (.bl (!decide (i = j))) H) : uNe K (.int i) (.int j) H Q := .inl ⟨rfl, by rw [decV_int]; exact q⟩
theorem r_eqS {i j : Str} (q : Q (.bl (decide (i = j))) H) : uEq K (.str i) (.str j) H Q := .inl ⟨rfl, by rw [decV_str]; exact q⟩
theorem r_neS {i j : Str} (q : Q (.bl (!decide (i = j))) H) : uNe K (.str i) (.str j) H Q := .inl ⟨rfl, by rw [decV_str]; exact q⟩
theorem r_eqB {i j : Bool} (q : Q (.bl (decide (i = j))) H) : uEq K (.bl i) (.bl j) H Q := .inl ⟨rfl, by rw [decV_bl]; exact q⟩
theorem r_neB {i j : Bool} (q : Q (.bl (!decide (i = j))) H) : uNe K (.bl i) (.bl j) H Q := .inl ⟨rfl, by rw [decV_bl]; exact q⟩
theorem r_eqV (h : scal x y = true) (q : Q (.bl (decide (x = y))) H) : uEq K x y H Q := .inl ⟨h, q⟩
theorem r_neV (h : scal x y = true) (q : Q (.bl (!decide (x = y))) H) : uNe K x y H Q := .inl ⟨h, q⟩
theorem r_eqD {d e : PyData} (h1 : Dp K H x d) (h2 : Dp K H y e) (s1 : SeqAt.shaped d = true) (s2 : SeqAt.shaped e = true) (q : Q (.bl (PyData.eqv d e)) H) : uEq K x y H Q := .inr ⟨d, e, h1, h2, s1, s2, q⟩
theorem r_neD {d e : PyData} (h1 : Dp K H x d) (h2 : Dp K H y e) (s1 : SeqAt.shaped d = true) (s2 : SeqAt.shaped e = true) (q : Q (.bl (!PyData.eqv d e)) H) : uNe K x y H Q := .inr ⟨d, e, h1, h2, s1, s2, q⟩
theorem r_inS {c : Nat} {z : Str} (q : Q (.bl (decide (c ∈ z.cps.toList))) H) : uIn K (.str ⟨#[c]⟩) (.str z) H Q := .inl ⟨c, z, rfl, rfl, q⟩
theorem r_niS {c : Nat} {z : Str} (q : Q (.bl (!decide (c ∈ z.cps.toList))) H) : uNi K (.str ⟨#[c]⟩) (.str z) H Q := .inl ⟨c, z, rfl, rfl, q⟩
theorem r_inL (h : H a = some (.lst xs)) (fx : flatV x = true) (fa : xs.all flatV = true) (q : Q (.bl (inV x xs)) H) : uIn K x (.ref a) H Q := .inr ⟨a, xs, rfl, .inl (SqL.of h), fx, fa, q⟩
theorem r_inU (h : H a = some (.tup xs)) (fx : flatV x = true) (fa : xs.all flatV = true) (q : Q (.bl (inV x xs)) H) : uIn K x (.ref a) H Q := .inr ⟨a, xs, rfl, .inr (SqT.of h), fx, fa, q⟩
theorem r_niL (h : H a = some (.lst xs)) (fx : flatV x = true) (fa : xs.all flatV = true) (q : Q (.bl (!inV x xs)) H) : uNi K x (.ref a) H Q := .inr ⟨a, xs, rfl, .inl (SqL.of h), fx, fa, q⟩
theorem r_niU (h : H a = some (.tup xs)) (fx : flatV x = true) (fa : xs.all flatV = true) (q : Q (.bl (!inV x xs)) H) : uNi K x (.ref a) H Q := .inr ⟨a, xs, rfl, .inr (SqT.of h), fx, fa, q⟩
theorem r_isN (q : Q (.bl (decide (x = .non))) H) : uIsN x .non H Q := ⟨rfl, q⟩
theorem r_notN (q : Q (.bl (!decide (x = .non))) H) : uNotN x .non H Q := ⟨rfl, q⟩
theorem r_ixS {z : Str} {n : Int} {c : Nat} (hz : z.length ≤ sizeLine) (h : atI z.cps.toList n = some c) (q : Q (.str ⟨#[c]⟩) H) : uIx K (.str z) (.int n) H Q := .inr (.inr ⟨z, n, c, rfl, rfl, hz, h, q⟩)
theorem r_ixL {n : Int} (h : H a = some (.lst xs)) (hv : atI xs n = some v) (q : Q v H) : uIx K (.ref a) (.int n) H Q := .inl ⟨a, xs, n, v, rfl, rfl, SqL.of h, hv, q⟩
theorem r_ixU {n : Int} (h : H a = some (.tup xs)) (hv : atI xs n = some v) (q : Q v H) : uIx K (.ref a) (.int n) H Q := .inr (.inl ⟨a, xs, n, v, rfl, rfl, SqT.of h, hv, q⟩)
theorem r_sl {r : V → Option Int → Option Int → Hp → VK → Prop} {t1 t2 : TO} (q : te σ H fun x H1 => t1 σ H1 fun l H2 => t2 σ H2 fun u H3 => r x l u H3 Q) : tSl r te t1 t2 σ H Q := q
theorem r_noP {Q : Option Int → Hp → Prop} (q : Q none H) : tNoPart σ H Q := q
theorem r_po {Q : Option Int → Hp → Prop} (q : te σ H fun x H1 => ∃ i, x = .int i ∧ Q (some i) H1) : tPart te σ H Q := q
theorem r_poI {n : Int} {P : Int → Prop} (q : P n) : ∃ i, V.int n = .int i ∧ P i := ⟨n, rfl, q⟩
theorem r_slS {z : Str} {lo hi : Option Int} (h : z.length ≤ sizeLine) (q : Q (.str (cutS z lo hi)) H) : uSl K (.str z) lo hi H Q := .inl ⟨z, rfl, h, q⟩
theorem r_slL {lo hi : Option Int} (h : H a = some (.lst xs)) (q : NewL H (cutV xs lo hi) Q) : uSl K (.ref a) lo hi H Q := .inr ⟨a, xs, rfl, SqL.of h, q⟩
theorem r_ifE (q : t σ H fun c H1 => if c = true then ta σ H1 Q else tb σ H1 Q) : tIf t ta tb σ H Q := q
theorem r_andV (q : ta σ H fun x H1 => ∃ c, x = .bl c ∧ if c = true then tb σ H1 Q else Q (.bl false) H1) : tAndV ta tb σ H Q := q
theorem r_orV (q : ta σ H fun x H1 => ∃ c, x = .bl c ∧ if c = true then Q (.bl true) H1 else tb σ H1 Q) : tOrV ta tb σ H Q := q
theorem r_notV (q : ta σ H fun x H1 => ∃ c, x = .bl c ∧ Q (.bl (!c)) H1) : tNotV ta σ H Q := q
theorem r_chain {r r' : R2} (q : ta σ H fun x H1 => tb σ H1 fun y H2 => r x y H2 fun z H3 => ∃ k, z = .bl k ∧ (if k = true then tc σ H3 fun w' H4 => r' y w' H4 Q else Q (.bl false) H3)) : tChain r r' ta tb tc σ H Q := q
theorem r_bl {c : Bool} {P : Bool → Prop} (q : P c) : ∃ k, V.bl c = .bl k ∧ P k := ⟨c, rfl, q⟩
theorem r_nil {Q : List V → Hp → Prop} (q : Q [] H) : tNil σ H Q := q
theorem r_cons {Q : List V → Hp → Prop} (q : ta σ H fun x H1 => tl σ H1 fun xs H2 => Q (x :: xs) H2) : tCons ta tl σ H Q := q
theorem r_cl {sp : Sp} (q : tl σ H fun vs H1 => sp vs H1 Q E0) : tCl sp tl σ H Q := q
theorem r_cb {r : List V → Hp → VK → Prop} (q : tl σ H fun vs H1 => r vs H1 Q) : tCB r tl σ H Q := q
theorem r_tup (q : tl σ H fun xs H1 => xs.length ≤ sizeLine ∧ NewT H1 xs Q) : tTupN tl σ H Q := q
theorem r_lst (q : tl σ H fun xs H1 => xs.length ≤ sizeLine ∧ NewL H1 xs Q) : tLstN tl σ H Q := q
theorem r_few {n : Nat} {P : Prop} (h : n ≤ 1000) (q : P) : n ≤ sizeLine ∧ P := ⟨le_size (by omega), q⟩
theorem r_bm {T : String} {r : V → List V → Hp → VK → Prop} (q : to σ H fun x H1 => tyV K T x H1 ∧ tl σ H1 fun xs H2 => r x xs H2 Q) : tBM K T r to tl σ H Q := q
theorem r_tyL {P : Prop} (h : H a = some (.lst xs)) (q : P) : tyV K "list" (.ref a) H ∧ P := ⟨.inl ⟨rfl, _, SqL.of h⟩, q⟩
theorem r_tyS {z : Str} {P : Prop} (q : P) : tyV K "str" (.str z) H ∧ P := ⟨rfl, q⟩
theorem r_app (h : H a = some (.lst xs)) (hz : xs.length < sizeLine) (q : ∀ H', But a H H' → H' a = some (.lst (xs ++ [y])) → Q .non H') : mAppend (.ref a) [y] H Q := ⟨a, xs, y, rfl, rfl, h, hz, q⟩
theorem r_lenS {z : Str} (h : z.length ≤ sizeLine) (q : Q (.int z.length) H) : bLen K [.str z] H Q := ⟨_, _, rfl, ⟨h, rfl⟩, q⟩
theorem r_lenL (h : H a = some (.lst xs)) (q : Q (.int xs.length) H) : bLen K [.ref a] H Q := ⟨_, _, rfl, .inl ⟨_, SqL.of h, rfl⟩, q⟩
theorem r_lenU (h : H a = some (.tup xs)) (q : Q (.int xs.length) H) : bLen K [.ref a] H Q := ⟨_, _, rfl, .inr ⟨_, SqT.of h, rfl⟩, q⟩
theorem r_min {i j : Int} (q : Q (.int (if j < i then j else i)) H) : bMin [.int i, .int j] H Q := ⟨i, j, rfl, q⟩
theorem r_intI {i : Int} (q : Q (.int i) H) : bInt [.int i] H Q := .inl ⟨i, rfl, q⟩
theorem r_intB {k : Bool} (q : Q (.int (if k then 1 else 0)) H) : bInt [.bl k] H Q := .inr (.inl ⟨k, rfl, q⟩)
theorem r_listL (h : H a = some (.lst xs)) (q : NewL H xs Q) : bListN K [.ref a] H Q := ⟨a, xs, rfl, .inl (SqL.of h), q⟩
theorem r_listU (h : H a = some (.tup xs)) (q : NewL H xs Q) : bListN K [.ref a] H Q := ⟨a, xs, rfl, .inr (SqT.of h), q⟩
theorem r_all {bs : List Bool} (h : H a = some (.lst (bs.map V.bl))) (q : Q (.bl (bs.all id)) H) : bAll K [.ref a] H Q := ⟨a, bs, rfl, SqL.of h, q⟩
theorem r_join {z : Str} {ys : List Str} (h : H a = some (.lst (ys.map V.str))) (hs : (ys.map (·.length)).sum + ys.length * z.length ≤ 16777216) (q : Q (.str (Txt.join z ys)) H) : mJoin K (.str z) [.ref a] H Q := ⟨z, a, ys, rfl, rfl, .inl (SqL.of h), hs, q⟩
theorem ixN_nat {n j : Nat} (hj : j < n) : ixN n (j : Int) = some j := by
  unfold ixN
  rw [if_pos (by omega), if_pos (by omega)]
  simp
theorem r_popAt {n : Int} {j : Nat} (h : H a = some (.lst xs)) (hn : n = (j : Int)) (hl : xs.length ≤ 100000) (hv : xs[j]? = some v) (q : ∀ H', But a H H' → H' a = some (.lst (xs.eraseIdx j)) → Q v H') : mPopAt (.ref a) [.int n] H Q := by
  subst hn
  have hj : j < xs.length := (List.getElem?_eq_some_iff.mp hv).1
  exact ⟨a, xs, j, j, v, rfl, rfl, h, by omega, by omega, (ixN_seq (ixN_nat hj)).1, hv, q⟩
theorem r_setL {n : Int} {j : Nat} {Q : Hp → Prop} (h : H a = some (.lst xs)) (hj : ixN xs.length n = some j) (q : ∀ H', But a H H' → H' a = some (.lst (xs.set j v)) → Q H') : uSetL (.ref a) (.int n) v H Q := ⟨a, xs, n, j, rfl, rfl, h, hj, q⟩
end
section
variable {K : PySem.W.Frag} {σ : L2.St} {H : Hp} {i : Nat} {v x y : V} {ta tb tc te to ti : TE} {t u : TT} {s1 s2 s3 : TS}

/-! ### tests -/
variable {QT : Bool → Hp → Prop}
theorem r_test (q : te σ H fun x H' => ∃ k, x = .bl k ∧ QT k H') : tTest te σ H QT := q
theorem r_tB (q : te σ H fun x H' => ∃ k, x = .bl k ∧ QT k H') : tB te σ H QT := q
theorem r_not (q : t σ H fun c H1 => QT (!c) H1) : tNot t σ H QT := q
theorem r_and (q : t σ H fun c H1 => if c = true then u σ H1 QT else QT false H1) : tAnd t u σ H QT := q
theorem r_or (q : t σ H fun c H1 => if c = true then QT true H1 else u σ H1 QT) : tOr t u σ H QT := q
theorem r_yes (q : QT true H) : tYes σ H QT := q

/-! ### ways -/
theorem w_dec {p A B : Prop} [Decidable p] (h1 : p → A) (h2 : ¬ p → B) : if decide p = true then A else B := by
  by_cases h : p
  · rw [if_pos (decide_eq_true h)]; exact h1 h
  · rw [if_neg (by rw [decide_eq_false h]; decide)]; exact h2 h
theorem w_nd {p A B : Prop} [Decidable p] (h1 : ¬ p → A) (h2 : p → B) : if (!decide p) = true then A else B := by
  by_cases h : p
  · rw [if_neg (by rw [decide_eq_true h]; decide)]; exact h2 h
  · rw [if_pos (by rw [decide_eq_false h]; decide)]; exact h1 h
theorem w_yes {p A B : Prop} [Decidable p] (h : p) (a : A) : if decide p = true then A else B := w_dec (fun _ => a) fun z => absurd h z
theorem w_no {p A B : Prop} [Decidable p] (h : ¬ p) (b : B) : if decide p = true then A else B := w_dec (fun z => absurd z h) fun _ => b
theorem w_nyes {p A B : Prop} [Decidable p] (h : ¬ p) (a : A) : if (!decide p) = true then A else B := w_nd (fun _ => a) fun z => absurd z h
theorem w_nno {p A B : Prop} [Decidable p] (h : p) (b : B) : if (!decide p) = true then A else B := w_nd (fun z => absurd h z) fun _ => b
theorem iteNT {A B : Prop} (b : B) : if (!true) = true then A else B := by
  rw [if_neg (by decide)]
  exact b
theorem iteNF {A B : Prop} (a : A) : if (!false) = true then A else B := by
  rw [if_pos (by decide)]
  exact a
theorem w_b {c : Bool} {A B : Prop} (h1 : c = true → A) (h2 : c = false → B) : if c = true then A else B := by
  cases c with
  | true => rw [if_pos rfl]; exact h1 rfl
  | false => rw [if_neg Bool.false_ne_true]; exact h2 rfl
theorem w_t {c : Bool} {A B : Prop} (h : c = true) (a : A) : if c = true then A else B := w_b (fun _ => a) fun z => by rw [h] at z; cases z
theorem w_f {c : Bool} {A B : Prop} (h : c = false) (b : B) : if c = true then A else B := w_b (fun z => by rw [h] at z; cases z) fun _ => b

/-! ### statements: the ends written out -/
variable {nx bk ct : L2.St → Hp → Prop} {rt : VK}
theorem r_seq (q : s1 ⟨s2 ⟨nx, rt, bk, ct⟩, rt, bk, ct⟩ σ H) : tSeq s1 s2 ⟨nx, rt, bk, ct⟩ σ H := q
theorem r_asg (q : te σ H fun x H1 => nx (σ.set i (some x)) H1) : tAsg te (gName i) ⟨nx, rt, bk, ct⟩ σ H := q
theorem r_sasg (q : te σ H fun x H1 => s2 ⟨nx, rt, bk, ct⟩ (σ.set i (some x)) H1) : tSeq (tAsg te (gName i)) s2 ⟨nx, rt, bk, ct⟩ σ H := q
theorem r_sasgG {g : TG} (q : te σ H fun x H1 => g x σ H1 fun σ2 H2 => s2 ⟨nx, rt, bk, ct⟩ σ2 H2) : tSeq (tAsg te g) s2 ⟨nx, rt, bk, ct⟩ σ H := q
theorem r_asgG {g : TG} (q : te σ H fun x H1 => g x σ H1 nx) : tAsg te g ⟨nx, rt, bk, ct⟩ σ H := q
theorem r_sdrop (q : te σ H fun _ H1 => s2 ⟨nx, rt, bk, ct⟩ σ H1) : tSeq (tDrop te) s2 ⟨nx, rt, bk, ct⟩ σ H := q
theorem r_drop (q : te σ H fun _ H1 => nx σ H1) : tDrop te ⟨nx, rt, bk, ct⟩ σ H := q
theorem r_ret (q : te σ H rt) : tRet te ⟨nx, rt, bk, ct⟩ σ H := q
theorem r_if (q : t σ H fun b H1 => if b = true then s1 ⟨nx, rt, bk, ct⟩ σ H1 else s2 ⟨nx, rt, bk, ct⟩ σ H1) : tIfS t s1 s2 ⟨nx, rt, bk, ct⟩ σ H := q
theorem r_sif (q : t σ H fun b H1 => if b = true then s1 ⟨s3 ⟨nx, rt, bk, ct⟩, rt, bk, ct⟩ σ H1 else s2 ⟨s3 ⟨nx, rt, bk, ct⟩, rt, bk, ct⟩ σ H1) : tSeq (tIfS t s1 s2) s3 ⟨nx, rt, bk, ct⟩ σ H := q
theorem r_next (q : nx σ H) : tNext ⟨nx, rt, bk, ct⟩ σ H := q
theorem r_sset {ts : TSet} (q : te σ H fun x H1 => to σ H1 fun o H2 => ti σ H2 fun k H3 => ts o k x H3 fun H4 => s2 ⟨nx, rt, bk, ct⟩ σ H4) : tSeq (tAsg te (gSub to ti ts)) s2 ⟨nx, rt, bk, ct⟩ σ H := q
theorem r_set {ts : TSet} (q : te σ H fun x H1 => to σ H1 fun o H2 => ti σ H2 fun k H3 => ts o k x H3 fun H4 => nx σ H4) : tAsg te (gSub to ti ts) ⟨nx, rt, bk, ct⟩ σ H := q
theorem r_sfor {wi : TI} {g : TG} {tb : TS} (q : tFor wi g tb ⟨s2 ⟨nx, rt, bk, ct⟩, rt, bk, ct⟩ σ H) : tSeq (tFor wi g tb) s2 ⟨nx, rt, bk, ct⟩ σ H := q
theorem r_hide {Q : VK} (q : te σ H fun v H1 => ∃ a xs Pd, H1 a = some (.lst xs) ∧ Pd xs ∧ ∀ H', But a H1 H' → H' a = some (hidL Pd a) → Q v H') : tHide te σ H Q := q
end
/-! ### loops -/
section
variable {K : PySem.W.Frag} {σ : L2.St} {H : Hp} {a : Addr} {xs : List V} {g : TG} {tb : TS} {nx : L2.St → Hp → Prop} {rt : VK}
theorem f_list (h : H a = some (.lst xs)) (Pv : Nat → L2.St → Hp → Prop) (h0 : Pv 0 σ H) (hl : ∀ i σ H, i ≤ xs.length → Pv i σ H → H a = some (.lst xs))
    (hs : ∀ i x σ H, xs[i]? = some x → Pv i σ H → g x σ H fun σ2 H2 => tb ⟨Pv (i + 1), rt, nx, Pv (i + 1)⟩ σ2 H2) (hd : ∀ σ H, Pv xs.length σ H → nx σ H) :
    ∃ a', V.ref a = .ref a' ∧ (∃ xs, SqL K H a' xs) ∧ ∃ W : Nat → Nat → L2.St → Hp → Prop, (∃ m, W 0 m σ H) ∧ ∀ i m σ H, W i m σ H →
      ((Itl K a').stop i H ∧ nx σ H) ∨ ((Itl K a').go i H ∧ ∃ N : L2.St → Hp → Prop, (∀ σ' H', N σ' H' → ∃ m', m' < m ∧ W (i + 1) m' σ' H') ∧ ∀ x H', (Itl K a').yld i H x H' → g x σ H' fun σ2 H2 => tb ⟨N, rt, nx, N⟩ σ2 H2) :=
  ⟨a, rfl, ⟨xs, SqL.of h⟩, for_list (K := K) (D := ⟨nx, rt, fun _ _ => False, fun _ _ => False⟩) Pv h0 (fun i σ H hi p => SqL.of (hl i σ H hi p)) hs hd⟩
theorem f_range1 {n : Int} (h0n : 0 ≤ n) (hn : n ≤ 1000000) (Pv : Nat → L2.St → Hp → Prop) (h0 : Pv 0 σ H)
    (hs : ∀ (i : Nat) σ H, (i : Int) < n → Pv i σ H → g (.int (i : Int)) σ H fun σ2 H2 => tb ⟨Pv (i + 1), rt, nx, Pv (i + 1)⟩ σ2 H2) (hd : ∀ σ H, Pv n.toNat σ H → nx σ H) :
    ∃ j : Int, [V.int n] = [.int j] ∧ -(2 ^ 62) ≤ j ∧ j < 2 ^ 62 ∧ ∃ W : Nat → Nat → L2.St → Hp → Prop, (∃ m, W 0 m σ H) ∧ ∀ i m σ H, W i m σ H →
      ((Itr 0 j.toNat).stop i H ∧ nx σ H) ∨ ((Itr 0 j.toNat).go i H ∧ ∃ N : L2.St → Hp → Prop, (∀ σ' H', N σ' H' → ∃ m', m' < m ∧ W (i + 1) m' σ' H') ∧ ∀ x H', (Itr 0 j.toNat).yld i H x H' → g x σ H' fun σ2 H2 => tb ⟨N, rt, nx, N⟩ σ2 H2) :=
  ⟨n, rfl, by omega, by omega, for_range (lo := 0) (n := n.toNat) (D := ⟨nx, rt, fun _ _ => False, fun _ _ => False⟩) Pv h0 (fun i σ' H' hi p => by
    have e0 : (0 : Int) + (i : Int) = (i : Int) := Int.zero_add _
    rw [e0]
    exact hs i σ' H' (by omega) p) hd⟩
end
/-! the for statement, opened -/
section
variable {σ : L2.St} {H : Hp} {g : TG} {tb : TS} {nx bk ct : L2.St → Hp → Prop} {rt : VK} {wi : TI}
theorem r_for (q : wi σ H fun J H1 => ∃ W : Nat → Nat → L2.St → Hp → Prop, (∃ m, W 0 m σ H1) ∧ ∀ i m σ H, W i m σ H →
  (J.stop i H ∧ nx σ H) ∨ (J.go i H ∧ ∃ N : L2.St → Hp → Prop, (∀ σ' H', N σ' H' → ∃ m', m' < m ∧ W (i + 1) m' σ' H') ∧ ∀ x H', J.yld i H x H' → g x σ H' fun σ2 H2 => tb ⟨N, rt, nx, N⟩ σ2 H2)) : tFor wi g tb ⟨nx, rt, bk, ct⟩ σ H := q
theorem r_gName {i : Nat} {v : V} {Q : L2.St → Hp → Prop} (q : Q (σ.set i (some v)) H) : gName i v σ H Q := q
theorem r_gTup {K : PySem.W.Frag} {n : Nat} {u : TGs} {a : Addr} {xs : List V} {Q : L2.St → Hp → Prop} (h : H a = some (.tup xs)) (hn : xs.length = n) (q : u xs σ H Q) : gTup K n u (.ref a) σ H Q := ⟨a, xs, rfl, SqT.of h, hn, q⟩
theorem r_gCons {t : TG} {u : TGs} {v : V} {r : List V} {Q : L2.St → Hp → Prop} (q : t v σ H fun σ' H' => u r σ' H' Q) : gCons t u (v :: r) σ H Q := ⟨v, r, rfl, q⟩
theorem r_gNil {Q : L2.St → Hp → Prop} (q : Q σ H) : gNil [] σ H Q := ⟨rfl, q⟩
theorem r_iList {K : PySem.W.Frag} {tl : TE} {R : It → Hp → Prop} (q : tl σ H fun x H1 => ∃ a, x = .ref a ∧ (∃ xs, SqL K H1 a xs) ∧ R (Itl K a) H1) : iList K tl σ H R := q
theorem r_iRng1 {ta : TA} {R : It → Hp → Prop} (q : ta σ H fun vs H1 => ∃ j : Int, vs = [.int j] ∧ -(2 ^ 62) ≤ j ∧ j < 2 ^ 62 ∧ R (Itr 0 j.toNat) H1) : iRng1 ta σ H R := q
end
end Z

/-! data: lists of ints, deep equality -/
namespace Z
open PySem PySem.Spec PyProof.Rows L2
theorem dpAll_ints {K : PySem.W.Frag} {H : Hp} : ∀ ns : List Int, DpAll K H (ns.map V.int) (ns.map PyData.int)
  | [] => .nil
  | n :: ns => .cons (.int n) (dpAll_ints ns)
theorem dp_ints {K : PySem.W.Frag} {H : Hp} {a : Addr} {ns : List Int} (h : H a = some (.lst (ns.map V.int))) : Dp K H (.ref a) (.list (ns.map PyData.int)) := .lst (SqL.of h) (dpAll_ints ns)
theorem dp_nil {K : PySem.W.Frag} {H : Hp} {a : Addr} (h : H a = some (.lst [])) : Dp K H (.ref a) (.list []) := .lst (SqL.of h) .nil
theorem can_ints : ∀ ns : List Int, PyData.canLayAll0 (ns.map PyData.int) = true
  | [] => rfl
  | n :: ns => by
    rw [List.map_cons, PyData.canLayAll0, can_ints ns]
    rfl
theorem depth_ints : ∀ ns : List Int, PyData.depthAll (ns.map PyData.int) = 0
  | [] => rfl
  | n :: ns => by
    rw [List.map_cons, PyData.depthAll, depth_ints ns]
    rfl
theorem shaped_ints (ns : List Int) : SeqAt.shaped (.list (ns.map PyData.int)) = true := by
  unfold SeqAt.shaped
  rw [show (PyData.list (ns.map PyData.int)).canLay0 = true from can_ints ns, show (PyData.list (ns.map PyData.int)).depth = 1 by
    show PyData.depthAll (ns.map PyData.int) + 1 = 1
    rw [depth_ints]]
  rfl
theorem eqvAll_ints : ∀ xs ys : List Int, PyData.eqvAll (xs.map PyData.int) (ys.map PyData.int) = decide (xs = ys)
  | [], [] => rfl
  | [], _ :: _ => rfl
  | _ :: _, [] => rfl
  | x :: xs, y :: ys => by
    rw [List.map_cons, List.map_cons, PyData.eqvAll, eqvAll_ints xs ys]
    show (x == y && decide (xs = ys)) = _
    by_cases e1 : x = y
    · subst e1
      by_cases e2 : xs = ys
      · subst e2; simp
      · simp [e2]
    · simp [e1]
theorem eqv_ints (xs ys : List Int) : PyData.eqv (.list (xs.map PyData.int)) (.list (ys.map PyData.int)) = decide (xs = ys) := by
  rw [PyData.eqv]
  exact eqvAll_ints xs ys
section
variable {K : PySem.W.Frag} {H : Hp} {Q : VK} {a b : Addr} {xs ys : List Int}
theorem r_eqLI (h1 : H a = some (.lst (xs.map V.int))) (h2 : H b = some (.lst (ys.map V.int))) (q : Q (.bl (decide (xs = ys))) H) : uEq K (.ref a) (.ref b) H Q :=
  r_eqD (dp_ints h1) (dp_ints h2) (shaped_ints xs) (shaped_ints ys) (by rw [eqv_ints]; exact q)
theorem r_neLI (h1 : H a = some (.lst (xs.map V.int))) (h2 : H b = some (.lst (ys.map V.int))) (q : Q (.bl (!decide (xs = ys))) H) : uNe K (.ref a) (.ref b) H Q :=
  r_neD (dp_ints h1) (dp_ints h2) (shaped_ints xs) (shaped_ints ys) (by rw [eqv_ints]; exact q)
theorem r_eqLI0 (h1 : H a = some (.lst (xs.map V.int))) (h2 : H b = some (.lst [])) (q : Q (.bl (decide (xs = []))) H) : uEq K (.ref a) (.ref b) H Q := r_eqLI (ys := []) h1 h2 q
theorem r_neLI0 (h1 : H a = some (.lst (xs.map V.int))) (h2 : H b = some (.lst [])) (q : Q (.bl (!decide (xs = []))) H) : uNe K (.ref a) (.ref b) H Q := r_neLI (ys := []) h1 h2 q
end
theorem cdiv_of {i j : Int} (h : 0 < j) (hb : j ≤ 10 ^ 59) : CDivW i j := wide_div (b := 200) h (by
  have e : (10 : Int) ^ 59 < 2 ^ 200 := by decide
  have e2 : ((2 : Nat) ^ 200 : Nat) = ((2 : Int) ^ 200).toNat := by decide
  omega) (by decide) (by decide)
end Z

/-! set(text), list(text), reversed(text), text.index -/
namespace Z
open PySem PySem.Spec PyProof.Rows L2
/-! ### the unlike ones of a list, in the order in which they come -/
def stepD {α : Type} [BEq α] (σ : List α) (v : α) : List α := if σ.any (· == v) then σ else σ ++ [v]
def dl (l : List Nat) : List Nat := l.foldl stepD []
def sing (c : Nat) : Str := ⟨#[c]⟩
theorem stepD_any {α : Type} [BEq α] [LawfulBEq α] [DecidableEq α] (σ : List α) (v k : α) : (stepD σ v).any (· == k) = (σ.any (· == k) || decide (k = v)) := by
  unfold stepD
  by_cases h : σ.any (· == v) = true
  · rw [if_pos h]
    by_cases e : k = v
    · subst e; rw [h]; simp
    · simp [e]
  · rw [if_neg h, List.any_append]
    by_cases e : k = v
    · subst e; simp
    · have hb : (v == k) = false := by simpa [beq_iff_eq] using (fun h' : v = k => e h'.symm)
      simp [hb, e]
theorem stepD_length {α : Type} [BEq α] (σ : List α) (v : α) : (stepD σ v).length = if σ.any (· == v) then σ.length else σ.length + 1 := by
  unfold stepD
  split <;> simp
theorem dl_snoc (l : List Nat) (c : Nat) : dl (l ++ [c]) = stepD (dl l) c := by
  unfold dl
  rw [List.foldl_append]
  rfl
theorem sing_inj {a b : Nat} (h : sing a = sing b) : a = b := by
  have := congrArg (fun z : Str => z.cps.toList) h
  simpa [sing] using this
theorem any_sing (l : List Nat) (c : Nat) : (l.map sing).any (· == sing c) = l.any (· == c) := by
  rw [List.any_map]
  induction l with
  | nil => rfl
  | cons a r ih =>
    rw [List.any_cons, List.any_cons, ih]
    congr 1
    by_cases e : a = c
    · subst e; simp
    · have h1 : (a == c) = false := by simpa using e
      have h2 : (sing a == sing c) = false := by simpa using fun z => e (sing_inj z)
      rw [h1]
      exact h2
theorem dl_sing (l : List Nat) (c : Nat) : (dl (l ++ [c])).map sing = stepD ((dl l).map sing) (sing c) := by
  rw [dl_snoc]
  unfold stepD
  rw [any_sing]
  split
  · rfl
  · rw [List.map_append]
    rfl
theorem stepD_mem {σ : List Nat} {v k : Nat} : k ∈ stepD σ v ↔ k ∈ σ ∨ k = v := by
  have h := stepD_any σ v k
  constructor
  · intro hk
    have : (stepD σ v).any (· == k) = true := List.any_eq_true.mpr ⟨k, hk, by simp⟩
    rw [h, Bool.or_eq_true] at this
    rcases this with this | this
    · obtain ⟨x, hx, e⟩ := List.any_eq_true.mp this
      have : x = k := by simpa using e
      exact .inl (this ▸ hx)
    · exact .inr (of_decide_eq_true this)
  · intro hk
    have : (stepD σ v).any (· == k) = true := by
      rw [h, Bool.or_eq_true]
      rcases hk with hk | hk
      · exact .inl (List.any_eq_true.mpr ⟨k, hk, by simp⟩)
      · exact .inr (decide_eq_true hk)
    obtain ⟨x, hx, e⟩ := List.any_eq_true.mp this
    have : x = k := by simpa using e
    exact this ▸ hx
theorem dl_le (l : List Nat) : (dl l).length ≤ l.length ∧ (∀ k, k ∈ dl l ↔ k ∈ l) ∧ ((dl l).length = l.length ↔ l.Nodup) := by
  have key : ∀ l r : List Nat, (r.foldl stepD l).length ≤ l.length + r.length ∧ (∀ k, k ∈ r.foldl stepD l ↔ k ∈ l ∨ k ∈ r) ∧ ((r.foldl stepD l).length = l.length + r.length ↔ (r.Nodup ∧ ∀ x ∈ r, x ∉ l)) := by
    intro l r
    induction r generalizing l with
    | nil =>
      refine ⟨Nat.le_refl _, fun k => ?_, ?_⟩
      · simp
      · simp
    | cons c r ih =>
      obtain ⟨i1, i2, i3⟩ := ih (stepD l c)
      have e := stepD_length l c
      rw [List.foldl_cons]
      have hc : l.any (· == c) = true ↔ c ∈ l := by
        rw [List.any_eq_true]
        constructor
        · rintro ⟨x, hx, e⟩
          have : x = c := by simpa using e
          exact this ▸ hx
        · intro h
          exact ⟨c, h, by simp⟩
      refine ⟨?_, fun k => ?_, ?_⟩
      · rw [List.length_cons]
        split at e <;> omega
      · rw [i2, stepD_mem, List.mem_cons]
        constructor
        · rintro ((h | h) | h)
          · exact .inl h
          · exact .inr (.inl h)
          · exact .inr (.inr h)
        · rintro (h | h | h)
          · exact .inl (.inl h)
          · exact .inl (.inr h)
          · exact .inr h
      · rw [List.length_cons, List.nodup_cons]
        by_cases h : c ∈ l
        · rw [if_pos (hc.mpr h)] at e
          constructor
          · intro z
            omega
          · rintro ⟨_, z⟩
            exact absurd h (z c List.mem_cons_self)
        · rw [if_neg (fun z => h (hc.mp z))] at e
          have e2 : (List.foldl stepD (stepD l c) r).length = l.length + (r.length + 1) ↔ (List.foldl stepD (stepD l c) r).length = (stepD l c).length + r.length := by
            rw [e]
            constructor <;> intro z <;> omega
          rw [e2, i3]
          constructor
          · rintro ⟨a, b⟩
            refine ⟨⟨fun z => ?_, a⟩, fun x hx => ?_⟩
            · exact b c z (stepD_mem.mpr (.inr rfl))
            · rcases List.mem_cons.mp hx with rfl | hx
              · exact h
              · exact fun z => b x hx (stepD_mem.mpr (.inl z))
          · rintro ⟨⟨a, b⟩, d⟩
            refine ⟨b, fun x hx z => ?_⟩
            rcases stepD_mem.mp z with z | z
            · exact d x (List.mem_cons_of_mem _ hx) z
            · exact a (z ▸ hx)
  have h := key [] l
  refine ⟨by have := h.1; simp at this; exact this, fun k => by rw [show dl l = l.foldl stepD [] from rfl, h.2.1]; simp, ?_⟩
  have h3 := h.2.2
  simp at h3
  exact h3
section
variable {prog : Program} {w : World} {A : Around} {R : Result → Shared → Prop} {I : Addr} {fp wr : List Addr} {G : Array GenState → Array GenState → Prop} {n : Nat} {P : Nat → Value → Prop} {St : Nat → Shared → Prop}
theorem set_loop (W : WalksS prog w A.in1 I fp wr G n P St) (S : Addr) (hSf : S ∉ fp) (l : List Nat) (hl : l.length = n)
    (hval : ∀ i v, P i v → ∃ t c, l[i]? = some c ∧ v = .str (sing c) t) (hb : n + 1 < scanBound) :
    ∀ (k i : Nat) (s : Shared), n - i = k → i ≤ n → St i s →
      s.heap.SetOf (strKind prog w) S (fun k' => ((dl (l.take i)).map sing).any (· == k')) ((dl (l.take i)).map sing).length →
      (∀ s', Moved (S :: wr) G s s' → s'.heap.SetOf (strKind prog w) S (fun k' => ((dl (l.take n)).map sing).any (· == k')) ((dl (l.take n)).map sing).length → R (.ok (.ret .none)) s') →
      codeAny (model prog w) A (.builtin "set.update.loop" ⟨[.ref S, .ref I], []⟩) R s := by
  have hSw : S ∉ wr := fun h => hSf (W.sub _ h)
  have hsub : ∀ b ∈ wr, b ∈ S :: wr := fun b hb => List.mem_cons_of_mem _ hb
  intro k
  induction k with
  | zero =>
    intro i s hk hi hst hS hR
    have hin : i = n := by omega
    subst hin
    refine codeAny_builtin F.entry_set_update_loop ?_
    rw [Around.under_plainId F.plain_set_update_loop _]
    show wpAny _ A.in1 (pyNext (.ref I) >>= _) _ _ s
    refine wpAny_bind (W.done s _ _ hst fun s' hm => ?_)
    show wpAny _ A.in1 (ret Value.none) _ _ s'
    exact wpAny_pure (hR s' (hm.mono hsub) (by
      obtain ⟨o, es, ep, t, ho, rest⟩ := hS
      exact ⟨o, es, ep, t, hm.heap S _ hSw ho, rest⟩))
  | succ k ih =>
    intro i s hk hi hst hS hR
    have hlt : i < n := by omega
    refine codeAny_builtin F.entry_set_update_loop ?_
    rw [Around.under_plainId F.plain_set_update_loop _]
    show wpAny _ A.in1 (pyNext (.ref I) >>= _) _ _ s
    refine wpAny_bind (W.item i s _ _ hlt hst fun v s' hP hst' hm => ?_)
    obtain ⟨t, c, hc, rfl⟩ := hval i v hP
    have hS' : s'.heap.SetOf (strKind prog w) S (fun k' => ((dl (l.take i)).map sing).any (· == k')) ((dl (l.take i)).map sing).length := by
      obtain ⟨o, es, ep, tb, ho, rest⟩ := hS
      exact ⟨o, es, ep, tb, hm.heap S _ hSw ho, rest⟩
    show wpAny _ A.in1 (holding [Value.str (sing c) t] (setAdd S (.str (sing c) t)) >>= _) _ _ s'
    refine wpAny_bind (wpAny_holding ?_)
    unfold setAdd
    refine wpAny_holding ?_
    refine wpAny_bind ((strKind prog w).pyHash (k := sing c) (strKind_is _ _ _ _) ?_)
    have hroom : ((dl (l.take i)).map sing).length + 1 < scanBound := by
      have h1 := (dl_le (l.take i)).1
      rw [List.length_take] at h1
      rw [List.length_map]
      omega
    refine wpAny_setAddHashed_of (knd := strKind prog w) (s := { s' with toks := s'.toks + 1 }) (strKind_is _ _ _ _) rfl hS' hroom fun h' hsb hS2 => ?_
    have et : (dl (l.take (i + 1))).map sing = stepD ((dl (l.take i)).map sing) (sing c) := by
      rw [List.take_add_one, hc]
      exact dl_sing _ _
    have hSi : h'.SetOf (strKind prog w) S (fun k' => ((dl (l.take (i + 1))).map sing).any (· == k')) ((dl (l.take (i + 1))).map sing).length :=
      SetOf_congr hS2 (fun k' => by rw [et, stepD_any]) (by rw [et, stepD_length])
    refine wpAny_pure ⟨plainId_quiet F.plain_set_update_loop _, ih (i + 1) _ (by omega) hlt (W.frame _ s' _ _ hst' (Nat.le_succ _) fun b hb o e => ?_) hSi fun s'' hm'' hS'' => ?_⟩
    · rw [hsb.2 b (fun h : b = S => hSf (by rw [← h]; exact hb))]; exact e
    · refine hR s'' (Moved.trans W.gtrans ((hm.mono hsub).then_heap (Nat.le_succ _) fun b o hb e => ?_) hm'') hS''
      rw [hsb.2 b (fun h : b = S => hb (by rw [h]; exact List.mem_cons_self))]; exact e
end
section
variable {prog : Program} {w : World} {A : Around} {E : Value → Shared → Prop} {s : Shared}
theorem call_set_text (x : Str) (t : Tok) {Q : Value → Shared → Prop} (hh : A.handled = none) (hb : x.cps.size + 1 < scanBound)
    (h : ∀ (h' : Heap) (tk : Nat), h'.SetOf (strKind prog w) s.heap.objs.size (fun k' => ((dl x.cps.toList).map sing).any (· == k')) ((dl x.cps.toList).map sing).length →
      (∀ b o, b < s.heap.objs.size → s.heap.get? b = some o → h'.get? b = some o) → Q (.ref s.heap.objs.size) { s with heap := h', toks := tk }) :
    wpAny (model prog w) A (call (.type "set") [.str x t]) Q E s := by
  obtain ⟨c, tl, hmro⟩ := PySem.F.called_set.mro
  have hmade := PySem.F.called_set.made
  have hsub := PySem.F.called_set.sub
  refine wpAny_call (codeAny_of_tree ?_)
  show wpAny _ _ (callAny (.type "set") _) _ _ _
  refine wpAny_pure ⟨Code.quiet_builtin _ (by decide +kernel), codeAny_builtin PySem.F.entry_type_call ?_⟩
  rw [Around.under_plain (weight_type_call_type "set" [.str x t] []) rfl]
  have h1 := PySem.F.called_set.notType
  have h2 := PySem.F.called_set.canCreate
  have hct := PySem.F.typeCall_set_1 (.str x t)
  repeat (any_goals (first | assumption | wp_step))
  refine codeAny_mono (code_set_new_1 (.str x t) (E := E) (Q₁ := fun obj s₁ => ∃ led : Bool, obj = .ref s.heap.objs.size ∧ s₁ = { s with heap := s.heap.push { cls := .type "set", dict := none, data := .set #[] 0 (.fresh 0 0 led) } }) fun led => ⟨led, rfl, rfl⟩) fun r s₁ hr => ?_
  cases r with
  | error e => exact hr
  | ok fl =>
    cases fl with
    | ret obj =>
      obtain ⟨led, rfl, rfl⟩ := hr
      have hS : (s.heap.push { cls := .type "set", dict := none, data := .set #[] 0 (.fresh 0 0 led) }).get? s.heap.objs.size = some { cls := .type "set", dict := none, data := .set #[] 0 (.fresh 0 0 led) } := Heap.get?_push_size _ rfl
      have hT : Shared.TypeIs { s with heap := s.heap.push { cls := .type "set", dict := none, data := .set #[] 0 (.fresh 0 0 led) } } (.ref s.heap.objs.size) "set" := ⟨_, hS, rfl⟩
      have hli := PySem.F.called_set.init.lookup
      have hbi := PySem.F.called_set.init.bind (.ref s.heap.objs.size)
      repeat (any_goals (first | assumption | wp_step))
      refine codeAny_mono (codeAny_call_builtin (R := wants (fun r s₂ => r = .none ∧ ∃ h' tk, s₂ = { s with heap := h', toks := tk } ∧
          h'.SetOf (strKind prog w) s.heap.objs.size (fun k' => ((dl x.cps.toList).map sing).any (· == k')) ((dl x.cps.toList).map sing).length ∧
          (∀ b o, b < s.heap.objs.size → s.heap.get? b = some o → h'.get? b = some o)) E) PySem.F.called_set.init.plain PySem.F.entry_set_init (check_set_init_1 hT ?_)) fun r₂ s₂ hr₂ => ?_
      · have hne : (Value.type "str" == Value.type "dict") = false := by decide
        have hsls : isSubtype (.type "str") (.type "set") = pure false := by rw [isSubtype_type]; kernel_rfl
        have hslf : isSubtype (.type "str") (.type "frozenset") = pure false := by rw [isSubtype_type]; kernel_rfl
        unfold Builtin.«set.__init__» noKeywords Builtin.Frozenset.updateFrom
        generalize hPI : pyIter = PI
        wp_walk
        subst hPI
        refine wpAny_pyIter_str fun o St W st0 => ?_
        refine wpAny_bind (wpAny_runValue ?_)
        have calm : A.in1.in1.in1.handled = none := by simp [hh]
        have sz : (s.heap.push { cls := .type "set", dict := none, data := .set #[] 0 (.fresh 0 0 led) }).objs.size = s.heap.objs.size + 1 := Heap.size_push _ _
        have apart : s.heap.objs.size ∉ [(s.heap.push { cls := .type "set", dict := none, data := .set #[] 0 (.fresh 0 0 led) }).objs.size] := by
          rw [sz]
          simp
        have all : x.cps.toList.take x.cps.size = x.cps.toList := List.take_of_length_le (by simp)
        have kept : ((s.heap.push { cls := .type "set", dict := none, data := .set #[] 0 (.fresh 0 0 led) }).push o).get? s.heap.objs.size = some { cls := .type "set", dict := none, data := .set #[] 0 (.fresh 0 0 led) } := Heap.get?_push_of_some _ hS
        refine set_loop ((W _ calm).toS) s.heap.objs.size apart x.cps.toList (by simp) (fun i v ⟨c, u, hc, e⟩ => ⟨u, c, by rw [Array.getElem?_toList]; exact hc, e⟩) hb x.cps.size 0 _ rfl (Nat.zero_le _) st0
          (SetOf_congr ((setObjOf_fresh (knd := strKind prog w) led).setOf kept (by unfold scanBound; omega)) (fun _ => rfl) rfl) fun s' m so => ?_
        rw [all] at so
        obtain ⟨h', g', d', tk', os'⟩ := s'
        obtain rfl : g' = s.gens := m.gens
        obtain rfl : d' = s.drawn := m.drawn
        obtain rfl : os' = s.os := m.os
        refine wpAny_pure (show wpAny _ _ (ret Value.none) _ _ _ from wpAny_pure ⟨rfl, h', tk', rfl, so, fun b u lb e => ?_⟩)
        refine m.heap b u (fun z => ?_) (Heap.get?_push_of_some _ (Heap.get?_push_of_some _ e))
        rcases List.mem_cons.mp z with z | z
        · exact Nat.ne_of_lt lb z
        · rw [List.mem_singleton, sz] at z
          exact absurd (z ▸ lb) (Nat.not_lt.mpr (Nat.le_succ _))
      · cases r₂ with
        | error e => exact hr₂
        | ok fl₂ =>
          cases fl₂ with
          | ret r =>
            obtain ⟨rfl, h', tk, rfl, hS', hk'⟩ := hr₂
            repeat (any_goals (first | assumption | wp_step))
            exact h _ _ hS' hk'
          | _ => exact hr₂.elim
    | _ => exact hr.elim
end

/-! ### as rules -/
section
variable {X : Cx}
def tLenSetS (ta : TE) : TE := fun σ H Q => ta σ H fun x H1 => ∃ z : Str, x = .str z ∧ z.length ≤ 4000 ∧ Q (.int (dl z.cps.toList).length) H1
theorem r_lenSetS {σ : L2.St} {H : Hp} {Q : VK} {ta : TE} (q : ta σ H fun x H1 => ∃ z : Str, x = .str z ∧ z.length ≤ 4000 ∧ Q (.int (dl z.cps.toList).length) H1) : tLenSetS ta σ H Q := q
theorem pe_lenSetS {a : Expr} {ta : TE} {p p2 q pos : Pos} (hg : Gl X "len") (hm : X.mg "len" = none) (hg2 : Gl X "set") (hm2 : X.mg "set" = none) (ha : PE X a ta) (hc : X.calm = true := by rfl)
    (na : starEach [a] X.env = (false, eval a X.env) :: starEach [] X.env := by rfl) : PE X (.Call (.Name "len" p) [.Call (.Name "set" p2) [a] [] q] [] pos) (tLenSetS ta) := by
  refine ⟨fun pins s σ H Q I h => ?_⟩
  refine Call_ (ld_blt I hg hm boot_len ?_)
  refine PyProof.Rows.callWith_builtin1 (PyProof.Rows.args_cons ?_ rfl) rfl rfl
  refine Call_ (ld_blt I hg2 hm2 boot_set ?_)
  refine PyProof.Rows.callWith_type1 (PyProof.Rows.args_cons (thn (ha.run pins s σ H _ I h) fun v s1 ⟨x, H1, I1, r1, q1⟩ => PyProof.Rows.args_nil ?_) na) na rfl
  obtain ⟨z, rfl, h1, q1⟩ := q1
  obtain ⟨t, rfl⟩ := r1
  refine call_set_text z t (I1.ok.hd hc) (by have e : z.cps.size ≤ 4000 := h1; unfold scanBound; omega) fun h' tk hS hk => ?_
  refine PyProof.Rows.args_nil ?_
  obtain ⟨o, es, ep, t, ho, hex, hd, _, _, hb, hf, hn⟩ := hS
  have I2 : Inv X pins σ H1 { s1 with heap := h', toks := tk } := I1.kept fun b o e => hk b o (Heap.lt_size e) e
  rw [List.length_map] at hn
  have hl : (dl z.cps.toList).length ≤ 4000 := Nat.le_trans (dl_le _).1 (by rw [Array.length_toList]; exact h1)
  refine call_len_set ho hex hd hf (by rw [hn]; omega) ⟨.int (dl z.cps.toList).length, H1, I2.tok _, ⟨_, by rw [hn]⟩, q1⟩
def bListS : List V → Hp → VK → Prop := fun xs H Q => ∃ z : Str, xs = [.str z] ∧ z.length ≤ 100000 ∧ NewL H (z.cps.toList.map fun c => V.str (sing c)) Q
theorem vals_of_get : ∀ (xs : List V) (us : List Value), xs.length = us.length → (∀ (i : Nat) x u, xs[i]? = some x → us[i]? = some u → RelV x u) → Vals xs us
  | [], [], _, _ => .nil
  | [], _ :: _, h, _ => by cases h
  | _ :: _, [], h, _ => by cases h
  | x :: xs, u :: us, h, k => .cons (k 0 x u rfl rfl) (vals_of_get xs us (Nat.succ.inj h) fun i y v hy hv => k (i + 1) y v (by simpa using hy) (by simpa using hv))
theorem vals_signs {x : Str} {acc : Array Value} (h : ItemsOf (SignAt x) acc x.cps.size) : Vals (x.cps.toList.map fun c => V.str (sing c)) acc.toList := by
  refine vals_of_get _ _ (by rw [List.length_map, Array.length_toList, Array.length_toList, h.1]) fun i v u hv hu => ?_
  rw [Array.getElem?_toList] at hu
  obtain ⟨c, t, hc, rfl⟩ := h.2 i u hu
  rw [List.getElem?_map, Array.getElem?_toList, hc] at hv
  cases hv
  exact ⟨t, rfl⟩
theorem cr_listS (hc : X.calm = true := by rfl) : CallR X (.type "list") bListS := by
  intro pins s σ H xs us Q I r h
  obtain ⟨z, rfl, hl, q⟩ := h
  obtain ⟨u, e0, r0⟩ := vals1 r
  subst e0
  obtain ⟨t0, e1⟩ := (show ∃ t, u = Value.str z t from r0)
  subst e1
  refine call_list_str (I.ok.hd hc) z t0 (fun h' tk acc' c' k e hi => ?_) (le_size hl)
  have v := vals_signs hi
  have n := I.hok.fresh (Nat.le_refl s.heap.objs.size)
  have lz : (z.cps.toList.map fun c => V.str (sing c)).length ≤ sizeLine := by
    rw [List.length_map, Array.length_toList]
    exact le_size hl
  exact ⟨.ref s.heap.objs.size, upd H s.heap.objs.size (.lst (z.cps.toList.map fun c => V.str (sing c))), I.laid (t' := tk) k (Nat.le_refl _) ⟨lz, acc'.toList, c', v, by simpa using e⟩, rfl, q _ _ n (same_new n) upd_same⟩
end
end Z

/-! comprehensions whose turns leave all that stood; more walks -/
namespace Z
open PySem PySem.Spec PyProof.Rows L2
section
variable {K : PySem.W.Frag} {σ : L2.St} {H : Hp} {Q : VK} {g : TG} {tt : TT} {te : TE} {vs : List Nat} {Qd : Addr → Hp → Prop}
/-- one turn: x at place i; L: the list so far -/
def Turn1 (σ : L2.St) (g : TG) (tt : TT) (te : TE) (vs : List Nat) (L : Nat → List V) (i : Nat) (x : V) (H0 H1 : Hp) : Prop :=
  ∀ (Ky : VK) (Kn : Hp → Prop), (∀ y H4, Same H0 H4 → L (i + 1) = L i ++ [y] → Ky y H4) → (∀ H3, Same H0 H3 → L (i + 1) = L i → Kn H3) →
    g x (wipe σ vs) H1 fun σ2 H2 => wipe σ2 vs = wipe σ vs ∧ tt σ2 H2 fun b H3 => if b = true then te σ2 H3 Ky else Kn H3
theorem lc_any (J : It) (n : Nat) (L : Nat → List V) (hn : n ≤ 100000) (h0 : L 0 = []) (hl : ∀ i, (L i).length ≤ i) (go : ∀ i H', i < n → Same H H' → J.go i H') (stop : ∀ H', Same H H' → J.stop n H')
    (turn : ∀ i x H' H1, i < n → Same H H' → J.yld i H' x H1 → Turn1 σ g tt te vs L i x H' H1) (q : ∀ p H', H p = none → Same H H' → H' p = some (.lst (L n)) → Qd p H') :
    ∀ D, H D = none → ∃ W : Nat → Nat → Hp → Prop, (∃ m, W 0 m (upd H D (.lst []))) ∧ ∀ i m H, W i m H →
      (J.stop i H ∧ Qd D H) ∨ (J.go i H ∧ ∃ Nx : Hp → Prop, (∀ H', Nx H' → ∃ m', m' < m ∧ W (i + 1) m' H') ∧ ∀ x H', J.yld i H x H' → g x (wipe σ vs) H' fun σ2 H2 => wipe σ2 vs = wipe σ vs ∧ tt σ2 H2 fun b H3 =>
        if b = true then te σ2 H3 fun y H4 => ∃ acc, H4 D = some (.lst acc) ∧ acc.length < sizeLine ∧ Nx (upd H4 D (.lst (acc ++ [y]))) else Nx H3) := by
  intro D hD
  refine ⟨fun i m H' => i + m = n ∧ Same H H' ∧ H' D = some (.lst (L i)), ⟨n, Nat.zero_add n, same_new hD, by rw [h0]; exact upd_same⟩, ?_⟩
  rintro i m H' ⟨em, s, e⟩
  by_cases hi : i < n
  · refine .inr ⟨go i H' hi s, fun H'' => i + 1 + (m - 1) = n ∧ Same H H'' ∧ H'' D = some (.lst (L (i + 1))), fun H'' z => ⟨m - 1, by omega, z⟩, fun x H1 hy => ?_⟩
    refine turn i x H' H1 hi s hy _ _ (fun y H4 s4 e4 => ⟨L i, s4 _ _ e, lt_size (by have := hl i; omega), by omega, ?_, ?_⟩) (fun H3 s3 e3 => ⟨by omega, s.trans s3, by rw [e3]; exact s3 _ _ e⟩)
    · exact (but_upd (o := .lst (L i ++ [y]))).same (s.trans s4) hD
    · rw [e4]
      exact upd_same
  · have ei : i = n := by omega
    subst ei
    exact .inl ⟨stop H' s, q D H' hD s e⟩
theorem c_str {z : Str} (L : Nat → List V) (hz : z.length ≤ 100000) (h0 : L 0 = []) (hl : ∀ i, (L i).length ≤ i)
    (turn : ∀ (i c : Nat) H', z.cps.toList[i]? = some c → Same H H' → Turn1 σ g tt te vs L i (.str (sing c)) H' H') (q : ∀ p H', H p = none → Same H H' → H' p = some (.lst (L z.length)) → Qd p H') :
    ∃ x, V.str z = .str x ∧ ∀ D, H D = none → ∃ W : Nat → Nat → Hp → Prop, (∃ m, W 0 m (upd H D (.lst []))) ∧ ∀ i m H, W i m H →
      ((Its x).stop i H ∧ Qd D H) ∨ ((Its x).go i H ∧ ∃ Nx : Hp → Prop, (∀ H', Nx H' → ∃ m', m' < m ∧ W (i + 1) m' H') ∧ ∀ x_1 H', (Its x).yld i H x_1 H' → g x_1 (wipe σ vs) H' fun σ2 H2 => wipe σ2 vs = wipe σ vs ∧ tt σ2 H2 fun b H3 =>
        if b = true then te σ2 H3 fun y H4 => ∃ acc, H4 D = some (.lst acc) ∧ acc.length < sizeLine ∧ Nx (upd H4 D (.lst (acc ++ [y]))) else Nx H3) :=
  ⟨z, rfl, lc_any (Its z) z.length L hz h0 hl (fun i _ hi _ => hi) (fun _ _ => Nat.le_refl _) (fun i x H' H1 hi s ⟨e1, c, hc, e2⟩ => by
    subst e1 e2
    exact turn i c H1 (by rw [Array.getElem?_toList]; exact hc) s) q⟩
theorem c_list {a : Addr} {xs : List V} (L : Nat → List V) (ha : H a = some (.lst xs)) (hz : xs.length ≤ 100000) (h0 : L 0 = []) (hl : ∀ i, (L i).length ≤ i)
    (turn : ∀ i x H', xs[i]? = some x → Same H H' → Turn1 σ g tt te vs L i x H' H') (q : ∀ p H', H p = none → Same H H' → H' p = some (.lst (L xs.length)) → Qd p H') :
    ∃ a', V.ref a = .ref a' ∧ (∃ xs, SqL K H a' xs) ∧ ∀ D, H D = none → ∃ W : Nat → Nat → Hp → Prop, (∃ m, W 0 m (upd H D (.lst []))) ∧ ∀ i m H, W i m H →
      ((Itl K a').stop i H ∧ Qd D H) ∨ ((Itl K a').go i H ∧ ∃ Nx : Hp → Prop, (∀ H', Nx H' → ∃ m', m' < m ∧ W (i + 1) m' H') ∧ ∀ x_1 H', (Itl K a').yld i H x_1 H' → g x_1 (wipe σ vs) H' fun σ2 H2 => wipe σ2 vs = wipe σ vs ∧ tt σ2 H2 fun b H3 =>
        if b = true then te σ2 H3 fun y H4 => ∃ acc, H4 D = some (.lst acc) ∧ acc.length < sizeLine ∧ Nx (upd H4 D (.lst (acc ++ [y]))) else Nx H3) :=
  ⟨a, rfl, ⟨xs, SqL.of ha⟩, lc_any (Itl K a) xs.length L hz h0 hl (fun i H' hi s => ⟨xs, xs[i], SqL.of (s _ _ ha), List.getElem?_eq_getElem hi⟩) (fun H' s => ⟨xs, SqL.of (s _ _ ha), Nat.le_refl _⟩) (fun i x H' H1 hi s ⟨e1, f⟩ => by
    subst e1
    exact turn i x H1 (f xs (SqL.of (s _ _ ha))) s) q⟩
theorem c_range1 {n : Int} (L : Nat → List V) (h0n : 0 ≤ n) (hz : n ≤ 100000) (h0 : L 0 = []) (hl : ∀ i, (L i).length ≤ i)
    (turn : ∀ (i : Nat) H', (i : Int) < n → Same H H' → Turn1 σ g tt te vs L i (.int (i : Int)) H' H') (q : ∀ p H', H p = none → Same H H' → H' p = some (.lst (L n.toNat)) → Qd p H') :
    ∃ j : Int, [V.int n] = [.int j] ∧ -(2 ^ 62) ≤ j ∧ j < 2 ^ 62 ∧ ∀ D, H D = none → ∃ W : Nat → Nat → Hp → Prop, (∃ m, W 0 m (upd H D (.lst []))) ∧ ∀ i m H, W i m H →
      ((Itr 0 j.toNat).stop i H ∧ Qd D H) ∨ ((Itr 0 j.toNat).go i H ∧ ∃ Nx : Hp → Prop, (∀ H', Nx H' → ∃ m', m' < m ∧ W (i + 1) m' H') ∧ ∀ x_1 H', (Itr 0 j.toNat).yld i H x_1 H' → g x_1 (wipe σ vs) H' fun σ2 H2 => wipe σ2 vs = wipe σ vs ∧ tt σ2 H2 fun b H3 =>
        if b = true then te σ2 H3 fun y H4 => ∃ acc, H4 D = some (.lst acc) ∧ acc.length < sizeLine ∧ Nx (upd H4 D (.lst (acc ++ [y]))) else Nx H3) :=
  ⟨n, rfl, by omega, by omega, lc_any (Itr 0 n.toNat) n.toNat L (by omega) h0 hl (fun i _ hi _ => hi) (fun _ _ => Nat.le_refl _) (fun i x H' H1 hi s ⟨e1, e2⟩ => by
    subst e1 e2
    rw [Int.zero_add]
    exact turn i H1 (by omega) s) q⟩
theorem r_lc {wi : TI} (q : wi σ H fun J H1 => ∀ D, H1 D = none → ∃ W : Nat → Nat → Hp → Prop, (∃ m, W 0 m (upd H1 D (.lst []))) ∧ ∀ i m H, W i m H →
  (J.stop i H ∧ Q (.ref D) H) ∨ (J.go i H ∧ ∃ Nx : Hp → Prop, (∀ H', Nx H' → ∃ m', m' < m ∧ W (i + 1) m' H') ∧ ∀ x H', J.yld i H x H' → g x (wipe σ vs) H' fun σ2 H2 => wipe σ2 vs = wipe σ vs ∧ tt σ2 H2 fun b H3 =>
    if b = true then te σ2 H3 fun y H4 => ∃ acc, H4 D = some (.lst acc) ∧ acc.length < sizeLine ∧ Nx (upd H4 D (.lst (acc ++ [y]))) else Nx H3)) : tLc wi g tt te vs σ H Q := q
theorem r_iStr {R : It → Hp → Prop} (q : te σ H fun v H1 => ∃ x, v = .str x ∧ R (Its x) H1) : iStr te σ H R := q
end
section
variable {K : PySem.W.Frag} {σ : L2.St} {H : Hp} {g : TG} {tb : TS} {nx : L2.St → Hp → Prop} {rt : VK}
theorem f_str {z : Str} (Pv : Nat → L2.St → Hp → Prop) (h0 : Pv 0 σ H)
    (hs : ∀ (i c : Nat) σ H, z.cps.toList[i]? = some c → Pv i σ H → g (.str (sing c)) σ H fun σ2 H2 => tb ⟨Pv (i + 1), rt, nx, Pv (i + 1)⟩ σ2 H2) (hd : ∀ σ H, Pv z.length σ H → nx σ H) :
    ∃ x, V.str z = .str x ∧ ∃ W : Nat → Nat → L2.St → Hp → Prop, (∃ m, W 0 m σ H) ∧ ∀ i m σ H, W i m σ H →
      ((Its x).stop i H ∧ nx σ H) ∨ ((Its x).go i H ∧ ∃ N : L2.St → Hp → Prop, (∀ σ' H', N σ' H' → ∃ m', m' < m ∧ W (i + 1) m' σ' H') ∧ ∀ x_1 H', (Its x).yld i H x_1 H' → g x_1 σ H' fun σ2 H2 => tb ⟨N, rt, nx, N⟩ σ2 H2) := by
  refine ⟨z, rfl, fun i m σ H => i + m = z.length ∧ Pv i σ H, ⟨z.length, Nat.zero_add _, h0⟩, ?_⟩
  rintro i m σ H ⟨em, p⟩
  by_cases hi : i < z.length
  · refine .inr ⟨hi, Pv (i + 1), fun σ' H' p' => ⟨m - 1, by omega, by omega, p'⟩, ?_⟩
    rintro x H' ⟨rfl, c, hc, rfl⟩
    exact hs i c σ H' (by rw [Array.getElem?_toList]; exact hc) p
  · have ei : i = z.length := by omega
    subst ei
    exact .inl ⟨Nat.le_refl _, hd σ H p⟩
/-- for i, x in enumerate(xs) -/
theorem f_enum {a : Addr} {xs : List V} (h : H a = some (.lst xs)) (Pv : Nat → L2.St → Hp → Prop) (h0 : Pv 0 σ H) (hl : ∀ i σ H, i ≤ xs.length → Pv i σ H → H a = some (.lst xs))
    (hs : ∀ i x σ H T H', xs[i]? = some x → Pv i σ H → H T = none → Same H H' → H' T = some (.tup [.int (i : Nat), x]) → g (.ref T) σ H' fun σ2 H2 => tb ⟨Pv (i + 1), rt, nx, Pv (i + 1)⟩ σ2 H2) (hd : ∀ σ H, Pv xs.length σ H → nx σ H) :
    ∃ (a' : Addr) (xs' : List V), [V.ref a] = [.ref a'] ∧ SqL K H a' xs' ∧ ∃ W : Nat → Nat → L2.St → Hp → Prop, (∃ m, W 0 m σ H) ∧ ∀ i m σ H, W i m σ H →
      ((Ite K a').stop i H ∧ nx σ H) ∨ ((Ite K a').go i H ∧ ∃ N : L2.St → Hp → Prop, (∀ σ' H', N σ' H' → ∃ m', m' < m ∧ W (i + 1) m' σ' H') ∧ ∀ x_1 H', (Ite K a').yld i H x_1 H' → g x_1 σ H' fun σ2 H2 => tb ⟨N, rt, nx, N⟩ σ2 H2) := by
  refine ⟨a, xs, rfl, SqL.of h, fun i m σ H => i + m = xs.length ∧ Pv i σ H, ⟨xs.length, Nat.zero_add _, h0⟩, ?_⟩
  rintro i m σ H ⟨em, p⟩
  by_cases hi : i < xs.length
  · have ha := hl i σ H (by omega) p
    refine .inr ⟨⟨xs, xs[i], SqL.of ha, List.getElem?_eq_getElem hi⟩, Pv (i + 1), fun σ' H' p' => ⟨m - 1, by omega, by omega, p'⟩, ?_⟩
    rintro x H' ⟨T, y, rfl, hT, rfl, f⟩
    exact hs i y σ H T _ (f xs (SqL.of ha)) p hT (same_new hT) upd_same
  · have ei : i = xs.length := by omega
    subst ei
    exact .inl ⟨⟨xs, SqL.of (hl _ σ H (Nat.le_refl _) p), Nat.le_refl _⟩, hd σ H p⟩
theorem r_iEnum {ta : TA} {R : It → Hp → Prop} (q : ta σ H fun vs H1 => ∃ a xs, vs = [.ref a] ∧ SqL K H1 a xs ∧ R (Ite K a) H1) : iEnum K ta σ H R := q
end
/-! ### a list that is read: the script too -/
section
variable {K : PySem.W.Frag} {σ : L2.St} {H : Hp} {Q : VK} {a : Addr} {xs : List V} {g : TG} {tb : TS} {nx : L2.St → Hp → Prop} {rt : VK}
theorem f_listQ (h : SqL K H a xs) (Pv : Nat → L2.St → Hp → Prop) (h0 : Pv 0 σ H) (hl : ∀ i σ H, i ≤ xs.length → Pv i σ H → SqL K H a xs)
    (hs : ∀ i x σ H, xs[i]? = some x → Pv i σ H → g x σ H fun σ2 H2 => tb ⟨Pv (i + 1), rt, nx, Pv (i + 1)⟩ σ2 H2) (hd : ∀ σ H, Pv xs.length σ H → nx σ H) :
    ∃ a', V.ref a = .ref a' ∧ (∃ xs, SqL K H a' xs) ∧ ∃ W : Nat → Nat → L2.St → Hp → Prop, (∃ m, W 0 m σ H) ∧ ∀ i m σ H, W i m σ H →
      ((Itl K a').stop i H ∧ nx σ H) ∨ ((Itl K a').go i H ∧ ∃ N : L2.St → Hp → Prop, (∀ σ' H', N σ' H' → ∃ m', m' < m ∧ W (i + 1) m' σ' H') ∧ ∀ x H', (Itl K a').yld i H x H' → g x σ H' fun σ2 H2 => tb ⟨N, rt, nx, N⟩ σ2 H2) :=
  ⟨a, rfl, ⟨xs, h⟩, for_list (K := K) (D := ⟨nx, rt, fun _ _ => False, fun _ _ => False⟩) Pv h0 hl hs hd⟩
theorem r_lenQ (h : SqL K H a xs) (q : Q (.int xs.length) H) : bLen K [.ref a] H Q := ⟨_, _, rfl, .inl ⟨_, h, rfl⟩, q⟩
theorem r_listQ (h : SqL K H a xs) (q : NewL H xs Q) : bListN K [.ref a] H Q := ⟨a, xs, rfl, .inl h, q⟩
end
/-! ### a comprehension by an invariant of one's own -/
section
variable {σ : L2.St} {H : Hp} {g : TG} {tt : TT} {te : TE} {vs : List Nat} {Qd : Addr → Hp → Prop}
theorem c_range1G {n : Int} (h0n : 0 ≤ n) (hz : n ≤ 100000) (Pv : Addr → Nat → Hp → Prop) (h0 : ∀ D H', H D = none → Same H H' → H' D = some (.lst []) → Pv D 0 H')
    (hs : ∀ D (i : Nat) H', (i : Int) < n → H D = none → Pv D i H' → g (.int (i : Int)) (wipe σ vs) H' fun σ2 H2 => wipe σ2 vs = wipe σ vs ∧ tt σ2 H2 fun b H3 =>
      if b = true then te σ2 H3 fun y H4 => ∃ acc, H4 D = some (.lst acc) ∧ acc.length < sizeLine ∧ Pv D (i + 1) (upd H4 D (.lst (acc ++ [y]))) else Pv D (i + 1) H3)
    (hd : ∀ D H', H D = none → Pv D n.toNat H' → Qd D H') :
    ∃ j : Int, [V.int n] = [.int j] ∧ -(2 ^ 62) ≤ j ∧ j < 2 ^ 62 ∧ ∀ D, H D = none → ∃ W : Nat → Nat → Hp → Prop, (∃ m, W 0 m (upd H D (.lst []))) ∧ ∀ i m H, W i m H →
      ((Itr 0 j.toNat).stop i H ∧ Qd D H) ∨ ((Itr 0 j.toNat).go i H ∧ ∃ Nx : Hp → Prop, (∀ H', Nx H' → ∃ m', m' < m ∧ W (i + 1) m' H') ∧ ∀ x_1 H', (Itr 0 j.toNat).yld i H x_1 H' → g x_1 (wipe σ vs) H' fun σ2 H2 => wipe σ2 vs = wipe σ vs ∧ tt σ2 H2 fun b H3 =>
        if b = true then te σ2 H3 fun y H4 => ∃ acc, H4 D = some (.lst acc) ∧ acc.length < sizeLine ∧ Nx (upd H4 D (.lst (acc ++ [y]))) else Nx H3) :=
  ⟨n, rfl, by omega, by omega, fun D hD => lc_range (lo := 0) (n := n.toNat) (Pv D) (h0 D _ hD (same_new hD) upd_same) (fun i H' hi p => by
    rw [Int.zero_add]
    exact hs D i H' (by omega) hD p) fun H' p => hd D H' hD p⟩
end
end Z

/-! for x in reversed(text); text.index(sign); xs.insert(i, y); while -/
namespace Z
open PySem PySem.Spec PyProof.Rows L2
theorem norev_str : typeLookup (.type "str") "__reversed__" = pure none := by rw [typeLookup_type, builtinLookup_eq_fast]; kernel_rfl
theorem get_str : typeLookup (.type "str") "__getitem__" = pure (some (.builtin "str.__getitem__")) := by rw [typeLookup_type, builtinLookup_eq_fast]; kernel_rfl
def rsObj (x : Str) (t : Tok) (i : Int) : Obj := { cls := .type "reversed", data := .fields #[.str x t, rawInt i] }
/-- reversed(x), the next place i -/
def IsRs (h : Heap) (a : Addr) (x : Str) (t : Tok) (i : Int) : Prop := ∃ o, h.get? a = some o ∧ o.cls = .type "reversed" ∧ o.data = .fields #[.str x t, rawInt i]
theorem IsRs.at {h h' : Heap} {a : Addr} {x : Str} {t : Tok} {i : Int} (y : IsRs h a x t i) (e : ∀ o, h.get? a = some o → h'.get? a = some o) : IsRs h' a x t i := let ⟨o, ho, r⟩ := y; ⟨o, e _ ho, r⟩
section
variable {prog : Program} {w : World} {A : Around} {E : Value → Shared → Prop} {s : Shared}
theorem IsRs.typeIs {a : Addr} {x : Str} {t : Tok} {i : Int} (y : IsRs s.heap a x t i) : s.TypeIs (.ref a) "reversed" := let ⟨o, ho, hc, _⟩ := y; ⟨o, ho, hc⟩
theorem code_reversed_str {x : Str} {t : Tok} {Q₁ : Value → Shared → Prop}
    (hlen : ∀ (A : Around) (E : Value → Shared → Prop) (Q : Value → Shared → Prop), Q (.int x.length (s.toks + 1)) { s with toks := s.toks + 1 + 1 } → wpAny (model prog w) A (call (.builtin "len") [.str x t]) Q E s)
    (h : Q₁ (.ref s.heap.objs.size) { s with heap := s.heap.push (rsObj x t ((x.length : Int) - 1)), toks := s.toks + 1 + 1 }) :
    codeAny (model prog w) A (.call (.builtin "reversed.__new__") ⟨[.type "reversed", .str x t], []⟩) (wants Q₁ E) s := by
  have hT : s.TypeIs (.str x t) "str" := typeIs_str s x t
  refine codeAny_of_tree ?_
  show wpAny _ A.in1 (do checkBuiltinCall "reversed.__new__" ⟨[.type "reversed", .str x t], []⟩; again (.builtin "reversed.__new__" ⟨[.type "reversed", .str x t], []⟩)) _ _ s
  refine wpAny_bind (wpAny_of_eq (F.newCall_reversed_1 _) (wpAny_pure ⟨plainId_quiet F.plain_reversed_new _, codeAny_builtin F.entry_reversed_new ?_⟩))
  rw [Around.under_plainId F.plain_reversed_new _]
  unfold Builtin.«reversed.__new__»
  refine wpAny_bind (wpAny_of_eq (newClass_reversed _) ?_)
  try dsimp only
  refine wpAny_bind (wpAny_of_eq (a := ()) (by first | rfl | kernel_rfl) ?_)
  try dsimp only
  refine wpAny_bind (wpAny_of_eq (a := ()) (by first | rfl | kernel_rfl) ?_)
  try dsimp only
  refine wpAny_bind (wpAny_specialOf hT norev_str ?_)
  try dsimp only
  refine wpAny_bind ?_
  wp_delta
  refine wpAny_bind (wpAny_isInstance (T := "str") (U := "dict") (b := false) hT PySem.F.sub_str_dict ?_)
  try dsimp only
  try rw [if_neg Bool.false_ne_true]
  try dsimp only
  refine wpAny_bind (wpAny_specialOf hT get_str ?_)
  try dsimp only
  try rw [if_pos (by decide +kernel)]
  refine wpAny_pure ?_
  try dsimp only
  try rw [if_neg (by decide)]
  try dsimp only
  refine wpAny_bind (hlen _ _ _ ?_)
  refine wpAny_bind (wpAny_of_eq (a := some ((x.length : Nat) : Int)) rfl ?_)
  try dsimp only
  refine wpAny_bind ?_
  show wpAny _ _ (newObj (.type "reversed") (.fields #[.str x t, rawInt ((x.length : Int) - 1)])) _ _ _
  refine wpAny_newObj_type ?_
  exact wpAny_pure h
theorem call_reversed_str {x : Str} {t : Tok} {Q : Value → Shared → Prop}
    (hlen : ∀ (A : Around) (E : Value → Shared → Prop) (Q : Value → Shared → Prop), Q (.int x.length (s.toks + 1)) { s with toks := s.toks + 1 + 1 } → wpAny (model prog w) A (call (.builtin "len") [.str x t]) Q E s)
    (h : Q (.ref s.heap.objs.size) { s with heap := s.heap.push (rsObj x t ((x.length : Int) - 1)), toks := s.toks + 1 + 1 }) : wpAny (model prog w) A (call (.type "reversed") [.str x t]) Q E s := by
  refine callType_codes (Q₁ := fun obj s₁ => s₁.TypeIs obj "reversed" ∧ Q obj s₁) RT.called_rt (F.typeCall_reversed_1 _) F.entry_object_init
    (code_reversed_str (A := A.in1) hlen ⟨⟨_, Heap.get?_push_size _ rfl, rfl⟩, h⟩) fun obj s₁ h₁ => ?_
  exact ⟨h₁.1, F.args_object_init_2 obj _, object_init_meets RT.called_rt.init.lookup RT.called_rt.made (by decide) prog w A.in1 _ s₁ ⟨h₁.1, rfl, h₁.2⟩⟩
theorem next_rs_item {it : Addr} {x : Str} {t : Tok} {i : Nat} {c : Nat} {Q : Option Value → Shared → Prop} (hit : IsRs s.heap it x t (i : Int)) (hx : x.cps[i]? = some c) (hsz : x.length ≤ sizeLine)
    (hQ : ∀ h', IsRs h' it x t ((i : Int) - 1) → Heap.SameBut it s.heap h' → Q (some (.str ⟨#[c]⟩ (s.toks + 1))) { s with heap := h', toks := s.toks + 1 + 1 }) : wpAny (model prog w) A (pyNext (.ref it)) Q E s := by
  obtain ⟨o, ho, hc, hd⟩ := id hit
  have hi : i < x.cps.size := (Array.getElem?_eq_some_iff.mp hx).1
  have hT : s.TypeIs (.str x t) "str" := typeIs_str s x t
  rw [sizeLine_eq] at hsz
  have hs2 : x.length = x.cps.size := rfl
  unfold pyNext
  refine wpAny_bind (wpAny_attempt (wpAny_callSpecial?_slot (name := Str.ofString "__next__") hit.typeIs RT.slot_rt_next
    (wpAny_call_entry RT.slot_rt_next hit.typeIs RT.entry_rt_next ?_ (RT.args_rt_next _))))
  unfold Builtin.«reversed.__next__»
  refine wpAny_bind (wpAny_of_eq (a := (Value.ref it, [])) rfl ?_)
  try dsimp only
  refine wpAny_bind (wpAny_field ho hd (x := .str x t) rfl ?_)
  try dsimp only
  refine wpAny_bind (wpAny_field ho hd (x := rawInt (i : Int)) rfl ?_)
  show wpAny _ _ (if (i : Int) < 0 then _ else _) _ _ s
  rw [if_neg (by omega)]
  try dsimp only
  refine wpAny_bind (wpAny_specialOf hT get_str ?_)
  try dsimp only
  try rw [if_neg (by decide)]
  try dsimp only
  refine wpAny_bind (wpAny_mkInt ?_)
  refine wpAny_bind (wpAny_attempt ?_)
  have fin : seqIndex? (i : Int) x.length = some i := seqIndex_of (by omega) (by omega)
  refine PyProof.Rows.getItem_str (s := { s with toks := s.toks + 1 }) (by rw [decide_eq_false (by omega), decide_eq_false (by omega)]; rfl) (by rw [fin]; exact hx) ?_
  try dsimp only
  refine wpAny_bind (wpAny_field (s := { s with toks := s.toks + 1 + 1 }) ho hd (x := rawInt (i : Int)) rfl ?_)
  try dsimp only
  refine wpAny_bind (wpAny_setField (s := { s with toks := s.toks + 1 + 1 }) ho hd (by simp) ?_)
  first
  | refine wpAny_pure ⟨_, rfl, wpAny_pure (hQ _ ?_ (Heap.SameBut.update ..))⟩
  | refine wpAny_bind (wpAny_pure (wpAny_pure ⟨_, rfl, wpAny_pure (hQ _ ?_ (Heap.SameBut.update ..))⟩))
  exact ⟨_, Heap.get?_update_self _ ho (Obj.isFreed_of_fields (Obj.data_mapFields hd _)), (Obj.cls_mapFields ..).trans hc, by
    rw [Obj.data_mapFields hd]; simp⟩
theorem next_rs_end {it : Addr} {x : Str} {t : Tok} {Q : Option Value → Shared → Prop} (hh : A.handled = none) (hit : IsRs s.heap it x t (-1))
    (hQ : ∀ h', Heap.ExtBut it s.heap h' → Q none { s with heap := h' }) : wpAny (model prog w) A (pyNext (.ref it)) Q E s := by
  obtain ⟨o, ho, hc, hd⟩ := id hit
  unfold pyNext
  refine wpAny_bind (wpAny_attempt (wpAny_callSpecial?_slot (name := Str.ofString "__next__") hit.typeIs RT.slot_rt_next
    (wpAny_call_entry RT.slot_rt_next hit.typeIs RT.entry_rt_next ?_ (RT.args_rt_next _))))
  unfold Builtin.«reversed.__next__»
  refine wpAny_bind (wpAny_of_eq (a := (Value.ref it, [])) rfl ?_)
  try dsimp only
  refine wpAny_bind (wpAny_field ho hd (x := .str x t) rfl ?_)
  try dsimp only
  refine wpAny_bind (wpAny_field ho hd (x := rawInt (-1)) rfl ?_)
  show wpAny _ _ (if (-1 : Int) < 0 then _ else _) _ _ s
  rw [if_pos (by decide)]
  try dsimp only
  refine wpAny_bind (wpAny_rule ?_)
  refine wpAny_bind ?_
  wp_delta
  refine wpAny_bind (wpAny_setField ho hd (by simp) ?_)
  have ho2 := Heap.get?_update_self (Obj.mapFields (·.setIfInBounds 1 (rawInt (-1)))) ho (Obj.isFreed_of_fields (Obj.data_mapFields hd _))
  refine wpAny_setField (s := { s with heap := s.heap.update it (Obj.mapFields (·.setIfInBounds 1 (rawInt (-1)))) }) ho2 (Obj.data_mapFields hd _) (by simp) ?_
  try dsimp only
  first
  | show wpAny _ _ (newExc (.type "StopIteration") [] >>= _) _ _ _
  | (refine wpAny_bind ?_; show wpAny _ _ (newExc (.type "StopIteration") [] >>= _) _ _ _)
  | (refine wpAny_bind ?_; wp_delta; show wpAny _ _ (newExc (.type "StopIteration") [] >>= _) _ _ _)
  refine wpAny_bind ?_
  simp only [newExc, newTuple]
  refine wpAny_bind (wpAny_newObj_type ?_ (by size_fits))
  refine wpAny_bind (m := firstArgMember _ _) (wpAny_of_eq (a := Value.none) (by first | rfl | (simp only [firstArgMember]; rfl)) ?_)
  refine wpAny_newObj_type ?_ (by size_fits)
  simp only [raiseNew]
  refine wpAny_bind (wpAny_handled ?_)
  first | rw [show A.in1.handled = none from hh] | rw [hh]
  refine wpAny_bind (wpAny_pure (wpAny_throw ?_))
  refine wpAny_bind (wpAny_isInstance (T := "StopIteration") (b := true) ⟨_, Heap.get?_push_size _ rfl, rfl⟩ isSubtype_stop ?_)
  refine wpAny_pure (hQ _ ?_)
  refine ((?_ : Heap.ExtBut it s.heap _).push _).push _
  exact fun b ob hb e => (Heap.get?_update_other _ _ (Ne.symm hb)).trans ((Heap.get?_update_other _ _ (Ne.symm hb)).trans e)
theorem iter_rs {it : Addr} {x : Str} {t : Tok} {i : Int} {Q : Value → Shared → Prop} (hit : IsRs s.heap it x t i) (h : Q (.ref it) s) : wpAny (model prog w) A (pyIter (.ref it)) Q E s := by
  refine wpAny_pyIter_slot hit.typeIs RT.slot_rt_iter (wpAny_call_entry RT.slot_rt_iter hit.typeIs RT.entry_rt_iter ?_ (RT.args_rt_iter _))
  show wpAny _ _ (ret (.ref it)) _ _ s
  exact wpAny_pure ⟨_, rfl, "reversed", _, hit.typeIs, RT.slot_rt_next.lookup, h⟩
end
/-! ### as a rule -/
def Itrs (x : Str) : It := ⟨fun i _ => i < x.cps.size, fun i H v H' => H' = H ∧ ∃ c, x.cps[x.cps.size - 1 - i]? = some c ∧ v = .str ⟨#[c]⟩, fun i _ => x.cps.size ≤ i⟩
theorem turn_rs {P : Program} {w : World} {K : PySem.W.Frag} {tg : Expr} (it : Addr) (x : Str) (t : Tok) (hz : x.length ≤ sizeLine) :
    Turn P w K tg (Itrs x) [it] it (fun i h => i ≤ x.cps.size ∧ IsRs h it x t ((x.cps.size : Int) - 1 - (i : Nat))) where
  mem := by simp
  obj := fun i h st b hb => by
    have e : b = it := by simpa using hb
    subst e
    obtain ⟨_, o, e, c, d⟩ := st
    exact ⟨o, e, fun v z => by rw [d] at z; cases z⟩
  keep := fun i h h' st k => ⟨st.1, st.2.at fun o e => k it (by simp) o e⟩
  item := by
    intro X hP hw hK hc i pins s σ H E I hf st hg
    subst hP hw hK
    have hin : i < x.cps.size := hg
    obtain ⟨f0, f1, f2, f3, f4, f5⟩ := hf it (by simp)
    obtain ⟨_, hit⟩ := st
    have e1 : (x.cps.size : Int) - 1 - ((i : Nat) : Int) = ((x.cps.size - 1 - i : Nat) : Int) := by omega
    rw [e1] at hit
    obtain ⟨c, hx⟩ : ∃ c, x.cps[x.cps.size - 1 - i]? = some c := ⟨_, Array.getElem?_eq_getElem (by omega)⟩
    refine next_rs_item hit hx hz fun h' st' sb => ?_
    have e2 : ((x.cps.size - 1 - i : Nat) : Int) - 1 = (x.cps.size : Int) - 1 - ((i + 1 : Nat) : Int) := by omega
    rw [e2] at st'
    have I1 : Inv X pins σ H { s with heap := h', toks := s.toks + 1 + 1 } := I.turned (t' := s.toks + 1 + 1) (fun b o hb e => (sb.2 b hb).trans e) f0 f1 f3 f4 f5
    obtain ⟨o, e, cc, d⟩ := id st'
    exact ⟨_, rfl, go_of (s := { s with heap := h', toks := s.toks + 1 + 1 }) e cc d (by decide) ⟨.str ⟨#[c]⟩, H, I1, ⟨_, rfl⟩, ⟨rfl, c, hx, rfl⟩, ⟨hin, st'⟩, fun b hb => (hf b hb).1⟩⟩
  done := by
    intro X hP hw hK hc i pins s σ H E I hf st hg
    subst hP hw hK
    obtain ⟨f0, f1, f2, f3, f4, f5⟩ := hf it (by simp)
    obtain ⟨hin, hit⟩ := st
    have hge : x.cps.size ≤ i := hg
    have e1 : (x.cps.size : Int) - 1 - ((i : Nat) : Int) = -1 := by omega
    rw [e1] at hit
    exact next_rs_end (I.ok.hd hc) hit fun h' eb => ⟨rfl, I.turned (t' := s.toks) (fun b o hb e => eb b o hb e) f0 f1 f3 f4 f5⟩
  self := fun A i s Q E st h => iter_rs st.2 h
def iRevS (ta : TA) : TI := fun σ H R => ta σ H fun vs H1 => ∃ x, vs = [.str x] ∧ x.length ≤ 100000 ∧ R (Itrs x) H1
section
variable {X : Cx} {tg : Expr}
theorem pi_revS {e : Expr} {ta : TA} {p pos : Pos} (hg : Gl X "reversed") (hm : X.mg "reversed" = none) (ha : PA X [e] ta) (hs : starEach [e] X.env = [(false, eval e X.env)] := by rfl) : PI X tg (.Call (.Name "reversed" p) [e] [] pos) (iRevS ta) := by
  refine ⟨fun pins s σ H R I h => ?_⟩
  refine Call_ (ld_blt I hg hm PyProof.Rows.boot_reversed (PyProof.Rows.callWith_type1 (thn (ha.run pos pins s σ H _ I h) fun us s1 ⟨vs, H1, I1, r1, q1⟩ => ?_) hs rfl))
  obtain ⟨x, e, hz, q⟩ := q1
  subst e
  cases r1 with
  | cons r rr =>
    cases rr
    obtain ⟨t, rfl⟩ := r
    have hn := line63
    have hz' : x.length ≤ sizeLine := le_size hz
    have e1 : ((x.length : Nat) : Int) - 1 = (x.cps.size : Int) - 1 - ((0 : Nat) : Int) := by show ((x.cps.size : Nat) : Int) - 1 = _; omega
    refine call_reversed_str (fun A E Q k => PyProof.Rows.len_str (by omega) k) (iter_rs (i := ((x.length : Nat) : Int) - 1) ⟨_, Heap.get?_push_size _ rfl, rfl, rfl⟩ ?_)
    refine pi_one (tk := s1.toks + 1 + 1) I1 _ (turn_rs _ x t hz') ⟨Nat.zero_le _, ?_⟩ q
    rw [← e1]
    exact ⟨_, Heap.get?_push_size _ rfl, rfl, rfl⟩
end
section
variable {σ : L2.St} {H : Hp} {g : TG} {tb : TS} {nx : L2.St → Hp → Prop} {rt : VK}
theorem r_iRevS {ta : TA} {R : It → Hp → Prop} (q : ta σ H fun vs H1 => ∃ x, vs = [.str x] ∧ x.length ≤ 100000 ∧ R (Itrs x) H1) : iRevS ta σ H R := q
/-- Pv i: the last i signs are done -/
theorem f_revS {z : Str} (hz : z.length ≤ 100000) (Pv : Nat → L2.St → Hp → Prop) (h0 : Pv 0 σ H)
    (hs : ∀ (i c : Nat) σ H, i < z.length → z.cps.toList[z.length - 1 - i]? = some c → Pv i σ H → g (.str (sing c)) σ H fun σ2 H2 => tb ⟨Pv (i + 1), rt, nx, Pv (i + 1)⟩ σ2 H2) (hd : ∀ σ H, Pv z.length σ H → nx σ H) :
    ∃ x, [V.str z] = [V.str x] ∧ x.length ≤ 100000 ∧ ∃ W : Nat → Nat → L2.St → Hp → Prop, (∃ m, W 0 m σ H) ∧ ∀ i m σ H, W i m σ H →
      ((Itrs x).stop i H ∧ nx σ H) ∨ ((Itrs x).go i H ∧ ∃ N : L2.St → Hp → Prop, (∀ σ' H', N σ' H' → ∃ m', m' < m ∧ W (i + 1) m' σ' H') ∧ ∀ x_1 H', (Itrs x).yld i H x_1 H' → g x_1 σ H' fun σ2 H2 => tb ⟨N, rt, nx, N⟩ σ2 H2) := by
  refine ⟨z, rfl, hz, fun i m σ H => i + m = z.length ∧ Pv i σ H, ⟨z.length, Nat.zero_add _, h0⟩, ?_⟩
  rintro i m σ H ⟨em, p⟩
  by_cases hi : i < z.length
  · refine .inr ⟨hi, Pv (i + 1), fun σ' H' p' => ⟨m - 1, by omega, by omega, p'⟩, ?_⟩
    rintro x H' ⟨rfl, c, hc, rfl⟩
    exact hs i c σ H' hi (by rw [Array.getElem?_toList]; exact hc) p
  · have ei : i = z.length := by omega
    subst ei
    exact .inl ⟨Nat.le_refl _, hd σ H p⟩
/-- while: Pv m, m what is left -/
theorem r_while {tc : TT} {D : Ends} (Pv : Nat → L2.St → Hp → Prop) (m : Nat) (h0 : Pv m σ H)
    (hs : ∀ m σ H, Pv m σ H → tc σ H fun b H1 => if b = true then ∃ N : L2.St → Hp → Prop, (∀ σ' H', N σ' H' → ∃ m', m' < m ∧ Pv m' σ' H') ∧ tb { D with nx := N, ct := N, bk := D.nx } σ H1 else D.nx σ H1) : tWhile tc tb D σ H :=
  ⟨Pv, ⟨m, h0⟩, hs⟩
end
/-! ### enumerate(text) -/
def Ites (x : Str) : It :=
  ⟨fun i _ => i < x.cps.size, fun i H v H' => ∃ T c, v = .ref T ∧ H T = none ∧ H' = upd H T (.tup [.int (i : Nat), .str ⟨#[c]⟩]) ∧ x.cps[i]? = some c, fun i _ => x.cps.size ≤ i⟩
theorem turn_enumS {P : Program} {w : World} {K : PySem.W.Frag} {elts : List Expr} {kk : Nat} {tpos : Pos} (x : Str) (t : Tok) (e it : Addr) (ty : String) (hty : ty = "str_ascii_iterator" ∨ ty = "str_iterator") :
    Turn P w K (.Tuple elts kk tpos) (Ites x) [e, it] e (fun i h => (∃ old, IsEnum h e it ((i : Nat) : Int) old) ∧ (h.IsStrIter it ty x t i ∧ i ≤ x.cps.size) ∧ e ≠ it) where
  mem := by simp
  obj := fun i h st b hb => by
    obtain ⟨⟨old, he⟩, ⟨⟨o, ho, hc, hd⟩, _⟩, _⟩ := st
    have e' : b = e ∨ b = it := by simpa using hb
    rcases e' with z | z
    · rw [z]; exact ⟨_, he, fun v q => nomatch q⟩
    · rw [z]; exact ⟨o, ho, fun v q => by rw [hd] at q; cases q⟩
  keep := fun i h h' st k => by
    obtain ⟨⟨old, he⟩, ⟨⟨o, ho, r⟩, hl⟩, hne⟩ := st
    exact ⟨⟨old, k e (by simp) _ he⟩, ⟨⟨o, k it (by simp) o ho, r⟩, hl⟩, hne⟩
  item := by
    intro X hP hw hK hc i pins s σ H E I hf st hg
    subst hP hw hK
    obtain ⟨⟨old, he⟩, ⟨hit, _⟩, hne⟩ := st
    have hin : i < x.cps.size := hg
    have D : Draws X.prog X.w X.A.in1 it [it] x.cps.size (SignAt x) (fun i h => h.IsStrIter it ty x t i) := by
      rcases hty with z | z
      · rw [z]; exact Draws.strAscii (show X.A.in1.handled = none from I.ok.hd hc) it x t
      · rw [z]; exact Draws.strWide (show X.A.in1.handled = none from I.ok.hd hc) it x t
    have hel : e < s.heap.objs.size := Heap.lt_size he
    have hil : it < s.heap.objs.size := by obtain ⟨_, q, _⟩ := hit; exact Heap.lt_size q
    refine wpAny_pyNext_enum_itemD D he hit hin hne (by simpa using hne) fun u h' tk hP ho hit' hT hsz hk => ?_
    obtain ⟨c, t2, hcx, rfl⟩ := hP
    refine ⟨_, rfl, wpAny_letOwnedTupleGo_enum (s := { s with heap := h', toks := tk + 1 }) ho fun h'' he' sb => ?_⟩
    have hT2 : h''.get? s.heap.objs.size = some { cls := .type "tuple", data := .seq #[.int i tk, .str ⟨#[c]⟩ t2] } := (sb.2 _ (Nat.ne_of_gt hel)).trans hT
    have new : ObjOk X.prog X.w (upd H s.heap.objs.size (.tup [.int (i : Nat), .str ⟨#[c]⟩])) h'' s.heap.objs.size (.tup [.int (i : Nat), .str ⟨#[c]⟩]) :=
      ⟨by show 2 ≤ sizeLine; decide, [.int i tk, .str ⟨#[c]⟩ t2], .cons ⟨_, rfl⟩ (.cons ⟨_, rfl⟩ .nil), ⟨_, hT2, rfl, _, rfl⟩⟩
    have I1 : Inv X pins σ (upd H s.heap.objs.size (.tup [.int (i : Nat), .str ⟨#[c]⟩])) { s with heap := h'', toks := tk + 1 } :=
      I.turnedNew (ch := [e, it]) (fun b ob hb q => (sb.2 b (fun z => hb (by simp [z]))).trans (hk b ob (fun z => hb (by simp [z])) (fun z => hb (by simp [z])) q)) hf (Nat.le_refl _) new
    have hit2 : h''.IsStrIter it ty x t (i + 1) := by
      obtain ⟨o, q, r⟩ := hit'
      exact ⟨o, (sb.2 it (Ne.symm hne)).trans q, r⟩
    refine ⟨.ref s.heap.objs.size, _, I1, rfl, ⟨_, c, rfl, I.hok.fresh (Nat.le_refl _), rfl, hcx⟩, ⟨⟨.str ⟨#[c]⟩ t2, ?_⟩, ⟨hit2, hin⟩, hne⟩, fun b hb => ?_⟩
    · have e1 : ((i + 1 : Nat) : Int) = (i : Int) + 1 := by omega
      rw [e1]; exact he'
    · have hb' : b < s.heap.objs.size := by
        have e' : b = e ∨ b = it := by simpa using hb
        rcases e' with z | z
        · rw [z]; exact hel
        · rw [z]; exact hil
      rw [upd_ne (Nat.ne_of_lt hb')]
      exact (hf b hb).1
  done := by
    intro X hP hw hK hc i pins s σ H E I hf st hg
    subst hP hw hK
    obtain ⟨⟨old, he⟩, ⟨hit, hle⟩, hne⟩ := st
    have D : Draws X.prog X.w X.A.in1 it [it] x.cps.size (SignAt x) (fun i h => h.IsStrIter it ty x t i) := by
      rcases hty with z | z
      · rw [z]; exact Draws.strAscii (show X.A.in1.handled = none from I.ok.hd hc) it x t
      · rw [z]; exact Draws.strWide (show X.A.in1.handled = none from I.ok.hd hc) it x t
    obtain ⟨f0, f1, f2, f3, f4, f5⟩ := hf it (by simp)
    have ei : i = x.cps.size := Nat.le_antisymm hle hg
    subst ei
    exact wpAny_pyNext_enum_endD D he hit fun h' eb => ⟨rfl, I.turned (t' := s.toks) (fun b o hb q => eb b o hb q) f0 f1 f3 f4 f5⟩
  self := fun A i s Q E st h => let ⟨⟨_, he⟩, _⟩ := st; wpAny_pyIter_enum he h
def iEnumS (ta : TA) : TI := fun σ H R => ta σ H fun vs H1 => ∃ x, vs = [.str x] ∧ R (Ites x) H1
theorem pi_enumS {X : Cx} {e : Expr} {ta : TA} {p pos tpos : Pos} {elts : List Expr} {kk : Nat} (hg : Gl X "enumerate") (hm : X.mg "enumerate" = none) (ha : PA X [e] ta) (hs : starEach [e] X.env = [(false, eval e X.env)] := by rfl) :
    PI X (.Tuple elts kk tpos) (.Call (.Name "enumerate" p) [e] [] pos) (iEnumS ta) := by
  refine ⟨fun pins s σ H R I h => ?_⟩
  refine Call_ (ld_blt I hg hm boot_enumerate (PyProof.Rows.callWith_type1 (thn (ha.run pos pins s σ H _ I h) fun us s1 ⟨vs, H1, I1, r1, q1⟩ => ?_) hs rfl))
  obtain ⟨x, ex, q⟩ := q1
  subst ex
  cases r1 with
  | cons r rr =>
    cases rr
    obtain ⟨t, rfl⟩ := r
    refine call_enumerate_str fun h' he hit hsz hk => wpAny_pyIter_enum he ?_
    have I2 : Inv X pins σ H1 { s1 with heap := h' } := I1.kept (t' := s1.toks) hk
    have hty : strIterType x = "str_ascii_iterator" ∨ strIterType x = "str_iterator" := by
      unfold strIterType
      split
      · exact .inl rfl
      · exact .inr rfl
    refine ⟨s1.heap.objs.size + 1, [s1.heap.objs.size + 1, s1.heap.objs.size], _, _, H1, rfl, I2, turn_enumS x t (s1.heap.objs.size + 1) s1.heap.objs.size _ hty, ⟨⟨.none, he⟩, ⟨hit, Nat.zero_le _⟩, Nat.succ_ne_self _⟩, fun b hb => ?_, q⟩
    have e' : b = s1.heap.objs.size + 1 ∨ b = s1.heap.objs.size := by simpa using hb
    have hle : s1.heap.objs.size ≤ b := by
      rcases e' with z | z
      · rw [z]; exact Nat.le_add_right _ _
      · rw [z]; exact Nat.le_refl _
    exact I1.fpOk hle (I1.hok.fresh hle)
section
variable {σ : L2.St} {H : Hp} {g : TG} {tb : TS} {nx : L2.St → Hp → Prop} {rt : VK}
theorem r_iEnumS {ta : TA} {R : It → Hp → Prop} (q : ta σ H fun vs H1 => ∃ x, vs = [.str x] ∧ R (Ites x) H1) : iEnumS ta σ H R := q
theorem f_enumS {z : Str} (Pv : Nat → L2.St → Hp → Prop) (h0 : Pv 0 σ H)
    (hs : ∀ (i c : Nat) σ H T H', z.cps.toList[i]? = some c → Pv i σ H → H T = none → Same H H' → H' T = some (.tup [.int (i : Nat), .str (sing c)]) → g (.ref T) σ H' fun σ2 H2 => tb ⟨Pv (i + 1), rt, nx, Pv (i + 1)⟩ σ2 H2) (hd : ∀ σ H, Pv z.length σ H → nx σ H) :
    ∃ x, [V.str z] = [V.str x] ∧ ∃ W : Nat → Nat → L2.St → Hp → Prop, (∃ m, W 0 m σ H) ∧ ∀ i m σ H, W i m σ H →
      ((Ites x).stop i H ∧ nx σ H) ∨ ((Ites x).go i H ∧ ∃ N : L2.St → Hp → Prop, (∀ σ' H', N σ' H' → ∃ m', m' < m ∧ W (i + 1) m' σ' H') ∧ ∀ x_1 H', (Ites x).yld i H x_1 H' → g x_1 σ H' fun σ2 H2 => tb ⟨N, rt, nx, N⟩ σ2 H2) := by
  refine ⟨z, rfl, fun i m σ H => i + m = z.length ∧ Pv i σ H, ⟨z.length, Nat.zero_add _, h0⟩, ?_⟩
  rintro i m σ H ⟨em, p⟩
  by_cases hi : i < z.length
  · refine .inr ⟨hi, Pv (i + 1), fun σ' H' p' => ⟨m - 1, by omega, by omega, p'⟩, ?_⟩
    rintro x H' ⟨T, c, rfl, hT, rfl, hc⟩
    exact hs i c σ H T _ (by rw [Array.getElem?_toList]; exact hc) p hT (same_new hT) upd_same
  · have ei : i = z.length := by omega
    subst ei
    exact .inl ⟨Nat.le_refl _, hd σ H p⟩
end
/-! ### comprehensions that lay new objects -/
section
variable {K : PySem.W.Frag} {σ : L2.St} {H : Hp} {g : TG} {tt : TT} {te : TE} {vs : List Nat} {Qd : Addr → Hp → Prop}
theorem c_listE {a : Addr} {xs : List V} (ha : H a = some (.lst xs)) (hz : xs.length ≤ 100000) (Pe : Addr → Hp → Nat → V → Prop) (mono : ∀ D H H' i y, But D H H' → Pe D H i y → Pe D H' i y)
    (turn : ∀ D acc i x H', xs[i]? = some x → H D = none → Same H H' → H' D = some (.lst acc) → ∀ (Ky : VK) (Kn : Hp → Prop), (∀ y H4, Same H' H4 → Pe D H4 i y → Ky y H4) →
      g x (wipe σ vs) H' fun σ2 H2 => wipe σ2 vs = wipe σ vs ∧ tt σ2 H2 fun b H3 => if b = true then te σ2 H3 Ky else Kn H3)
    (q : ∀ p ys H', H p = none → Same H H' → H' p = some (.lst ys) → ys.length = xs.length → (∀ i y, ys[i]? = some y → Pe p H' i y) → Qd p H') :
    ∃ a', V.ref a = .ref a' ∧ (∃ xs, SqL K H a' xs) ∧ ∀ D, H D = none → ∃ W : Nat → Nat → Hp → Prop, (∃ m, W 0 m (upd H D (.lst []))) ∧ ∀ i m H, W i m H →
      ((Itl K a').stop i H ∧ Qd D H) ∨ ((Itl K a').go i H ∧ ∃ Nx : Hp → Prop, (∀ H', Nx H' → ∃ m', m' < m ∧ W (i + 1) m' H') ∧ ∀ x_1 H', (Itl K a').yld i H x_1 H' → g x_1 (wipe σ vs) H' fun σ2 H2 => wipe σ2 vs = wipe σ vs ∧ tt σ2 H2 fun b H3 =>
        if b = true then te σ2 H3 fun y H4 => ∃ acc, H4 D = some (.lst acc) ∧ acc.length < sizeLine ∧ Nx (upd H4 D (.lst (acc ++ [y]))) else Nx H3) := by
  refine ⟨a, rfl, ⟨xs, SqL.of ha⟩, fun D hD => ?_⟩
  refine lc_list (K := K) (xs := xs) (fun i H' => ∃ acc, Same H H' ∧ H' D = some (.lst acc) ∧ acc.length = i ∧ ∀ j y, acc[j]? = some y → Pe D H' j y) ⟨[], same_new hD, upd_same, rfl, fun j y h => by simp at h⟩ (fun i H' _ ⟨acc, s, _⟩ => SqL.of (s _ _ ha)) (fun i x H' hx ⟨acc, s, e, el, pe⟩ => ?_) (fun H' ⟨acc, s, e, el, pe⟩ => q D acc H' hD s e el pe)
  have hi : i < xs.length := (List.getElem?_eq_some_iff.mp hx).1
  refine turn D acc i x H' hx hD s e _ _ fun y H4 s4 p4 => ?_
  have b4 : But D H4 (upd H4 D (.lst (acc ++ [y]))) := but_upd
  refine ⟨acc, s4 _ _ e, lt_size (by omega), acc ++ [y], b4.same (s.trans s4) hD, upd_same, by rw [List.length_append, el]; rfl, fun j z hz => ?_⟩
  by_cases hj : j < acc.length
  · rw [List.getElem?_append_left hj] at hz
    exact mono _ _ _ _ _ b4 (mono _ _ _ _ _ (fun b o _ e => s4 b o e) (pe j z hz))
  · have hj2 : j = acc.length := by
      have := (List.getElem?_eq_some_iff.mp hz).1
      rw [List.length_append, List.length_singleton] at this
      omega
    subst hj2
    rw [List.getElem?_append_right (Nat.le_refl _), Nat.sub_self] at hz
    have : y = z := by simpa using hz
    subst this
    rw [el]
    exact mono _ _ _ _ _ b4 p4
end
/-! ### for x in reversed(list) -/
section
variable {K : PySem.W.Frag} {σ : L2.St} {H : Hp} {g : TG} {tb : TS} {nx : L2.St → Hp → Prop} {rt : VK}
theorem r_iRev {ta : TA} {R : It → Hp → Prop} (q : ta σ H fun vs H1 => ∃ (a : Addr) (xs : List V), vs = [.ref a] ∧ SqL K H1 a xs ∧ R (Itv K a xs.length) H1) : iRev K ta σ H R := q
theorem f_rev {a : Addr} {xs : List V} (h : H a = some (.lst xs)) (Pv : Nat → L2.St → Hp → Prop) (h0 : Pv 0 σ H) (hl : ∀ i σ H, i ≤ xs.length → Pv i σ H → H a = some (.lst xs))
    (hs : ∀ i x σ H, i < xs.length → xs[xs.length - 1 - i]? = some x → Pv i σ H → g x σ H fun σ2 H2 => tb ⟨Pv (i + 1), rt, nx, Pv (i + 1)⟩ σ2 H2) (hd : ∀ σ H, Pv xs.length σ H → nx σ H) :
    ∃ (a' : Addr) (xs' : List V), [V.ref a] = [.ref a'] ∧ SqL K H a' xs' ∧ ∃ W : Nat → Nat → L2.St → Hp → Prop, (∃ m, W 0 m σ H) ∧ ∀ i m σ H, W i m σ H →
      ((Itv K a' xs'.length).stop i H ∧ nx σ H) ∨ ((Itv K a' xs'.length).go i H ∧ ∃ N : L2.St → Hp → Prop, (∀ σ' H', N σ' H' → ∃ m', m' < m ∧ W (i + 1) m' σ' H') ∧ ∀ x_1 H', (Itv K a' xs'.length).yld i H x_1 H' → g x_1 σ H' fun σ2 H2 => tb ⟨N, rt, nx, N⟩ σ2 H2) := by
  refine ⟨a, xs, rfl, SqL.of h, fun i m σ H => i + m = xs.length ∧ Pv i σ H, ⟨xs.length, Nat.zero_add _, h0⟩, ?_⟩
  rintro i m σ H ⟨em, p⟩
  by_cases hi : i < xs.length
  · have ha := hl i σ H (by omega) p
    refine .inr ⟨⟨hi, xs, xs[xs.length - 1 - i]'(by omega), SqL.of ha, List.getElem?_eq_getElem _⟩, Pv (i + 1), fun σ' H' p' => ⟨m - 1, by omega, by omega, p'⟩, ?_⟩
    rintro x H' ⟨rfl, f⟩
    exact hs i x σ H' hi (f xs (SqL.of ha)) p
  · have ei : i = xs.length := by omega
    subst ei
    exact .inl ⟨Nat.le_refl _, hd σ H p⟩
end
/-! ### a block cut in two -/
section
variable {X : Cx}
def tMid (t u : TS) : TS := fun D σ H => ∃ Mid : L2.St → Hp → Prop, t { D with nx := Mid } σ H ∧ ∀ σ' H', Mid σ' H' → u D σ' H'
theorem r_mid {t u : TS} {D : Ends} {σ : L2.St} {H : Hp} (Mid : L2.St → Hp → Prop) (h1 : t { D with nx := Mid } σ H) (h2 : ∀ σ' H', Mid σ' H' → u D σ' H') : tMid t u D σ H := ⟨Mid, h1, h2⟩
theorem pss_mid {st : Stmt} {rest : List Stmt} {t u : TS} (h1 : PS X st t) (h2 : PSs X rest u) : PSs X (st :: rest) (tMid t u) := by
  refine ⟨fun pins s σ H D I h => ?_⟩
  obtain ⟨Mid, hm, hu⟩ := h
  refine wpAny_execs_cons (thn (h1.run pins s σ H { D with nx := Mid } I hm) fun f s1 q => ?_)
  cases f with
  | next =>
    obtain ⟨σ', H', I', q⟩ := q
    exact h2.run pins s1 σ' H' D I' (hu σ' H' q)
  | ret v => exact q
  | brk => exact q
  | cont => exact q
end
/-! ### insert, index -/
def mInsert : V → List V → Hp → VK → Prop := fun x vs H Q => ∃ (l : Addr) (xs : List V) (i : Int) (y : V), x = .ref l ∧ vs = [.int i, y] ∧ H l = some (.lst xs) ∧ xs.length < sizeLine ∧ 0 ≤ i ∧ i < 2 ^ 63 ∧
    ∀ H', But l H H' → H' l = some (.lst (xs.take i.toNat ++ [y] ++ xs.drop i.toNat)) → Q .non H'
theorem mt_insertN {X : Cx} : MtR X "list.insert" mInsert := mtr_imp mt_insert fun x vs H Q ⟨l, xs, i, y, h1, h2, h3, h4, h5, h6, q⟩ => ⟨l, xs, i, y, h1, h2, h3, h4, h5, h6, q _ but_upd upd_same⟩
theorem r_ins0 {H : Hp} {Q : VK} {l : Addr} {xs : List V} {y : V} (h : H l = some (.lst xs)) (hl : xs.length < sizeLine) (q : ∀ H', But l H H' → H' l = some (.lst (y :: xs)) → Q .non H') : mInsert (.ref l) [.int 0, y] H Q :=
  ⟨l, xs, 0, y, rfl, rfl, h, hl, by decide, by decide, q⟩
def mIndex : V → List V → Hp → VK → Prop := fun x vs H Q => ∃ (a : Str) (c : Nat), x = .str a ∧ vs = [.str ⟨#[c]⟩] ∧ c ∈ a.cps.toList ∧ ∀ i : Nat, a.cps.toList[i]? = some c → Q (.int i) H
theorem mt_indexN {X : Cx} : MtR X "str.index" mIndex := mtr_imp mt_sindex fun x vs H Q ⟨a, c, h1, h2, h3, q⟩ => by
  have f := PySem.StrLaws.found_one a c
  rw [decide_eq_true h3] at f
  cases e : Builtin.Str.occurrences a ⟨#[c]⟩ 0 a.length 1 with
  | nil =>
    rw [e] at f
    cases f
  | cons i rest =>
    have sp := PySem.StrLaws.occ_spec a ⟨#[c]⟩ 0 a.length 1 i (by rw [e]; exact List.mem_cons_self)
    exact ⟨a, ⟨#[c]⟩, i, rest, h1, h2, e, q i ((PySem.StrLaws.subAt_one a c i).mp sp)⟩
end Z

/-! dicts whose keys are tuples of ints: displays, items, walks; is True -/
namespace Z
open PySem PySem.Spec PyProof.Rows L2
abbrev KTs := List (List Key × V)
/-! ### displays -/
def mergeT (kvs more : KTs) : KTs := more.foldl (fun acc kv => putK acc kv.1 kv.2) kvs
theorem length_mergeT : ∀ (more kvs : KTs), (mergeT kvs more).length ≤ kvs.length + more.length
  | [], kvs => by show kvs.length ≤ kvs.length + 0; omega
  | p :: r, kvs => by
    have h1 := length_mergeT r (putK kvs p.1 p.2)
    have h2 := length_putK kvs p.1 p.2
    show (mergeT (putK kvs p.1 p.2) r).length ≤ _
    rw [List.length_cons]; omega
theorem KT.merge {H : Hp} : ∀ {more : KTs} {rs xs : List (List Key × Addr × Value)} {kvs : KTs}, KT H more rs → KT H kvs xs → KT H (mergeT kvs more) (storedAllH xs rs) := by
  intro more rs xs kvs r
  unfold KT at r
  induction r generalizing kvs xs with
  | nil => intro q; exact q
  | @cons p q ps qs h t ih =>
    intro r0
    have e : KT H (putK kvs p.1 p.2) (storedH xs q.1 q.2.1 q.2.2) := by
      have := KT.put r0 p.1 (b := q.2.1) h.2.1 h.2.2
      rw [← h.1]; exact this
    exact ih e
/-- a display's pairs, their keys tuples that stand -/
theorem carriesT {P : Program} {w : World} {H : Hp} {h : Heap} (ok : HOk P w H h) : ∀ {kas : List (List Key × Addr × V)} {ws : List (Value × Value)}, (∀ q ∈ kas, H q.2.1 = some (.tup (q.1.map kV))) → VV (kas.map fun q => (V.ref q.2.1, q.2.2)) ws →
    ∃ rs, CarriesH (tupleKind (mixKind P w)) h ws rs ∧ KT H (kas.map fun q => (q.1, q.2.2)) rs
  | [], _, _, r => by rw [List.map_nil] at r; cases r; exact ⟨[], True.intro, .nil⟩
  | p :: kas, _, ht, r => by
    rw [List.map_cons] at r
    cases r with
    | @cons a b as bs h1 t =>
      obtain ⟨rs, c, q⟩ := carriesT ok (kas := kas) (fun q hq => ht q (List.mem_cons_of_mem _ hq)) t
      obtain ⟨b1, b2⟩ := b
      obtain ⟨e1, e2⟩ := h1
      have e1 : b1 = Value.ref p.2.1 := e1
      subst e1
      have hp := ht p List.mem_cons_self
      exact ⟨(p.1, p.2.1, b2) :: rs, ⟨rfl, rfl, key_of ok hp, c⟩, .cons ⟨rfl, hp, e2⟩ q⟩
def tDispT (trs : List (TE × TE)) : TE := fun σ H Q => ∀ p H0, H p = none → Same H H0 → H0 p = some (.dT []) → tPairs trs σ H0 fun ps H2 => H2 p = some (.dT []) ∧
  ∃ kas : List (List Key × Addr × V), ps = kas.map (fun q => (V.ref q.2.1, q.2.2)) ∧ (∀ q ∈ kas, H2 q.2.1 = some (.tup (q.1.map kV))) ∧ kas.length ≤ 15 ∧ ∀ H3, But p H2 H3 → H3 p = some (.dT (mergeT [] (kas.map fun q => (q.1, q.2.2)))) → Q (.ref p) H3
section
variable {X : Cx}
theorem pe_dispT {pos : Pos} {keys : List (Option Expr)} {values : List Expr} {trs : List (TE × TE)} (hu : X.A.units + 1 < cLine) (h : PPs X pos keys values trs)
    (hall : keys.all (·.isSome) = true) (hl : keys.length = values.length) (h0 : keys ≠ []) (h15 : keys.length ≤ 15) : PE X (.Dict keys values pos) (tDispT trs) := by
  refine ⟨fun pins s σ H Q I q => ?_⟩
  have hn := I.hok.fresh (Nat.le_refl s.heap.objs.size)
  have I1 := I.laid (a := s.heap.objs.size) (o := .dT []) (h' := s.heap.push { cls := .type "dict", data := .dict #[] }) (t' := s.toks) (fun _ _ q => Heap.get?_push_of_some _ q) (Nat.le_refl _) (dt_empty s.heap I.big)
  have hr := h.run pins _ σ _ _ I1 (q _ _ hn (same_new hn) upd_same)
  have hlen := pairTrees_length keys values X.env pos hall hl
  have hne : pairTrees keys values X.env pos ≠ [] := fun he => by
    rw [he] at hlen
    exact h0 (List.length_eq_zero_iff.mp hlen.symm)
  rw [arm_eval_Dict, zip_pairTrees keys values X.env pos hall hl, dictDisplay_pairs _ hne (by rw [hlen]; omega)]
  refine wpAny_bind (wpAny_standAt (wpAny_bind (wpAny_subDictH (knd := tupleKind (mixKind X.prog X.w)) (Q := fun d s' => wpAny (model X.prog X.w) X.A (pure (Value.ref d)) (EP X pins σ Q) X.xe s') (show X.A.units < cLine by omega) (by rw [hlen]; exact h15) (wpAny_mono hr (fun ws s2 hq => ?_) fun _ _ e => e))))
  obtain ⟨ps, H2, I2, rel, e, kas, ep, ht, lk, q2⟩ := hq
  subst ep
  obtain ⟨rs, c, rk⟩ := carriesT I2.hok ht rel
  obtain ⟨z, hd, vs0, r0, dd⟩ := dt_of I2.hok e
  cases r0
  refine ⟨rs, c, dd, fun h' tk dd' hs => wpAny_pure ?_⟩
  have km := KT.merge rk (KT.keeps (H' := H2) (H := H2) Paired.nil fun _ _ z => z)
  have hz : (mergeT [] (kas.map fun q => (q.1, q.2.2))).length ≤ sizeLine := by
    have h1 := length_mergeT (kas.map fun q => (q.1, q.2.2)) []
    rw [List.length_nil, List.length_map] at h1
    rw [sizeLine_eq]; omega
  obtain ⟨qo, es, ep, hq, h2, h3, h4, _, h5⟩ := dd'
  refine ⟨.ref s.heap.objs.size, upd H2 s.heap.objs.size (.dT (mergeT [] (kas.map fun q => (q.1, q.2.2)))), d_write (t' := tk) I2 (by rw [e]; exact True.intro) hs ⟨qo, hq⟩ ⟨hz, hd, _, km.keeps fun c ys ec => ?_, qo, es, ep, hq, h2, h3, h4, h5⟩, rfl, q2 _ but_upd upd_same⟩
  rw [upd_ne (ne_of ec e (fun z => nomatch z))]
  exact ec
end
/-! ### items -/
section
variable {σ : L2.St} {H : Hp} {Q : VK} {a b : Addr} {kvs : KTs} {k : List Key} {v : V} {td ty tv : TE} {nx bk ct : L2.St → Hp → Prop} {rt : VK} {s2 : TS}
theorem r_dispT {trs : List (TE × TE)} (q : ∀ p H0, H p = none → Same H H0 → H0 p = some (.dT []) → tPairs trs σ H0 fun ps H2 => H2 p = some (.dT []) ∧
  ∃ kas : List (List Key × Addr × V), ps = kas.map (fun q => (V.ref q.2.1, q.2.2)) ∧ (∀ q ∈ kas, H2 q.2.1 = some (.tup (q.1.map kV))) ∧ kas.length ≤ 15 ∧ ∀ H3, But p H2 H3 → H3 p = some (.dT (mergeT [] (kas.map fun q => (q.1, q.2.2)))) → Q (.ref p) H3) : tDispT trs σ H Q := q
theorem r_pairs {tk tv : TE} {r : List (TE × TE)} {Q : List (V × V) → Hp → Prop} (q : tk σ H fun x H1 => tv σ H1 fun y H2 => tPairs r σ H2 fun ps H3 => Q ((x, y) :: ps) H3) : tPairs ((tk, tv) :: r) σ H Q := q
theorem r_pairs0 {Q : List (V × V) → Hp → Prop} (q : Q [] H) : tPairs [] σ H Q := q
theorem r_dnewT (q : ∀ p H', H p = none → Same H H' → H' p = some (.dT []) → Q (.ref p) H') : tDNewT σ H Q := fun p n => q p _ n (same_new n) upd_same
theorem r_dget (q : td σ H fun x H1 => ty σ H1 fun y H2 => ∃ a v, x = .ref a ∧ DGet H2 a y (some v) ∧ Q v H2) : tDGet td ty σ H Q := q
theorem r_din (q : ty σ H fun y H1 => td σ H1 fun x H2 => ∃ a o, x = .ref a ∧ DGet H2 a y o ∧ Q (.bl o.isSome) H2) : tDIn ty td σ H Q := q
theorem r_dnotin (q : ty σ H fun y H1 => td σ H1 fun x H2 => ∃ a o, x = .ref a ∧ DGet H2 a y o ∧ Q (.bl (!o.isSome)) H2) : tDNotIn ty td σ H Q := q
theorem r_sdput (q : tv σ H fun v H1 => td σ H1 fun x H2 => ty σ H2 fun y H3 => ∃ a H4, x = .ref a ∧ DPut H3 a y v H4 ∧ s2 ⟨nx, rt, bk, ct⟩ σ H4) : tSeq (sDPut td ty tv) s2 ⟨nx, rt, bk, ct⟩ σ H := q
theorem r_dput (q : tv σ H fun v H1 => td σ H1 fun x H2 => ty σ H2 fun y H3 => ∃ a H4, x = .ref a ∧ DPut H3 a y v H4 ∧ nx σ H4) : sDPut td ty tv ⟨nx, rt, bk, ct⟩ σ H := q
theorem rd_dT (h : Rd H a (.dT kvs)) (hb : H b = some (.tup (k.map kV))) : DGet H a (.ref b) (valV kvs k) := .inr ⟨kvs, k, b, h, rfl, hb, rfl⟩
theorem r_getT {P : V → Prop} (h : Rd H a (.dT kvs)) (hb : H b = some (.tup (k.map kV))) (hv : valV kvs k = some v) (q : P v) : ∃ a' v', V.ref a = .ref a' ∧ DGet H a' (.ref b) (some v') ∧ P v' := ⟨a, v, rfl, hv ▸ rd_dT h hb, q⟩
theorem r_hasT {P : Option V → Prop} (h : Rd H a (.dT kvs)) (hb : H b = some (.tup (k.map kV))) (q : P (valV kvs k)) : ∃ a' o, V.ref a = .ref a' ∧ DGet H a' (.ref b) o ∧ P o := ⟨a, _, rfl, rd_dT h hb, q⟩
theorem r_putT {P : Hp → Prop} (h : H a = some (.dT kvs)) (hb : H b = some (.tup (k.map kV))) (hl : kvs.length < 100000) (q : ∀ H', But a H H' → H' a = some (.dT (putK kvs k v)) → P H') : ∃ a' H4, V.ref a = .ref a' ∧ DPut H a' (.ref b) v H4 ∧ P H4 :=
  ⟨a, _, rfl, DPut.t h hb (lt_size hl), q _ but_upd upd_same⟩
end
/-! ### walks of a dict's keys -/
section
variable {σ : L2.St} {H : Hp} {g : TG} {tb : TS} {nx bk ct : L2.St → Hp → Prop} {rt : VK}
/-- for k in d, the keys tuples, nothing leaves the loop: Pv i at the i-th key -/
theorem f_keysT {td : TE} {d : Addr} {kvs : KTs} (hd : H d = some (.dT kvs)) (htd : ∀ (H1 : Hp) (R : VK), R (.ref d) H1 → td σ H1 R) (Pv : Nat → L2.St → Hp → Prop) (h0 : ∀ od H1, But d H H1 → H1 d = some (.frz od (.dT kvs)) → Pv 0 σ H1)
    (hs : ∀ od i k v b σ H1 rtE bkE, kvs[i]? = some (k, v) → H1 b = some (.tup (k.map kV)) → H1 d = some (.frz od (.dT kvs)) → Pv i σ H1 → g (.ref b) σ H1 fun σ2 H2 => tb ⟨fun σ' H' => H' d = some (.frz od (.dT kvs)) ∧ Pv (i + 1) σ' H', rtE, bkE, fun σ' H' => H' d = some (.frz od (.dT kvs)) ∧ Pv (i + 1) σ' H'⟩ σ2 H2)
    (hd2 : ∀ od σ H1 H2, H1 d = some (.frz od (.dT kvs)) → Pv kvs.length σ H1 → But d H1 H2 → H2 d = some (.dT kvs) → nx σ H2) : tLock (tFor (iKeys td) g tb) ⟨nx, rt, bk, ct⟩ σ H := by
  refine ⟨d, .dT kvs, hd, True.intro, fun od => ?_⟩
  refine htd _ _ ⟨d, od, rfl, .inr ⟨kvs, upd_same, ?_⟩⟩
  refine ⟨fun i m σ H1 => i + m = kvs.length ∧ H1 d = some (.frz od (.dT kvs)) ∧ Pv i σ H1, ⟨kvs.length, Nat.zero_add _, upd_same, h0 od _ but_upd upd_same⟩, ?_⟩
  rintro i m σ1 H1 ⟨em, e1, p⟩
  by_cases hi : i < kvs.length
  · refine .inr ⟨⟨e1, hi⟩, fun σ' H' => H' d = some (.frz od (.dT kvs)) ∧ Pv (i + 1) σ' H', fun σ' H' z => ⟨m - 1, by omega, by omega, z.1, z.2⟩, ?_⟩
    rintro x H' ⟨rfl, k, v, b, hk, rfl, hb⟩
    exact hs od i k v b σ1 H' _ _ hk hb e1 p
  · have ei : i = kvs.length := by omega
    subst ei
    exact .inl ⟨⟨e1, Nat.le_refl _⟩, e1, hd2 od σ1 H1 _ e1 p but_upd upd_same⟩
end
/-! ### is of bools -/
theorem r_isB {H : Hp} {Q : VK} {a b : Bool} (q : Q (.bl (decide (a = b))) H) : rIsB (.bl a) (.bl b) H Q := ⟨a, b, rfl, rfl, q⟩
theorem r_notB {H : Hp} {Q : VK} {a b : Bool} (q : Q (.bl (!decide (a = b))) H) : rNotB (.bl a) (.bl b) H Q := ⟨a, b, rfl, rfl, q⟩
end Z

/-! comprehensions and loops over tuples, reversed(range(n)), sorted of two -/
namespace Z
open PySem PySem.Spec PyProof.Rows L2
section
variable {K : PySem.W.Frag} {σ : L2.St} {H : Hp} {Q : VK} {g : TG} {tt : TT} {te : TE} {vs : List Nat} {Qd : Addr → Hp → Prop}
theorem c_tup {a : Addr} {xs : List V} (L : Nat → List V) (ha : H a = some (.tup xs)) (hz : xs.length ≤ 100000) (h0 : L 0 = []) (hl : ∀ i, (L i).length ≤ i)
    (turn : ∀ i x H', xs[i]? = some x → Same H H' → Turn1 σ g tt te vs L i x H' H') (q : ∀ p H', H p = none → Same H H' → H' p = some (.lst (L xs.length)) → Qd p H') :
    ∃ a', V.ref a = .ref a' ∧ (∃ xs, SqT K H a' xs) ∧ ∀ D, H D = none → ∃ W : Nat → Nat → Hp → Prop, (∃ m, W 0 m (upd H D (.lst []))) ∧ ∀ i m H, W i m H →
      ((Itt K a').stop i H ∧ Qd D H) ∨ ((Itt K a').go i H ∧ ∃ Nx : Hp → Prop, (∀ H', Nx H' → ∃ m', m' < m ∧ W (i + 1) m' H') ∧ ∀ x_1 H', (Itt K a').yld i H x_1 H' → g x_1 (wipe σ vs) H' fun σ2 H2 => wipe σ2 vs = wipe σ vs ∧ tt σ2 H2 fun b H3 =>
        if b = true then te σ2 H3 fun y H4 => ∃ acc, H4 D = some (.lst acc) ∧ acc.length < sizeLine ∧ Nx (upd H4 D (.lst (acc ++ [y]))) else Nx H3) :=
  ⟨a, rfl, ⟨xs, SqT.of ha⟩, lc_any (Itt K a) xs.length L hz h0 hl (fun i H' hi s => ⟨xs, xs[i], SqT.of (s _ _ ha), List.getElem?_eq_getElem hi⟩) (fun H' s => ⟨xs, SqT.of (s _ _ ha), Nat.le_refl _⟩) (fun i x H' H1 hi s ⟨e1, f⟩ => by
    subst e1
    exact turn i x H1 (f xs (SqT.of (s _ _ ha))) s) q⟩
theorem r_iTup {tl : TE} {R : It → Hp → Prop} (q : tl σ H fun x H1 => ∃ a, x = .ref a ∧ (∃ xs, SqT K H1 a xs) ∧ R (Itt K a) H1) : iTup K tl σ H R := q
end
section
variable {K : PySem.W.Frag} {σ : L2.St} {H : Hp} {g : TG} {tb : TS} {nx : L2.St → Hp → Prop} {rt : VK}
theorem f_tup {a : Addr} {xs : List V} (h : H a = some (.tup xs)) (Pv : Nat → L2.St → Hp → Prop) (h0 : Pv 0 σ H) (hl : ∀ i σ H, i ≤ xs.length → Pv i σ H → H a = some (.tup xs))
    (hs : ∀ i x σ H, xs[i]? = some x → Pv i σ H → g x σ H fun σ2 H2 => tb ⟨Pv (i + 1), rt, nx, Pv (i + 1)⟩ σ2 H2) (hd : ∀ σ H, Pv xs.length σ H → nx σ H) :
    ∃ a', V.ref a = .ref a' ∧ (∃ xs, SqT K H a' xs) ∧ ∃ W : Nat → Nat → L2.St → Hp → Prop, (∃ m, W 0 m σ H) ∧ ∀ i m σ H, W i m σ H →
      ((Itt K a').stop i H ∧ nx σ H) ∨ ((Itt K a').go i H ∧ ∃ N : L2.St → Hp → Prop, (∀ σ' H', N σ' H' → ∃ m', m' < m ∧ W (i + 1) m' σ' H') ∧ ∀ x H', (Itt K a').yld i H x H' → g x σ H' fun σ2 H2 => tb ⟨N, rt, nx, N⟩ σ2 H2) :=
  ⟨a, rfl, ⟨xs, SqT.of h⟩, for_tup (K := K) (D := ⟨nx, rt, fun _ _ => False, fun _ _ => False⟩) Pv h0 (fun i σ H hi p => SqT.of (hl i σ H hi p)) hs hd⟩
theorem r_iRevR {tr : L2.St → Hp → (Int → Int → Hp → Prop) → Prop} {R : It → Hp → Prop} (q : tr σ H fun a b H1 => -(2 ^ 62) ≤ a ∧ a < 2 ^ 62 ∧ -(2 ^ 62) ≤ b ∧ b < 2 ^ 62 ∧ R (Itc (a + (((b - a).toNat : Nat) : Int) - 1) (-1) (b - a).toNat) H1) : iRevR tr σ H R := q
theorem r_rg1 {ta : TE} {Q : Int → Int → Hp → Prop} (q : ta σ H fun x H1 => ∃ n, x = .int n ∧ Q 0 n H1) : tRg1 ta σ H Q := q
/-- for i in reversed(range(n)): at turn j the number is n - 1 - j -/
theorem f_revR {n : Nat} (hn : n ≤ 1000000) (Pv : Nat → L2.St → Hp → Prop) (h0 : Pv 0 σ H)
    (hs : ∀ (j p : Nat) σ H, j < n → p = n - 1 - j → Pv j σ H → g (.int (p : Int)) σ H fun σ2 H2 => tb ⟨Pv (j + 1), rt, nx, Pv (j + 1)⟩ σ2 H2) (hd : ∀ σ H, Pv n σ H → nx σ H) :
    ∃ m : Int, V.int (n : Int) = .int m ∧ -(2 ^ 62) ≤ (0 : Int) ∧ (0 : Int) < 2 ^ 62 ∧ -(2 ^ 62) ≤ m ∧ m < 2 ^ 62 ∧ ∃ W : Nat → Nat → L2.St → Hp → Prop, (∃ k, W 0 k σ H) ∧ ∀ i k σ H, W i k σ H →
      ((Itc (0 + (((m - 0).toNat : Nat) : Int) - 1) (-1) (m - 0).toNat).stop i H ∧ nx σ H) ∨ ((Itc (0 + (((m - 0).toNat : Nat) : Int) - 1) (-1) (m - 0).toNat).go i H ∧ ∃ N : L2.St → Hp → Prop, (∀ σ' H', N σ' H' → ∃ k', k' < k ∧ W (i + 1) k' σ' H') ∧
        ∀ x H', (Itc (0 + (((m - 0).toNat : Nat) : Int) - 1) (-1) (m - 0).toNat).yld i H x H' → g x σ H' fun σ2 H2 => tb ⟨N, rt, nx, N⟩ σ2 H2) := by
  have e : ((n : Int) - 0).toNat = n := by omega
  refine ⟨n, rfl, by decide, by decide, by omega, by omega, ?_⟩
  rw [e]
  refine for_rangeC (lo := 0 + ((n : Nat) : Int) - 1) (c := -1) (n := n) (D := ⟨nx, rt, fun _ _ => False, fun _ _ => False⟩) Pv h0 (fun j σ' H' hj p => ?_) hd
  have e2 : (0 + ((n : Nat) : Int) - 1) + ((j : Nat) : Int) * (-1) = ((n - 1 - j : Nat) : Int) := by omega
  rw [e2]
  exact hs j _ σ' H' hj rfl p
/-- sorted([..]) of whole numbers -/
theorem r_sorted {Q : VK} {a : Addr} {ns : List Int} (h : H a = some (.lst (ns.map V.int))) (hl : ns.length < 64) (q : ∀ ns' : List Int, ns'.Perm ns → ns'.Pairwise (· ≤ ·) → NewL H (ns'.map V.int) Q) : bSorted K [.ref a] H Q := ⟨a, ns, rfl, SqL.of h, hl, q⟩
theorem sorted_one {ns' : List Int} {i : Int} (p : ns'.Perm [i]) : ns' = [i] := List.perm_singleton.mp p
theorem sorted_two {ns' : List Int} {i j : Int} (p : ns'.Perm [i, j]) (s : ns'.Pairwise (· ≤ ·)) (h : i ≤ j) : ns' = [i, j] :=
  p.eq_of_pairwise (le := fun a b => a ≤ b) (fun a b _ _ h1 h2 => Int.le_antisymm h1 h2) s (by simp [h])
end
end Z

/-! min of lists by a key of their length and themselves -/
namespace Z
open PySem PySem.Spec PyProof.Rows L2
/-! ### tapes by their length, then as lists ascend -/
def lexN : List Nat → List Nat → Bool
  | [], [] => false
  | [], _ :: _ => true
  | _ :: _, [] => false
  | x :: xs, y :: ys => if x = y then lexN xs ys else decide (x < y)
def kLt (a b : List Nat) : Bool := if a.length = b.length then lexN a b else decide (a.length < b.length)
def kMin (a : List Nat) : List (List Nat) → List Nat
  | [] => a
  | b :: l => kMin (if kLt b a = true then b else a) l
def kLe (a b : List Nat) : Prop := kLt b a = false
theorem lexN_irr : ∀ a : List Nat, lexN a a = false
  | [] => rfl
  | x :: a => by rw [lexN, if_pos rfl]; exact lexN_irr a
theorem lexN_trans : ∀ {a b c : List Nat}, lexN b a = false → lexN c b = false → lexN c a = false
  | [], _, [], _, _ => rfl
  | [], _, _ :: _, _, _ => rfl
  | _ :: _, [], _, h, _ => by cases h
  | _ :: _, _ :: _, [], _, h => by cases h
  | x :: a, y :: b, z :: c, h1, h2 => by
    rw [lexN] at h1 h2 ⊢
    by_cases e1 : y = x
    · subst e1
      rw [if_pos rfl] at h1
      by_cases e2 : z = y
      · subst e2
        rw [if_pos rfl] at h2 ⊢
        exact lexN_trans h1 h2
      · rw [if_neg e2] at h2 ⊢
        exact h2
    · rw [if_neg e1] at h1
      have h1 := of_decide_eq_false h1
      by_cases e2 : z = y
      · subst e2
        rw [if_neg e1]
        exact decide_eq_false h1
      · rw [if_neg e2] at h2
        have h2 := of_decide_eq_false h2
        rw [if_neg (by omega)]
        exact decide_eq_false (by omega)
theorem lexN_tot : ∀ {a b : List Nat}, a.length = b.length → lexN a b = false → lexN b a = false → a = b
  | [], [], _, _, _ => rfl
  | [], _ :: _, h, _, _ => by cases h
  | _ :: _, [], h, _, _ => by cases h
  | x :: a, y :: b, h, h1, h2 => by
    rw [lexN] at h1 h2
    by_cases e : x = y
    · subst e
      rw [if_pos rfl] at h1 h2
      rw [lexN_tot (by simpa using h) h1 h2]
    · rw [if_neg e] at h1
      rw [if_neg (Ne.symm e)] at h2
      have h1 := of_decide_eq_false h1
      have h2 := of_decide_eq_false h2
      omega
theorem lexN_asym : ∀ {a b : List Nat}, lexN a b = true → lexN b a = false
  | [], [], h => by cases h
  | [], _ :: _, _ => rfl
  | _ :: _, [], h => by cases h
  | x :: a, y :: b, h => by
    rw [lexN] at h ⊢
    by_cases e : x = y
    · subst e
      rw [if_pos rfl] at h ⊢
      exact lexN_asym h
    · rw [if_neg e] at h
      rw [if_neg (Ne.symm e)]
      have h := of_decide_eq_true h
      exact decide_eq_false (by omega)
theorem kLe_refl (a : List Nat) : kLe a a := by
  unfold kLe kLt
  rw [if_pos rfl]
  exact lexN_irr a
theorem kLe_len {a b : List Nat} (h : kLe a b) : a.length ≤ b.length := by
  unfold kLe kLt at h
  by_cases e : b.length = a.length
  · omega
  · rw [if_neg e] at h
    have := of_decide_eq_false h
    omega
theorem kLe_lt {a b : List Nat} (h : a.length < b.length) : kLe a b := by
  unfold kLe kLt
  rw [if_neg (by omega)]
  exact decide_eq_false (by omega)
theorem kLe_trans {a b c : List Nat} (h1 : kLe a b) (h2 : kLe b c) : kLe a c := by
  have l1 := kLe_len h1
  have l2 := kLe_len h2
  by_cases e : a.length = c.length
  · unfold kLe kLt at h1 h2 ⊢
    rw [if_pos (by omega)] at h1 h2 ⊢
    exact lexN_trans h1 h2
  · exact kLe_lt (by omega)
theorem kLe_anti {a b : List Nat} (h1 : kLe a b) (h2 : kLe b a) : a = b := by
  have l1 := kLe_len h1
  have l2 := kLe_len h2
  unfold kLe kLt at h1 h2
  rw [if_pos (by omega)] at h1 h2
  exact lexN_tot (by omega) h2 h1
theorem kLt_le {a b : List Nat} (h : kLt a b = true) : kLe a b := by
  unfold kLe
  unfold kLt at h ⊢
  by_cases e : a.length = b.length
  · rw [if_pos e] at h
    rw [if_pos e.symm]
    exact lexN_asym h
  · rw [if_neg e] at h
    have h := of_decide_eq_true h
    rw [if_neg (by omega)]
    exact decide_eq_false (by omega)
theorem kLe_cons {a b : List Nat} (k : Nat) (h : kLe a b) : kLe (k :: a) (k :: b) := by
  unfold kLe kLt at h ⊢
  rw [List.length_cons, List.length_cons]
  by_cases e : b.length = a.length
  · rw [if_pos e] at h
    rw [if_pos (by omega), lexN, if_pos rfl]
    exact h
  · rw [if_neg e] at h
    have h := of_decide_eq_false h
    rw [if_neg (by omega)]
    exact decide_eq_false (by omega)
theorem kLe_first {a b : List Nat} {j k : Nat} (h : a.length ≤ b.length) (hk : j < k) : kLe (j :: a) (k :: b) := by
  unfold kLe kLt
  rw [List.length_cons, List.length_cons]
  by_cases e : b.length + 1 = a.length + 1
  · rw [if_pos e, lexN, if_neg (by omega)]
    exact decide_eq_false (by omega)
  · rw [if_neg e]
    exact decide_eq_false (by omega)
theorem kMin_spec : ∀ (l : List (List Nat)) (a : List Nat), (kMin a l = a ∨ kMin a l ∈ l) ∧ kLe (kMin a l) a ∧ ∀ b ∈ l, kLe (kMin a l) b
  | [], a => ⟨.inl rfl, kLe_refl a, fun b hb => (nomatch hb)⟩
  | b :: l, a => by
    rw [kMin]
    by_cases e : kLt b a = true
    · rw [if_pos e]
      obtain ⟨h1, h2, h3⟩ := kMin_spec l b
      refine ⟨.inr ?_, kLe_trans h2 (kLt_le e), fun c hc => ?_⟩
      · rcases h1 with z | z
        · rw [z]; exact List.mem_cons_self
        · exact List.mem_cons_of_mem _ z
      · rcases List.mem_cons.mp hc with z | z
        · rw [z]; exact h2
        · exact h3 c z
    · rw [if_neg e]
      obtain ⟨h1, h2, h3⟩ := kMin_spec l a
      refine ⟨?_, h2, fun c hc => ?_⟩
      · rcases h1 with z | z
        · exact .inl z
        · exact .inr (List.mem_cons_of_mem _ z)
      · rcases List.mem_cons.mp hc with z | z
        · rw [z]
          refine kLe_trans h2 ?_
          unfold kLe
          cases q : kLt b a
          · rfl
          · exact absurd q e
        · exact h3 c z
def kMinL : List (List Nat) → Option (List Nat)
  | [] => none
  | a :: l => some (kMin a l)
theorem kMinL_some {l : List (List Nat)} {a : List Nat} (h : kMinL l = some a) : a ∈ l ∧ ∀ b ∈ l, kLe a b := by
  cases l with
  | nil => cases h
  | cons x l =>
    obtain rfl := Option.some.inj h
    obtain ⟨h1, h2, h3⟩ := kMin_spec l x
    refine ⟨?_, fun b hb => ?_⟩
    · rcases h1 with z | z
      · rw [z]; exact List.mem_cons_self
      · exact List.mem_cons_of_mem _ z
    · rcases List.mem_cons.mp hb with z | z
      · rw [z]; exact h2
      · exact h3 b z
theorem kMinL_ne {l : List (List Nat)} (h : l ≠ []) : ∃ a, kMinL l = some a := by
  cases l with
  | nil => exact absurd rfl h
  | cons x l => exact ⟨_, rfl⟩
theorem kMinL_is {l : List (List Nat)} {a : List Nat} (h : a ∈ l) (hl : ∀ b ∈ l, kLe a b) : kMinL l = some a := by
  obtain ⟨b, hb⟩ := kMinL_ne (l := l) (fun z => by rw [z] at h; cases h)
  obtain ⟨h1, h2⟩ := kMinL_some hb
  rw [hb, kLe_anti (h2 a h) (hl b h1)]

def natsV (t : List Nat) : List V := t.map fun c => V.int ((c : Nat) : Int)
/-! ### a lambda of one parameter, called from within a built-in -/
section
variable {X : Cx} {pins : List (Addr × Obj)} {σ : L2.St} {H : Hp} {s : Shared}
theorem lam_call {x q : Str} {N : List Str} {params : Arguments} {body : Expr} {scope : Scope} {pm ctv u : Value} {f c' : Addr} {k : Nat} {tb : TE} {v : V} {Q : VK}
    (I : Inv X pins σ H s) (hf : s.heap.get? f = some (PySem.W.kla_obj "<lambda>" q params body scope [] pm c' ctv)) (hco : H c' = some (LamX.CodeO c' q)) (S : FnScope N [x] scope) (hr : Room (k + 1) X.A.in1)
    (hbind : bindArgs (PySem.W.kla_fn "<lambda>" q params body scope [] pm (.ref c') ctv) ⟨[u], []⟩ = pure [(x, u)])
    (hbody : ∀ (A : Around) (outer : List Env) (s : Shared) (H : Hp) (E : XK), Room k (A.deeper (envOfC q scope s.heap.objs.size f (.ref c'))) → PE (cxOf CX0 X.prog X.w X.K X.mg X.base N q scope f (.ref c') A outer s H E) body tb)
    (r : RelV v u) (h : tb (start N [v]) H Q) : wpAny (model X.prog X.w) X.A.in1 (call (.ref f) [u]) (EP X pins σ Q) (fun _ _ => False) s := by
  obtain ⟨⟨oc, vs, t, hoc, hdc, hvc⟩, _, _⟩ := (show ObjOk X.prog X.w H s.heap c' (LamX.CodeO c' q) from I.hok c' _ hco)
  have rc : codeAny (model X.prog X.w) X.A.in1 (.call (.ref f) ⟨[u], []⟩) (CR CX0 X.stack X.prog X.w H s Q E0) s := by
    refine PySem.W.kla_callFunE hr.depth hf rfl S.co S.gen rfl ⟨c', oc, vs, t, rfl, hoc, hdc, hvc⟩ ?_
    rw [hbind]
    refine wpAny_pure (wpAny_newFunctionEnv_cells S.kind (fun y hy => ?_) fun env he s1 x => ?_)
    · obtain rfl := List.mem_singleton.mp hy
      rcases S.par x (List.mem_singleton.mpr rfl) with z | z
      · exact .inl z
      · exact .inr ⟨z, PySem.W.cellsFrom_some _ _ _ (.inl z)⟩
    · subst he
      refine ⟨I.nolimit.keeps x.toInCall.keep, PySem.W.kla_codeExpr (wpAny_mono ((hbody X.A.in1 X.stack s H E0 (hr.deeper _)).run [] s1 (start N [v]) H _ (inv_start (us := [u]) S hr.hd I.env0.in1 rfl (.cons r .nil) x) h) (fun w s' hq => ?_) fun e s' hq => hq)⟩
      obtain ⟨w', H', J, rv, q⟩ := hq
      exact ⟨w', H', J.os, J.bare, J.base, J.hok, rv, q⟩
  refine wpAny_call (codeAny_mono rc fun r s' hq => ?_)
  cases r with
  | error e => exact (show False from hq).elim
  | ok fl =>
    cases fl with
    | ret u => exact I.after hq
    | next => exact False.elim hq
    | brk => exact False.elim hq
    | cont => exact False.elim hq
end
/-! ### the order of the keys -/
theorem eq_ints {A : Around} {s : Shared} (i j : Int) (t u : Tok) (hu : A.units < cLine) : SeqAt.EqAt A s (.int i t) (.int j u) (decide (i = j)) := by
  have := SeqAt.eqAt_reads (.int i) (.int j) A s (.int i t) (.int j u) _ _ (.int i t) (.int j u) rfl rfl (by show A.units + min 0 0 < cLine; simpa using hu)
  have e : PyData.eqv (.int i) (.int j) = decide (i = j) := by
    show (i == j) = _
    by_cases h : i = j
    · rw [decide_eq_true h, h]; simp
    · rw [decide_eq_false h]; simpa using h
  rw [← e]
  exact this
theorem first_lex : ∀ (m i : Nat) (a b : List Nat), m = min a.length b.length - i → i ≤ min a.length b.length →
    SeqAt.firstLt (fun j => decide (a.getD j 0 = b.getD j 0)) (fun j => decide (a.getD j 0 < b.getD j 0)) (decide (a.length < b.length)) (List.range' i m) = lexN (a.drop i) (b.drop i)
  | 0, i, a, b, hm, hi => by
    show decide (a.length < b.length) = _
    by_cases h : i < b.length
    · have ha : a.length ≤ i := by omega
      rw [List.drop_of_length_le ha, decide_eq_true (by omega)]
      cases e : b.drop i with
      | nil =>
        have := congrArg List.length e
        rw [List.length_drop] at this
        simp at this
        omega
      | cons _ _ => rfl
    · rw [List.drop_of_length_le (show b.length ≤ i by omega), decide_eq_false (by omega)]
      cases a.drop i <;> rfl
  | m + 1, i, a, b, hm, hi => by
    have h1 : i < a.length := by omega
    have h2 : i < b.length := by omega
    have ea : a.drop i = a.getD i 0 :: a.drop (i + 1) := by
      rw [List.getD_eq_getElem?_getD, List.getElem?_eq_getElem h1]
      exact (List.getElem_cons_drop h1).symm
    have eb : b.drop i = b.getD i 0 :: b.drop (i + 1) := by
      rw [List.getD_eq_getElem?_getD, List.getElem?_eq_getElem h2]
      exact (List.getElem_cons_drop h2).symm
    have ih := first_lex m (i + 1) a b (by omega) (by omega)
    rw [ea, eb, lexN, List.range'_succ]
    by_cases e : a.getD i 0 = b.getD i 0
    · rw [SeqAt.firstLt_yes (decide_eq_true e), if_pos e]
      exact ih
    · rw [SeqAt.firstLt_no (decide_eq_false e), if_neg e]
section
variable {X : Cx} {pins : List (Addr × Obj)} {σ : L2.St} {H : Hp} {s : Shared}
theorem nats_get {a : List Nat} {its : List Value} (r : Vals (natsV a) its) {j : Nat} (h : j < its.length) : ∃ t, its[j] = .int ((a.getD j 0 : Nat) : Int) t := by
  have hl := r.length
  unfold natsV at hl
  rw [List.length_map] at hl
  have hj : j < a.length := by omega
  obtain ⟨u, hu, ru⟩ := r.get (i := j) (x := V.int ((a.getD j 0 : Nat) : Int)) (by
    unfold natsV
    rw [List.getElem?_map, List.getD_eq_getElem?_getD, List.getElem?_eq_getElem hj]
    rfl)
  obtain ⟨t, rfl⟩ := ru
  exact ⟨t, by rw [List.getElem?_eq_getElem h] at hu; exact Option.some.inj hu⟩
theorem list_key {A : Around} {la lb : Addr} {a b : List Nat} (I : Inv X pins σ H s) (h1 : H la = some (.lst (natsV a))) (h2 : H lb = some (.lst (natsV b))) (hu : A.units + 8 < cLine) :
    SeqAt.EqAt A s (.ref la) (.ref lb) (decide (a = b)) ∧ SeqAt.RcLt A s (.ref la) (.ref lb) (lexN a b) := by
  obtain ⟨i1, r1, p1, z1⟩ := I.list (SqL.of h1)
  obtain ⟨i2, r2, p2, z2⟩ := I.list (SqL.of h2)
  have l1 : i1.length = a.length := by rw [← r1.length]; exact List.length_map _
  have l2 : i2.length = b.length := by rw [← r2.length]; exact List.length_map _
  refine ⟨?_, ?_⟩
  · have c1 : natsV a = (a.map fun c => ((c : Nat) : Int)).map V.int := by unfold natsV; rw [List.map_map]; rfl
    have c2 : natsV b = (b.map fun c => ((c : Nat) : Int)).map V.int := by unfold natsV; rw [List.map_map]; rfl
    rw [c1] at h1
    rw [c2] at h2
    obtain ⟨as, q1⟩ := Dp.reads I _ _ (.ref la) (dp_ints (K := X.K) h1) rfl
    obtain ⟨bs, q2⟩ := Dp.reads I _ _ (.ref lb) (dp_ints (K := X.K) h2) rfl
    have := SeqAt.eqAt_reads _ _ A s _ _ _ _ q1 q2 (can_ints _) (can_ints _) (by
      show A.units + min (PyData.depthAll _ + 1) (PyData.depthAll _ + 1) < cLine
      rw [depth_ints, depth_ints]
      show A.units + 1 < cLine
      omega)
    rw [eqv_ints] at this
    have e : decide ((a.map fun c => ((c : Nat) : Int)) = (b.map fun c => ((c : Nat) : Int))) = decide (a = b) := by
      have inj : (a.map fun c => ((c : Nat) : Int)) = (b.map fun c => ((c : Nat) : Int)) ↔ a = b := ⟨fun z => List.map_inj_right (fun x y h => by omega) |>.mp z, fun z => by rw [z]⟩
      by_cases h : a = b
      · rw [decide_eq_true h, decide_eq_true (inj.mpr h)]
      · rw [decide_eq_false h, decide_eq_false fun z => h (inj.mp z)]
    rw [← e]
    exact this
  · have := SeqAt.RcLt.lists (A := A) (s := s) (e := fun j => decide (a.getD j 0 = b.getD j 0)) (r := fun j => decide (a.getD j 0 < b.getD j 0)) p1.isList p2.isList (by omega)
      (fun j h1 h2 => by
        obtain ⟨t, e1⟩ := nats_get r1 (j := j) (by simpa using h1)
        obtain ⟨u, e2⟩ := nats_get r2 (j := j) (by simpa using h2)
        have := eq_ints (A := A.in1) (s := s) ((a.getD j 0 : Nat) : Int) ((b.getD j 0 : Nat) : Int) t u (by show A.units + 1 < _; omega)
        have e3 : decide (((a.getD j 0 : Nat) : Int) = ((b.getD j 0 : Nat) : Int)) = decide (a.getD j 0 = b.getD j 0) := by
          by_cases h : a.getD j 0 = b.getD j 0
          · rw [decide_eq_true h, decide_eq_true (by rw [h])]
          · rw [decide_eq_false h, decide_eq_false (by omega)]
        rw [e3] at this
        simpa [e1, e2] using this)
      (fun j h1 h2 _ => by
        obtain ⟨t, e1⟩ := nats_get r1 (j := j) (by simpa using h1)
        obtain ⟨u, e2⟩ := nats_get r2 (j := j) (by simpa using h2)
        have e3 : decide (((a.getD j 0 : Nat) : Int) < ((b.getD j 0 : Nat) : Int)) = decide (a.getD j 0 < b.getD j 0) := by
          by_cases h : a.getD j 0 < b.getD j 0
          · rw [decide_eq_true h, decide_eq_true (by omega)]
          · rw [decide_eq_false h, decide_eq_false (by omega)]
        intro prog w E Q hq
        have g1 : i1.toArray[j] = .int ((a.getD j 0 : Nat) : Int) t := by simpa using e1
        have g2 : i2.toArray[j] = .int ((b.getD j 0 : Nat) : Int) u := by simpa using e2
        rw [g1, g2]
        exact PyProof.Rows.lt_int (by rw [e3]; exact hq))
    have e4 := first_lex (min a.length b.length) 0 a b rfl (Nat.zero_le _)
    rw [List.drop_zero, List.drop_zero, ← List.range_eq_range'] at e4
    rw [← e4, ← l1, ← l2]
    simpa using this
/-- (len, list) < (len, list) -/
theorem key_lt {A : Around} {ka kb la lb : Addr} {a b : List Nat} (I : Inv X pins σ H s) (t1 : H ka = some (.tup [.int (a.length : Int), .ref la])) (t2 : H kb = some (.tup [.int (b.length : Int), .ref lb]))
    (h1 : H la = some (.lst (natsV a))) (h2 : H lb = some (.lst (natsV b))) (hu : A.units + 16 < cLine) : SeqAt.RcLt A s (.ref ka) (.ref kb) (kLt a b) := by
  obtain ⟨_, i1, r1, o1, g1, c1, n1, d1⟩ := (show ObjOk X.prog X.w H s.heap ka _ from I.hok ka _ t1)
  obtain ⟨_, i2, r2, o2, g2, c2, n2, d2⟩ := (show ObjOk X.prog X.w H s.heap kb _ from I.hok kb _ t2)
  obtain ⟨u1, w1, rfl, ⟨k1, rfl⟩, e1⟩ := vals2 r1
  obtain ⟨u2, w2, rfl, ⟨k2, rfl⟩, e2⟩ := vals2 r2
  obtain rfl : w1 = Value.ref la := e1
  obtain rfl : w2 = Value.ref lb := e2
  obtain ⟨le, ll⟩ := list_key (A := A.in1) I h1 h2 (by show A.units + 1 + 8 < _; omega)
  have := SeqAt.RcLt.tuples (A := A) (s := s) (l := ka) (b := kb) (e := fun j => if j = 0 then decide (a.length = b.length) else decide (a = b)) (r := fun j => if j = 0 then decide (a.length < b.length) else lexN a b) ⟨o1, g1, c1, n1, d1⟩ ⟨o2, g2, c2, n2, d2⟩ (by omega)
    (fun j h1 h2 => by
      match j, h1, h2 with
      | 0, _, _ =>
        have := eq_ints (A := A.in1) (s := s) (a.length : Int) (b.length : Int) k1 k2 (by show A.units + 1 < _; omega)
        have e3 : decide ((a.length : Int) = (b.length : Int)) = decide (a.length = b.length) := by
          by_cases h : a.length = b.length
          · rw [decide_eq_true h, decide_eq_true (by omega)]
          · rw [decide_eq_false h, decide_eq_false (by omega)]
        rw [e3] at this
        exact this
      | 1, _, _ => exact le)
    (fun j h1 h2 _ => by
      match j, h1, h2 with
      | 0, _, _ =>
        have e3 : decide ((a.length : Int) < (b.length : Int)) = decide (a.length < b.length) := by
          by_cases h : a.length < b.length
          · rw [decide_eq_true h, decide_eq_true (by omega)]
          · rw [decide_eq_false h, decide_eq_false (by omega)]
        intro prog w E Q hq
        exact PyProof.Rows.lt_int (by rw [e3]; exact hq)
      | 1, _, _ => exact ll)
  have e4 : SeqAt.firstLt (fun j => if j = 0 then decide (a.length = b.length) else decide (a = b)) (fun j => if j = 0 then decide (a.length < b.length) else lexN a b) (decide (2 < 2)) [0, 1] = kLt a b := by
    unfold kLt
    by_cases h : a.length = b.length
    · rw [SeqAt.firstLt_yes (by rw [if_pos rfl]; exact decide_eq_true h), if_pos h]
      by_cases h2 : a = b
      · rw [SeqAt.firstLt_yes (by rw [if_neg (by decide)]; exact decide_eq_true h2), h2]
        exact (lexN_irr b).symm
      · rw [SeqAt.firstLt_no (by rw [if_neg (by decide)]; exact decide_eq_false h2)]
        rfl
    · rw [SeqAt.firstLt_no (by rw [if_pos rfl]; exact decide_eq_false h), if_neg h]
      rfl
  rw [← e4]
  exact this
end
/-! ### the walk of min -/
section
variable {X : Cx} {pins : List (Addr × Obj)} {σ : L2.St} {H : Hp} {s : Shared}
theorem FpOk.to {b : Addr} {H1 : Hp} (h : FpOk X pins H b) (e : H1 b = none) : FpOk X pins H1 b := ⟨e, h.2⟩
theorem unpin {p : Addr × Obj} (I : Inv X (p :: pins) σ H s) : Inv X pins σ H s := I.pins_of fun q hq => I.pin q (List.mem_append_right _ (List.mem_cons_of_mem _ hq))
theorem pinned {b : Addr} {o : Obj} (I : Inv X pins σ H s) (e : s.heap.get? b = some o) (h : FpOk X pins H b) (hc : ∀ v, o.data ≠ .cell v) : Inv X ((b, o) :: pins) σ H s := I.pins_of fun q hq => by
  rcases List.mem_cons.mp hq with z | z
  · rw [z]
    exact ⟨e, h.1, h.2.1, h.2.2.1, hc⟩
  · exact I.pin q (List.mem_append_right _ z)
/-- an own object that is not told of has changed -/
theorem repin {b : Addr} {o o' : Obj} {h' : Heap} {tk : Nat} (I : Inv X ((b, o) :: pins) σ H s) (f : FpOk X pins H b) (k : ∀ c u, c ≠ b → s.heap.get? c = some u → h'.get? c = some u) (e : h'.get? b = some o') (hc : ∀ v, o'.data ≠ .cell v) :
    Inv X ((b, o') :: pins) σ H { s with heap := h', toks := tk } := by
  obtain ⟨f0, f1, f2, f3, f4, f5⟩ := f
  exact pinned ((unpin I).turned (t' := tk) k f0 f1 f3 f4 f5) e ⟨f0, f1, f2, f3, f4, f5⟩ hc
theorem unpinned {b : Addr} {o : Obj} {h' : Heap} {tk : Nat} (I : Inv X ((b, o) :: pins) σ H s) (f : FpOk X pins H b) (k : ∀ c u, c ≠ b → s.heap.get? c = some u → h'.get? c = some u) :
    Inv X pins σ H { s with heap := h', toks := tk } := by
  obtain ⟨f0, f1, f2, f3, f4, f5⟩ := f
  exact (unpin I).turned (t' := tk) k f0 f1 f3 f4 f5
theorem swap_pins {p q : Addr × Obj} (I : Inv X (p :: q :: pins) σ H s) : Inv X (q :: p :: pins) σ H s := I.pins_of fun r hr => I.pin r (List.mem_append_right _ (by
  rcases List.mem_cons.mp hr with z | z
  · rw [z]; exact List.mem_cons_of_mem _ List.mem_cons_self
  · rcases List.mem_cons.mp z with z | z
    · rw [z]; exact List.mem_cons_self
    · exact List.mem_cons_of_mem _ (List.mem_cons_of_mem _ z)))
/-- what the key's def does: the pair of the list's length and the list -/
def KeyF (X : Cx) (σ : L2.St) (f : Addr) (oF : Obj) (H0 : Hp) (ps : List (Addr × List Nat)) : Prop := ∀ (pins : List (Addr × Obj)) (s : Shared) (H1 : Hp) (p : Addr × List Nat), p ∈ ps → Inv X pins σ H1 s → s.heap.get? f = some oF → Same H0 H1 →
  wpAny (model X.prog X.w) X.A.in1 (call (.ref f) [.ref p.1]) (EP X pins σ fun v H2 => ∃ t, v = .ref t ∧ Same H1 H2 ∧ H2 t = some (.tup [.int (p.2.length : Int), .ref p.1])) (fun _ _ => False) s
abbrev itObj (a : Addr) (i : Nat) : Obj := { cls := .type "list_iterator", data := .fields #[.ref a, .int (i : Int) 0] }
variable {H0 : Hp} {f a It S : Addr} {oF : Obj} {ps : List (Addr × List Nat)} {res : List Nat} {kw : List (Str × Value)} {R : Result → Shared → Prop}
/-- the iterator's next -/
theorem min_turn {oS : Obj} {Q : Option Value → Shared → Prop} {E : Value → Shared → Prop} {done rest : List (Addr × List Nat)} {p : Addr × List Nat} {oI : Obj} (hh : X.A.handled = none) (ep : ps = done ++ p :: rest)
    (ha : H0 a = some (.lst (ps.map fun p => V.ref p.1))) (fI : FpOk X ((f, oF) :: pins) H0 It) (hSI : S ≠ It)
    (I : Inv X ((S, oS) :: (It, oI) :: (f, oF) :: pins) σ H s) (sH : Same H0 H) (hit : s.heap.IsListIter It a done.length)
    (go : ∀ (oI' : Obj) (h' : Heap) (tk : Nat), Inv X ((S, oS) :: (It, oI') :: (f, oF) :: pins) σ H { s with heap := h', toks := tk } → h'.IsListIter It a (done.length + 1) → Q (some (.ref p.1)) { s with heap := h', toks := tk }) :
    wpAny (model X.prog X.w) X.A.in1 (pyNext (.ref It)) Q E s := by
  obtain ⟨its, rv, pl, hz⟩ := I.list (SqL.of (sH _ _ ha))
  have ei : its = ps.map fun p => Value.ref p.1 := by
    have e1 : (ps.map fun p => V.ref p.1) = (ps.map (·.1)).map V.ref := by rw [List.map_map]; rfl
    rw [e1] at rv
    rw [refs_at rv, List.map_map]
    rfl
  have haI : a ≠ It := ne_of_none (sH _ _ ha) (I.pin _ (List.mem_append_right _ (List.mem_cons_of_mem _ List.mem_cons_self))).2.1
  have W := Walks.list (prog := X.prog) (w := X.w) (A := X.A.in1) hh It a haI its.toArray
  have hlt : done.length < its.toArray.size := by rw [ei, List.size_toArray, List.length_map, ep, List.length_append, List.length_cons]; omega
  refine W.item done.length s _ _ hlt ⟨hit, pl.isList⟩ fun v h' tk hv st k => ?_
  have ev : v = .ref p.1 := by
    rw [ei, List.getElem?_toArray, List.getElem?_map, ep, List.getElem?_append_right (Nat.le_refl _), Nat.sub_self] at hv
    exact (Option.some.inj hv).symm
  rw [ev]
  obtain ⟨oI', e', c', d'⟩ := id st.1
  have fI2 : FpOk X ((S, oS) :: (f, oF) :: pins) H It := by
    obtain ⟨g0, g1, g2, g3, g4, g5⟩ := fI
    refine ⟨(I.pin _ (List.mem_append_right _ (List.mem_cons_of_mem _ List.mem_cons_self))).2.1, g1, g2, g3, g4, fun q hq => ?_⟩
    rcases List.mem_append.mp hq with z | z
    · exact g5 q (List.mem_append_left _ z)
    · rcases List.mem_cons.mp z with z | z
      · rw [z]; exact hSI
      · exact g5 q (List.mem_append_right _ z)
  exact go oI' h' tk (swap_pins (repin (swap_pins I) fI2 (fun b o hb e => k b o (by simpa using hb) e) e' fun v z => by rw [d'] at z; cases z)) st.1
theorem min_stop {oS : Obj} {Q : Option Value → Shared → Prop} {E : Value → Shared → Prop} {oI : Obj} (hh : X.A.handled = none)
    (ha : H0 a = some (.lst (ps.map fun p => V.ref p.1))) (fI : FpOk X ((f, oF) :: pins) H0 It) (hSI : S ≠ It)
    (I : Inv X ((S, oS) :: (It, oI) :: (f, oF) :: pins) σ H s) (sH : Same H0 H) (hit : s.heap.IsListIter It a ps.length)
    (go : ∀ (h' : Heap) (tk : Nat), Inv X ((S, oS) :: pins) σ H { s with heap := h', toks := tk } → Q none { s with heap := h', toks := tk }) :
    wpAny (model X.prog X.w) X.A.in1 (pyNext (.ref It)) Q E s := by
  obtain ⟨its, rv, pl, hz⟩ := I.list (SqL.of (sH _ _ ha))
  have hl : its.toArray.size = ps.length := by rw [List.size_toArray, ← rv.length, List.length_map]
  have haI : a ≠ It := ne_of_none (sH _ _ ha) (I.pin _ (List.mem_append_right _ (List.mem_cons_of_mem _ List.mem_cons_self))).2.1
  have W := Walks.list (prog := X.prog) (w := X.w) (A := X.A.in1) hh It a haI its.toArray
  refine W.done s _ _ ⟨by rw [hl]; exact hit, pl.isList⟩ fun h' tk k => ?_
  have fI2 : FpOk X ((S, oS) :: (f, oF) :: pins) H It := by
    obtain ⟨g0, g1, g2, g3, g4, g5⟩ := fI
    refine ⟨(I.pin _ (List.mem_append_right _ (List.mem_cons_of_mem _ List.mem_cons_self))).2.1, g1, g2, g3, g4, fun q hq => ?_⟩
    rcases List.mem_append.mp hq with z | z
    · exact g5 q (List.mem_append_left _ z)
    · rcases List.mem_cons.mp z with z | z
      · rw [z]; exact hSI
      · exact g5 q (List.mem_append_right _ z)
  exact go h' tk (unpin (swap_pins (unpinned (swap_pins I) fI2 fun b o hb e => k b o (by simpa using hb) e)))
theorem min_name : (toString "min" ++ toString ".loop" : String) = "min.loop" := by decide
theorem pinOf {p : Addr × Obj} (I : Inv X (p :: pins) σ H s) : s.heap.get? p.1 = some p.2 ∧ H p.1 = none := ⟨(I.pin p (List.mem_append_right _ List.mem_cons_self)).1, (I.pin p (List.mem_append_right _ List.mem_cons_self)).2.1⟩
theorem min_loop (hh : X.A.handled = none) (hu : X.A.units + 40 < cLine) (kf : KeyF X σ f oF H0 ps) (hps : ∀ p ∈ ps, H0 p.1 = some (.lst (natsV p.2))) (ha : H0 a = some (.lst (ps.map fun p => V.ref p.1)))
    (fI : FpOk X ((f, oF) :: pins) H0 It) (fS : FpOk X ((f, oF) :: pins) H0 S) (hSI : S ≠ It) (hR : ∀ p H1 s', p ∈ ps → p.2 = res → Inv X pins σ H1 s' → Same H0 H1 → R (.ok (.ret (.ref p.1))) s') :
    ∀ (rest done : List (Addr × List Nat)) (p : Addr × List Nat) (H : Hp) (s : Shared) (kb : Addr) (oI : Obj) (nS : Nat), ps = done ++ rest → p ∈ ps → kMin p.2 (rest.map (·.2)) = res →
      Inv X ((S, seqObj "list" #[.ref p.1, .ref kb] nS) :: (It, oI) :: (f, oF) :: pins) σ H s → Same H0 H → H kb = some (.tup [.int (p.2.length : Int), .ref p.1]) → s.heap.IsListIter It a done.length →
      codeAny (model X.prog X.w) X.A (.builtin "min.loop" ⟨[.ref It, .ref f, .ref S], kw⟩) R s := by
  intro rest
  induction rest with
  | nil =>
    intro done p H s kb oI nS ep hp hres I sH hk hit
    rw [List.append_nil] at ep
    subst ep
    refine codeAny_builtin PySem.F.entry_min_loop (?_ : wpAny _ _ _ _ _ s)
    rw [Around.under_plainId PySem.F.plain_min_loop ⟨[.ref It, .ref f, .ref S], kw⟩]
    show wpAny _ X.A.in1 (seqItems? (.ref S) >>= _) _ _ s
    refine wpAny_bind (wpAny_seqItems (pinOf I).1 rfl (?_ : wpAny _ _ _ _ _ s))
    show wpAny _ X.A.in1 (tryCatch (pyNext (.ref It)) _ >>= _) _ _ _
    refine wpAny_bind (wpAny_tryCatch (min_stop hh ha fI hSI I sH hit fun h' tk I' => ?_))
    obtain ⟨eS, nS'⟩ := pinOf I'
    show wpAny _ X.A.in1 (updateSeq S (fun _ => #[]) >>= _) _ _ _
    refine wpAny_bind (wpAny_updateSeq eS rfl (wpAny_bind (wpAny_letGo (wpAny_pure ?_))))
    have sb := Heap.SameBut.update h' S (Obj.mapSeq fun _ => (#[] : Array Value))
    exact hR p H _ hp hres (unpinned (s := { s with heap := h', toks := tk }) (tk := tk) I' ⟨nS', fS.2.1, fS.2.2.1, fS.2.2.2.1, fS.2.2.2.2.1, fun q hq => fS.2.2.2.2.2 q (by
      rcases List.mem_append.mp hq with z | z
      · exact List.mem_append_left _ z
      · exact List.mem_append_right _ (List.mem_cons_of_mem _ z))⟩ fun b o hb e => (sb.2 b hb).trans e) sH
  | cons x rest ih =>
    intro done p H s kb oI nS ep hp hres I sH hk hit
    have hx : x ∈ ps := by rw [ep]; exact List.mem_append_right _ List.mem_cons_self
    refine codeAny_builtin PySem.F.entry_min_loop (?_ : wpAny _ _ _ _ _ s)
    rw [Around.under_plainId PySem.F.plain_min_loop ⟨[.ref It, .ref f, .ref S], kw⟩]
    show wpAny _ X.A.in1 (seqItems? (.ref S) >>= _) _ _ s
    refine wpAny_bind (wpAny_seqItems (pinOf I).1 rfl (?_ : wpAny _ _ _ _ _ s))
    show wpAny _ X.A.in1 (tryCatch (pyNext (.ref It)) _ >>= _) _ _ _
    refine wpAny_bind (wpAny_tryCatch (min_turn hh ep ha fI hSI I sH hit fun oI' h' tk I1 hit1 => ?_))
    have gf1 : h'.get? f = some oF := (pinOf (unpin (unpin I1))).1
    show wpAny _ X.A.in1 (tryCatch (holding [.ref x.1] (call (.ref f) [.ref x.1])) _ >>= _) _ _ _
    refine wpAny_bind (wpAny_tryCatch (wpAny_holding (wpAny_mono (kf _ _ H x hx I1 gf1 sH) (fun u s2 he => ?_) fun _ _ hF => hF.elim)))
    obtain ⟨v, H2, I2, rv, t, rfl, s12, ht⟩ := he
    obtain rfl : u = Value.ref t := rv
    have sH2 := sH.trans s12
    have hk2 := s12 _ _ hk
    obtain ⟨oI2, eI2, cI2, dI2⟩ := id hit1
    have hit2 : s2.heap.IsListIter It a (done.length + 1) := by
      have e1 := (pinOf (unpin I1)).1
      rw [e1] at eI2
      cases eI2
      exact ⟨oI', (pinOf (unpin I2)).1, cI2, dI2⟩
    have lt := key_lt (A := X.A.in1) I2 ht hk2 (sH2 _ _ (hps x hx)) (sH2 _ _ (hps p hp)) (by show X.A.units + 1 + 16 < _; omega)
    show wpAny _ X.A.in1 (tryCatch (holding [.ref x.1, .ref t] (richCompare .Lt (.ref t) (.ref kb) >>= _)) _ >>= _) _ _ _
    refine wpAny_bind (wpAny_tryCatch (wpAny_holding (wpAny_bind (lt _ _ _ _ (wpAny_bind (wpAny_holding (wpAny_truthy_bool (wpAny_bind (wpAny_letGo (wpAny_pure ?_))))))))))
    rw [List.map_cons, kMin] at hres
    by_cases hb : kLt x.2 p.2 = true
    · rw [if_pos hb] at hres
      rw [hb, if_pos rfl]
      obtain ⟨eS, nS'⟩ := pinOf I2
      have sb := Heap.SameBut.update s2.heap S (Obj.mapSeq fun _ => #[.ref x.1, .ref t])
      obtain ⟨c2, hc2⟩ : ∃ c2, (s2.heap.update S (Obj.mapSeq fun _ => #[.ref x.1, .ref t])).get? S = some (seqObj "list" #[.ref x.1, .ref t] c2) := ⟨_, get?_update_seq eS fun _ => #[.ref x.1, .ref t]⟩
      refine wpAny_bind (wpAny_updateSeq eS rfl (wpAny_bind (wpAny_letGo ?_)))
      rw [min_name]
      have fS2 : FpOk X ((It, oI') :: (f, oF) :: pins) H2 S := by
        obtain ⟨g0, g1, g2, g3, g4, g5⟩ := fS
        refine ⟨nS', g1, g2, g3, g4, fun q hq => ?_⟩
        rcases List.mem_append.mp hq with z | z
        · exact g5 q (List.mem_append_left _ z)
        · rcases List.mem_cons.mp z with z | z
          · rw [z]; exact hSI.symm
          · exact g5 q (List.mem_append_right _ z)
      refine wpAny_pure ⟨plainId_quiet PySem.F.plain_min_loop _, ih (done ++ [x]) x H2 _ t oI' c2 (by rw [List.append_assoc]; exact ep) hx hres (repin (tk := s2.toks) I2 fS2 (fun b o hb e => (sb.2 b hb).trans e) hc2 fun v z => by cases z) sH2 ht ?_⟩
      rw [List.length_append]
      exact ⟨oI', (sb.2 It (Ne.symm hSI)).trans (pinOf (unpin I2)).1, by obtain ⟨o, e, c, d⟩ := hit2; rw [(pinOf (unpin I2)).1] at e; cases e; exact ⟨c, d⟩⟩
    · have hb' : kLt x.2 p.2 = false := by cases e : kLt x.2 p.2 <;> first | rfl | exact absurd e hb
      rw [if_neg hb] at hres
      rw [hb', if_neg Bool.false_ne_true]
      refine wpAny_bind (wpAny_letGo ?_)
      rw [min_name]
      refine wpAny_pure ⟨plainId_quiet PySem.F.plain_min_loop _, ih (done ++ [x]) p H2 _ kb oI' nS (by rw [List.append_assoc]; exact ep) hp hres I2 sH2 hk2 ?_⟩
      rw [List.length_append]
      exact hit2
theorem fp_more {b c : Addr} {o : Obj} {H1 : Hp} (h : FpOk X pins H1 b) (e : c ≠ b) : FpOk X ((c, o) :: pins) H1 b := by
  obtain ⟨g0, g1, g2, g3, g4, g5⟩ := h
  refine ⟨g0, g1, g2, g3, g4, fun q hq => ?_⟩
  rcases List.mem_append.mp hq with z | z
  · exact g5 q (List.mem_append_left _ z)
  · rcases List.mem_cons.mp z with z | z
    · rw [z]; exact e
    · exact g5 q (List.mem_append_right _ z)
theorem min_args2 (a v d : Value) : argsOk "min" ⟨[a], [(Str.ofString "key", v), (Str.ofString "default", d)]⟩ := by unfold argsOk; kernel_rfl
/-- min(xs, key=f), min(xs, key=f, default=None) -/
theorem min_run {pins : List (Addr × Obj)} {Q : VK} {dv : Option Value} (hh : X.A.handled = none) (hu : X.A.units + 40 < cLine) (kf : KeyF X σ f oF H0 ps) (hps : ∀ p ∈ ps, H0 p.1 = some (.lst (natsV p.2))) (ha : H0 a = some (.lst (ps.map fun p => V.ref p.1)))
    (I : Inv X ((f, oF) :: pins) σ H0 s) (hkw : kw = [(Str.ofString "key", .ref f)] ∧ dv = none ∧ ps ≠ [] ∨ kw = [(Str.ofString "key", .ref f), (Str.ofString "default", .none)] ∧ dv = some .none)
    (q0 : ps = [] → ∀ H1, Same H0 H1 → Q .non H1) (q1 : ∀ p ∈ ps, kMinL (ps.map (·.2)) = some p.2 → ∀ H1, Same H0 H1 → Q (.ref p.1) H1) :
    wpAny (model X.prog X.w) X.A (call (.builtin "min") [.ref a] kw) (EP X pins σ Q) X.xe s := by
  have args : argsOk "min" ⟨[.ref a], kw⟩ := by
    rcases hkw with ⟨rfl, _⟩ | ⟨rfl, _⟩
    · exact PyProof.Rows.kmk_min_key (.ref a) (.ref f)
    · exact min_args2 (.ref a) (.ref f) .none
  have bp : Builtin.Builtins.bindParams "min" ["key", "default"] 0 ⟨[], kw⟩ = pure [some (.ref f), dv] := by
    rcases hkw with ⟨rfl, rfl, _⟩ | ⟨rfl, rfl⟩ <;> rfl
  refine PyProof.Rows.kmk_tree PySem.F.kind_min PySem.F.plain_min PySem.F.entry_min args (?_ : wpAny _ _ _ _ _ s)
  show wpAny _ X.A.in1 (Builtin.Builtins.bindParams "min" ["key", "default"] 0 ⟨[], kw⟩ >>= _) _ _ s
  refine wpAny_bind (wpAny_of_eq bp ?_)
  obtain ⟨its, rv, pl, hz⟩ := I.list (SqL.of ha)
  refine wpAny_bind (wpAny_pure (wpAny_bind (wpAny_pyIter_list pl.isList (wpAny_bind (wpAny_newList ?_ (Nat.zero_le _))))))
  rw [min_name]
  refine wpAny_pure ⟨plainId_quiet PySem.F.plain_min_loop _, ?_⟩
  have hl : its.length = ps.length := by rw [← rv.length, List.length_map]
  obtain ⟨It, hIt⟩ : ∃ It, It = s.heap.objs.size := ⟨_, rfl⟩
  obtain ⟨S, hS⟩ : ∃ S, S = (s.heap.push (itObj a 0)).objs.size := ⟨_, rfl⟩
  have hS1 : S = It + 1 := by rw [hS, hIt]; exact size_push' ..
  have hSI : S ≠ It := by omega
  obtain ⟨h2, eh2⟩ : ∃ h2, h2 = (s.heap.push (itObj a 0)).push (seqObj "list" #[] 0) := ⟨_, rfl⟩
  have gI : h2.get? It = some (itObj a 0) := by rw [eh2, hIt]; exact Heap.get?_push_of_some _ (Heap.get?_push_size _ rfl)
  have gS : h2.get? S = some (seqObj "list" #[] 0) := by rw [eh2, hS]; exact Heap.get?_push_size _ rfl
  have kept : ∀ b o, s.heap.get? b = some o → h2.get? b = some o := fun b o e => by rw [eh2]; exact Heap.get?_push_of_some _ (Heap.get?_push_of_some _ e)
  have fI : FpOk X ((f, oF) :: pins) H0 It := I.fpOk (by omega) (I.hok.fresh (by omega))
  have fS : FpOk X ((f, oF) :: pins) H0 S := I.fpOk (by omega) (I.hok.fresh (by omega))
  have I2 : Inv X ((S, seqObj "list" #[] 0) :: (It, itObj a 0) :: (f, oF) :: pins) σ H0 { s with heap := h2 } :=
    pinned (s := { s with heap := h2 }) (pinned (s := { s with heap := h2 }) (I.kept (t' := s.toks) kept) gI fI fun v z => by cases z) gS (fp_more fS (Ne.symm hSI)) fun v z => by cases z
  have hit : h2.IsListIter It a 0 := ⟨_, gI, rfl, rfl⟩
  suffices hc : codeAny (model X.prog X.w) X.A (.builtin "min.loop" ⟨[.ref It, .ref f, .ref S], dv.toList.map fun d => ("default", d)⟩)
      (fun r s' => match r with | .ok (.ret v) => EP X pins σ Q v s' | .ok _ => False | .error e => X.xe e s') { s with heap := h2 } by
    rw [hIt, hS, eh2] at hc
    exact hc
  cases ps with
  | nil =>
    have edv : dv = some .none := by
      rcases hkw with ⟨_, _, z⟩ | ⟨_, z⟩
      · exact absurd rfl z
      · exact z
    subst edv
    refine codeAny_builtin PySem.F.entry_min_loop (?_ : wpAny _ _ _ _ _ { s with heap := h2 })
    rw [Around.under_plainId PySem.F.plain_min_loop ⟨[.ref It, .ref f, .ref S], (some Value.none).toList.map fun d => ("default", d)⟩]
    show wpAny _ X.A.in1 (seqItems? (.ref S) >>= _) _ _ { s with heap := h2 }
    refine wpAny_bind (wpAny_seqItems gS rfl (?_ : wpAny _ _ _ _ _ { s with heap := h2 }))
    show wpAny _ X.A.in1 (tryCatch (pyNext (.ref It)) _ >>= _) _ _ { s with heap := h2 }
    refine wpAny_bind (wpAny_tryCatch (min_stop hh ha fI hSI I2 (Same.refl _) hit fun h' tk I' => ?_))
    refine wpAny_bind (wpAny_rule (wpAny_pure ?_))
    exact ⟨.non, H0, unpin I', rfl, q0 rfl H0 (Same.refl _)⟩
  | cons x rest =>
    have hx : x ∈ x :: rest := List.mem_cons_self
    refine codeAny_builtin PySem.F.entry_min_loop (?_ : wpAny _ _ _ _ _ { s with heap := h2 })
    rw [Around.under_plainId PySem.F.plain_min_loop ⟨[.ref It, .ref f, .ref S], dv.toList.map fun d => ("default", d)⟩]
    show wpAny _ X.A.in1 (seqItems? (.ref S) >>= _) _ _ { s with heap := h2 }
    refine wpAny_bind (wpAny_seqItems gS rfl (?_ : wpAny _ _ _ _ _ { s with heap := h2 }))
    show wpAny _ X.A.in1 (tryCatch (pyNext (.ref It)) _ >>= _) _ _ { s with heap := h2 }
    refine wpAny_bind (wpAny_tryCatch (min_turn (done := []) hh rfl ha fI hSI I2 (Same.refl _) hit fun oI' h' tk I1 hit1 => ?_))
    have gf1 : h'.get? f = some oF := (pinOf (unpin (unpin I1))).1
    show wpAny _ X.A.in1 (tryCatch (holding [.ref x.1] (call (.ref f) [.ref x.1])) _ >>= _) _ _ _
    refine wpAny_bind (wpAny_tryCatch (wpAny_holding (wpAny_mono (kf _ _ H0 x hx I1 gf1 (Same.refl _)) (fun u s2 he => ?_) fun _ _ hF => hF.elim)))
    obtain ⟨v, H2, I3, rv, t, rfl, s12, ht⟩ := he
    obtain rfl : u = Value.ref t := rv
    obtain ⟨oI2, eI2, cI2, dI2⟩ := id hit1
    have hit2 : s2.heap.IsListIter It a 1 := by
      have e1 := (pinOf (unpin I1)).1
      rw [e1] at eI2
      cases eI2
      exact ⟨oI', (pinOf (unpin I3)).1, cI2, dI2⟩
    obtain ⟨eS, nS'⟩ := pinOf I3
    have sb := Heap.SameBut.update s2.heap S (Obj.mapSeq fun _ => #[.ref x.1, .ref t])
    obtain ⟨c2, hc2⟩ : ∃ c2, (s2.heap.update S (Obj.mapSeq fun _ => #[.ref x.1, .ref t])).get? S = some (seqObj "list" #[.ref x.1, .ref t] c2) := ⟨_, get?_update_seq eS fun _ => #[.ref x.1, .ref t]⟩
    show wpAny _ X.A.in1 (updateSeq S (fun _ => #[.ref x.1, .ref t]) >>= _) _ _ _
    refine wpAny_bind (wpAny_updateSeq eS rfl ?_)
    rw [min_name]
    refine wpAny_pure ⟨plainId_quiet PySem.F.plain_min_loop _, ?_⟩
    refine min_loop (H0 := H0) (ps := x :: rest) (res := kMin x.2 (rest.map (·.2))) hh hu kf hps ha fI fS hSI (fun p H1 s' hp e I' sH => ?_) rest [x] x H2 _ t oI' c2 rfl hx rfl (repin (tk := s2.toks) I3 (fp_more (⟨nS', fS.2⟩ : FpOk X ((f, oF) :: pins) H2 S) (Ne.symm hSI)) (fun b o hb e => (sb.2 b hb).trans e) hc2 fun v z => by cases z) s12 ht ?_
    · exact ⟨.ref p.1, H1, I', rfl, q1 p hp (by rw [e]; rfl) H1 sH⟩
    · exact ⟨oI', (sb.2 It (Ne.symm hSI)).trans (pinOf (unpin I3)).1, by obtain ⟨o, e, c, d⟩ := hit2; rw [(pinOf (unpin I3)).1] at e; cases e; exact ⟨c, d⟩⟩
end
end Z

/-! lambdas: defs that make them, their tables; min(xs, key=lambda x: (len(x), x)) -/
namespace Z
open PySem PySem.Spec PyProof.Rows L2 LamX
/-! ### heaps of which the tables grow -/
theorem ext_same {H H' : Hp} (s : Same H H') : ExtN H H' := fun b o e _ => s b o e
theorem ext_at {H H' : Hp} {b : Addr} {o : HO} (s : ExtN H H') (e : H b = some o) (n : ∀ ps, o ≠ .tbl ps) : H' b = some o := s b o e n
theorem ext_lst {H H' : Hp} {b : Addr} {xs : List V} (s : ExtN H H') (e : H b = some (.lst xs)) : H' b = some (.lst xs) := s b _ e fun _ z => nomatch z
theorem ext_tup {H H' : Hp} {b : Addr} {xs : List V} (s : ExtN H H') (e : H b = some (.tup xs)) : H' b = some (.tup xs) := s b _ e fun _ z => nomatch z
theorem ext_dT {H H' : Hp} {b : Addr} {xs : KTs} (s : ExtN H H') (e : H b = some (.dT xs)) : H' b = some (.dT xs) := s b _ e fun _ z => nomatch z
/-- all but the things at l, and the tables, stays -/
def ButL (l : List Addr) (H H' : Hp) : Prop := ∀ b o, b ∉ l → H b = some o → (∀ ps, o ≠ .tbl ps) → H' b = some o
namespace ButL
variable {l : List Addr} {H H1 H2 : Hp} {x : Addr}
theorem refl (l : List Addr) (H : Hp) : ButL l H H := fun _ _ _ e _ => e
theorem of_same (s : Same H H1) : ButL l H H1 := fun b o _ e _ => s b o e
theorem of_ext (s : ExtN H H1) : ButL l H H1 := fun b o _ e n => s b o e n
theorem trans (h : ButL l H H1) (k : ButL l H1 H2) : ButL l H H2 := fun b o hb e n => k b o hb (h b o hb e n) n
theorem same (h : ButL l H H1) (s : Same H1 H2) : ButL l H H2 := h.trans (of_same s)
theorem ext (h : ButL l H H1) (s : ExtN H1 H2) : ButL l H H2 := h.trans (of_ext s)
theorem but (h : ButL l H H1) (k : But x H1 H2) (hx : x ∈ l) : ButL l H H2 := fun b o hb e n => k b o (fun z => hb (z ▸ hx)) (h b o hb e n)
theorem butN (h : ButL l H H1) (k : But x H1 H2) (hx : H x = none) : ButL l H H2 := fun b o hb e n => k b o (ne_of_none e hx) (h b o hb e n)
theorem lst {xs : List V} {b : Addr} (h : ButL l H H1) (e : H b = some (.lst xs)) (hb : b ∉ l := by simp) : H1 b = some (.lst xs) := h b _ hb e fun _ z => nomatch z
theorem tup {xs : List V} {b : Addr} (h : ButL l H H1) (e : H b = some (.tup xs)) (hb : b ∉ l := by simp) : H1 b = some (.tup xs) := h b _ hb e fun _ z => nomatch z
theorem dT {xs : KTs} {b : Addr} (h : ButL l H H1) (e : H b = some (.dT xs)) (hb : b ∉ l := by simp) : H1 b = some (.dT xs) := h b _ hb e fun _ z => nomatch z
theorem mono {l' : List Addr} (h : ButL l H H1) (s : ∀ b ∈ l, b ∈ l') : ButL l' H H1 := fun b o hb e n => h b o (fun z => hb (s b z)) e n
theorem newL {H3 : Hp} (h : ButL l H H1) (s : Same H1 H2) (k : ButL [x] H2 H3) (hx : H1 x = none) : ButL l H H3 := fun b o hb e n => by
  have e1 := h b o hb e n
  exact k b o (by simpa using ne_of_none e1 hx) (s _ _ e1) n
end ButL
/-- nothing stood there, or a table -/
def Fresh (H : Hp) (a : Addr) : Prop := ∀ o, H a = some o → ∃ ps, o = .tbl ps
theorem fresh_of {l : List Addr} {H H' : Hp} {a : Addr} (h : ButL l H H') (e : H' a = none) (hl : ∀ b ∈ l, H' b ≠ none) : Fresh H a := fun o ho => by
  refine Classical.byContradiction fun n => ?_
  have := h a o (fun z => hl a z e) ho fun ps z => n ⟨ps, z⟩
  rw [e] at this
  cases this
theorem fresh_ne {H : Hp} {a b : Addr} {o : HO} (h : Fresh H a) (e : H b = some o) (n : ∀ ps, o ≠ .tbl ps) : b ≠ a := fun z => by
  obtain ⟨ps, hp⟩ := h o (z ▸ e)
  exact n ps hp
theorem fresh_back {H H' : Hp} {a : Addr} (h : ExtN H H') (f : Fresh H' a) : Fresh H a := fun o e => by
  refine Classical.byContradiction fun n => ?_
  exact n (f o (h a o e fun ps z => n ⟨ps, z⟩))
theorem ext_of_nil {H H' : Hp} (h : ButL [] H H') : ExtN H H' := fun b o e n => h b o (by simp) e n
theorem tabs_but {T : List (Addr × Str)} {H H' : Hp} {x : Addr} {o : HO} (t : Tabs T H) (k : But x H H') (e : H x = some o) (n : ∀ ps, o ≠ .tbl ps) (n2 : ∀ q, o ≠ CodeO x q) : Tabs T H' := fun p hp => by
  obtain ⟨ps, h1, h2, h3⟩ := t p hp
  refine ⟨ps, k _ _ (ne_of h1 e (n ps).symm) h1, h2, fun pos cv hc => ?_⟩
  obtain ⟨c, e1, e2⟩ := h3 pos cv hc
  refine ⟨c, e1, k _ _ (fun z => ?_) e2⟩
  rw [z, e] at e2
  exact n2 p.2 (Option.some.inj e2)
theorem tabs_same {T : List (Addr × Str)} {H H' : Hp} (t : Tabs T H) (s : Same H H') : Tabs T H' := t.ext s
/-- a def of the module that makes lambdas: its code's table is P -/
structure DfT (K : PySem.W.Frag) (mg : Str → Option Value) (base : Heap) (x : Str) (st : Stmt) (ps : List Str) (P : Addr) : Prop where
  ex : ∃ (f c : Addr) (oc : Value) (od : Option Addr) (kV doc pm : Value) (an : Option Addr) (ct : Value) (osl : Array (Option Value)), K.lookup f = some ⟨oc, od, .func (PySem.W.fnOf x x (defArgs st) (defBody st) (defScope st) .none kV doc pm an (.ref c) ct), osl⟩ ∧
    PySem.W.codeIn K (.ref c) x = true ∧ PySem.W.keepIn K (.ref f) = true ∧ mg x = some (.ref f) ∧ Binds K (PySem.W.fnOf x x (defArgs st) (defBody st) (defScope st) .none kV doc pm an (.ref c) ct) ps [] ∧ TabB base mg c P
section
variable {P : Program} {w : World} {K : PySem.W.Frag} {mg : Str → Option Value} {base : Heap}
theorem DfT.ok {x : Str} {st : Stmt} {N ps : List Str} {k : Nat} {sp : Sp} {PT : Addr} (F : DfT K mg base x st ps PT) (S : FnScope N ps (defScope st)) (len : ∀ vs H Q E, sp vs H Q E → vs.length = ps.length)
    (hbody : ∀ (f c : Addr) (A : Around) (outer : List Env) (s : Shared) (H : Hp) (vs : List V) (Q : VK) (E : XK), TabB base mg c PT → Room k (A.deeper (envOfC x (defScope st) s.heap.objs.size f (.ref c))) → sp vs H Q E →
      ∃ t, PSs (cxOf CX0 P w K mg base N x (defScope st) f (.ref c) A outer s H E).nox (defBody st) t ∧ t { nx := fun _ H' => Q .non H', rt := Q } (start N vs) H) : OkAt P w K mg base x (k + 1) ps sp := by
  obtain ⟨f, c, oc, od, kV, doc, pm, an, ct, osl, lk, hcd, kp, m, b, TB⟩ := F.ex
  exact ⟨f, _, fn_of lk hcd S len fun A outer s H vs Q E hr hsp => by
    obtain ⟨t, h, q⟩ := hbody f c A outer s H vs Q E TB hr hsp
    exact ⟨t, h.nox, q⟩, b, m, kp⟩
end
/-! ### min(xs, key=lambda x: (len(x), x)) -/
def tKey (K : PySem.W.Frag) : TE := tTupN (tCons (tCB (bLen K) (tCons (tVar 0) tNil)) (tCons (tVar 0) tNil))
def tMinK (T : List (Addr × Str)) (te : TE) : TE := fun σ H Q => te σ H fun v H1 => ∃ (a : Addr) (ps : List (Addr × List Nat)), v = .ref a ∧ ps ≠ [] ∧ H1 a = some (.lst (ps.map fun p => V.ref p.1)) ∧ (∀ p ∈ ps, H1 p.1 = some (.lst (natsV p.2)) ∧ p.2.length ≤ 10000) ∧ Tabs T H1 ∧
  ∀ p ∈ ps, kMinL (ps.map (·.2)) = some p.2 → ∀ H2, ExtN H1 H2 → Tabs T H2 → Q (.ref p.1) H2
def tMinKD (T : List (Addr × Str)) (te : TE) : TE := fun σ H Q => te σ H fun v H1 => ∃ (a : Addr) (ps : List (Addr × List Nat)), v = .ref a ∧ H1 a = some (.lst (ps.map fun p => V.ref p.1)) ∧ (∀ p ∈ ps, H1 p.1 = some (.lst (natsV p.2)) ∧ p.2.length ≤ 10000) ∧ Tabs T H1 ∧
  (ps = [] → ∀ H2, ExtN H1 H2 → Tabs T H2 → Q .non H2) ∧ ∀ p ∈ ps, kMinL (ps.map (·.2)) = some p.2 → ∀ H2, ExtN H1 H2 → Tabs T H2 → Q (.ref p.1) H2
theorem r_minK {T : List (Addr × Str)} {te : TE} {σ : L2.St} {H : Hp} {Q : VK} (q : te σ H fun v H1 => ∃ (a : Addr) (ps : List (Addr × List Nat)), v = .ref a ∧ ps ≠ [] ∧ H1 a = some (.lst (ps.map fun p => V.ref p.1)) ∧ (∀ p ∈ ps, H1 p.1 = some (.lst (natsV p.2)) ∧ p.2.length ≤ 10000) ∧ Tabs T H1 ∧
  ∀ p ∈ ps, kMinL (ps.map (·.2)) = some p.2 → ∀ H2, ExtN H1 H2 → Tabs T H2 → Q (.ref p.1) H2) : tMinK T te σ H Q := q
theorem r_minKD {T : List (Addr × Str)} {te : TE} {σ : L2.St} {H : Hp} {Q : VK} (q : te σ H fun v H1 => ∃ (a : Addr) (ps : List (Addr × List Nat)), v = .ref a ∧ H1 a = some (.lst (ps.map fun p => V.ref p.1)) ∧ (∀ p ∈ ps, H1 p.1 = some (.lst (natsV p.2)) ∧ p.2.length ≤ 10000) ∧ Tabs T H1 ∧
  (ps = [] → ∀ H2, ExtN H1 H2 → Tabs T H2 → Q .non H2) ∧ ∀ p ∈ ps, kMinL (ps.map (·.2)) = some p.2 → ∀ H2, ExtN H1 H2 → Tabs T H2 → Q (.ref p.1) H2) : tMinKD T te σ H Q := q
section
variable {X : Cx} {pins : List (Addr × Obj)} {σ : L2.St} {H : Hp} {s : Shared}
theorem key_run {K : PySem.W.Frag} {H1 : Hp} {l : Addr} {t : List Nat} (h : H1 l = some (.lst (natsV t))) : tKey K (start ["x"] [.ref l]) H1 fun v H2 => ∃ q, v = .ref q ∧ Same H1 H2 ∧ H2 q = some (.tup [.int (t.length : Int), .ref l]) := by
  have e : (natsV t).length = t.length := List.length_map _
  refine r_tup (r_cons (r_cb (r_cons (r_var rfl (r_nil (r_lenL h (r_cons (r_var rfl (r_nil ⟨le_size (by show 2 ≤ 100000; decide), fun p H2 n s e2 => ⟨p, rfl, s, ?_⟩⟩)))))))))
  rw [e2, e]
/-- the lambda that a def makes: its function as an object of ours, for min's key -/
theorem lam_key {x : Str} {params : Arguments} {body : Expr} {scope : Scope} {pm ctv : Value} {f c' : Addr} {k : Nat} {q : Str} {ps : List (Addr × List Nat)}
    (hco : H c' = some (CodeO c' q)) (S : FnScope [x] [x] scope) (hr : Room (k + 1) X.A.in1)
    (hbind : ∀ u, bindArgs (PySem.W.kla_fn "<lambda>" q params body scope [] pm (.ref c') ctv) ⟨[u], []⟩ = pure [(x, u)])
    (hbody : ∀ (A : Around) (outer : List Env) (s : Shared) (H : Hp) (E : XK), Room k (A.deeper (envOfC q scope s.heap.objs.size f (.ref c'))) → PE (cxOf CX0 X.prog X.w X.K X.mg X.base [x] q scope f (.ref c') A outer s H E) body (tKey X.K))
    (hps : ∀ p ∈ ps, H p.1 = some (.lst (natsV p.2))) : KeyF X σ f (PySem.W.kla_obj "<lambda>" q params body scope [] pm c' ctv) H ps := fun pins s H1 p hp I hf sH => by
  have h := key_run (K := X.K) (sH _ _ (hps p hp))
  exact lam_call (N := [x]) (v := .ref p.1) I hf (sH _ _ hco) S hr (hbind _) hbody rfl h
theorem lam_min {lpos : Pos} {params : Arguments} {body : Expr} {scope : Scope} {x : Str} {c PT : Addr} {k : Nat} {T : List (Addr × Str)} {kw : Value → List (Str × Value)} {dv : Option Value} {Q : VK} {a : Addr} {ps : List (Addr × List Nat)} {R : Value → Shared → Prop}
    (hcalm : X.calm = true) (TB : TabB X.base X.mg c PT) (hcode : X.env.code = .ref c) (hm : (PT, X.env.qual ++ "<lambda>") ∈ T) (hu : ∀ p ∈ T, p.1 = PT → p.2 = X.env.qual ++ "<lambda>") (hdef : defaultsOf params X.env = ([], []))
    (hclo : cloFrom X.env.cells scope.names [] = []) (hfree : ∀ y ∈ scope.names, y.2 = .free → ∃ c, X.env.cells.lookup y.1 = some c) (S : FnScope [x] [x] scope) (hr : Room (k + 1) X.A.in1)
    (hbind : ∀ (q : Str) (pm cv ctv u : Value), bindArgs (PySem.W.kla_fn "<lambda>" q params body scope [] pm cv ctv) ⟨[u], []⟩ = pure [(x, u)])
    (hbody : ∀ (f c' : Addr) (A : Around) (outer : List Env) (s : Shared) (H : Hp) (E : XK), Room k (A.deeper (envOfC (X.env.qual ++ "<lambda>") scope s.heap.objs.size f (.ref c'))) → PE (cxOf CX0 X.prog X.w X.K X.mg X.base [x] (X.env.qual ++ "<lambda>") scope f (.ref c') A outer s H E) body (tKey X.K))
    (I : Inv X pins σ H s) (hkw : ∀ f, kw f = [(Str.ofString "key", f)] ∧ dv = none ∧ ps ≠ [] ∨ kw f = [(Str.ofString "key", f), (Str.ofString "default", .none)] ∧ dv = some .none)
    (ha : H a = some (.lst (ps.map fun p => V.ref p.1))) (hps : ∀ p ∈ ps, H p.1 = some (.lst (natsV p.2)) ∧ p.2.length ≤ 10000) (hT : Tabs T H)
    (q0 : ps = [] → ∀ H2, ExtN H H2 → Tabs T H2 → Q .non H2) (q1 : ∀ p ∈ ps, kMinL (ps.map (·.2)) = some p.2 → ∀ H2, ExtN H H2 → Tabs T H2 → Q (.ref p.1) H2)
    (hrest : ∀ f s', wpAny (model X.prog X.w) X.A (call (.builtin "min") [.ref a] (kw f)) (EP X pins σ Q) X.xe s' → R f s') :
    wpAny (model X.prog X.w) X.A (eval (.Lambda params body scope lpos) X.env) R X.xe s := by
  refine (lam_make2 I TB hcode hm hu hT hdef hfree fun f c' pm ctv H1 s' I1 xn T1 hf hfn hfr hco => hrest _ s' ?_)
  rw [hclo] at hf
  have hnl : f ≠ X.env.locals := fun z => by
    obtain ⟨m, ⟨o, es, ep, e, d, _⟩, _⟩ := I1.loc
    rw [← z, hf] at e
    cases e
    cases d
  have hnf : f ∉ X.fs := fun z => by
    rcases I1.ok.stk with e | ⟨e, _⟩
    · exact hfr (by rw [e]; exact z)
    · refine hfr ?_
      rw [e]
      show f ∈ frs (X.env :: X.outer)
      unfold frs
      rw [List.filterMap_cons]
      split
      · exact z
      · exact List.mem_cons_of_mem _ z
  have I2 : Inv X ((f, PySem.W.kla_obj "<lambda>" (X.env.qual ++ "<lambda>") params body scope [] pm c' ctv) :: pins) σ H1 s' := I1.pins_of fun r hr => by
    rcases List.mem_cons.mp hr with z | z
    · rw [z]
      exact ⟨hf, hfn, hnl, hnf, fun v z => by cases z⟩
    · exact I1.pin r (List.mem_append_right _ z)
  have hps1 : ∀ p ∈ ps, H1 p.1 = some (.lst (natsV p.2)) := fun p hp => ext_lst xn (hps p hp).1
  exact min_run (dv := dv) (hr.hd) (by have := hr.un; show X.A.units + 40 < _; have : X.A.in1.units = X.A.units + 1 := rfl; omega) (lam_key hco S hr (hbind _ _ _ _) (hbody f c') hps1) hps1 (ext_lst xn ha) I2 (hkw _)
    (fun e H2 s2 => q0 e H2 (xn.trans (ext_same s2)) (T1.ext s2)) (fun p hp e H2 s2 => q1 p hp e H2 (xn.trans (ext_same s2)) (T1.ext s2))
/-- min(xs, key=lambda x: (len(x), x)) -/
theorem pe_minK (K : PySem.W.Frag) {e : Expr} {te : TE} {p pos lpos k1 : Pos} {params : Arguments} {body : Expr} {scope : Scope} {x : Str} {c PT : Addr} {k : Nat} {T : List (Addr × Str)} (ha : PA X [e] (tCons te tNil)) (hg : Gl X "min") (hmg : X.mg "min" = none) (TB : TabB X.base X.mg c PT) (hm : (PT, X.env.qual ++ "<lambda>") ∈ T) (hu : ∀ p ∈ T, p.1 = PT → p.2 = X.env.qual ++ "<lambda>")
    (hr : Room (k + 2) X.A) (S : FnScope [x] [x] scope)
    (hbody : ∀ (f c' : Addr) (A : Around) (outer : List Env) (s : Shared) (H : Hp) (E : XK), Room k (A.deeper (envOfC (X.env.qual ++ "<lambda>") scope s.heap.objs.size f (.ref c'))) → PE (cxOf CX0 X.prog X.w X.K X.mg X.base [x] (X.env.qual ++ "<lambda>") scope f (.ref c') A outer s H E) body (tKey K))
    (hbind : ∀ (q : Str) (pm cv ctv u : Value), bindArgs (PySem.W.kla_fn "<lambda>" q params body scope [] pm cv ctv) ⟨[u], []⟩ = pure [(x, u)] := by intros; rfl)
    (hk : X.K = K := by rfl) (hcalm : X.calm = true := by rfl) (hcode : X.env.code = .ref c := by rfl) (hdef : defaultsOf params X.env = ([], []) := by rfl) (hclo : cloFrom X.env.cells scope.names [] = [] := by rfl) (hfree : ∀ y ∈ scope.names, y.2 ≠ .free := by decide +kernel)
    (hst : backTo pos (starEach [e] X.env) = (false, eval e X.env) :: backTo pos (starEach [] X.env) := by rfl) (hpl : (backTo pos (starEach [e] X.env)).any (·.1) = false := by rfl) :
    PE X (.Call (.Name "min" p) [e] [⟨some "key", .Lambda params body scope lpos, k1⟩] pos) (tMinK T te) := by
  subst hk
  refine ⟨fun pins s σ H Q I h => ?_⟩
  refine wpAny_Call_Name_kw (ld_blt I hg hmg (show bootBuiltins "min" = some (.builtin "min") by decide +kernel) (PyProof.Rows.callWith_kw (thn (ha.run pos pins s σ H (fun vs H1 => match vs with
    | [v] => ∃ (a : Addr) (ps : List (Addr × List Nat)), v = .ref a ∧ ps ≠ [] ∧ H1 a = some (.lst (ps.map fun p => V.ref p.1)) ∧ (∀ p ∈ ps, H1 p.1 = some (.lst (natsV p.2)) ∧ p.2.length ≤ 10000) ∧ Tabs T H1 ∧ ∀ p ∈ ps, kMinL (ps.map (·.2)) = some p.2 → ∀ H2, ExtN H1 H2 → Tabs T H2 → Q (.ref p.1) H2
    | _ => False) I h) fun us s1 hq => ?_) hst hpl (by rfl) (by rfl)))
  obtain ⟨vs, H1, I1, r, hq⟩ := hq
  match vs, r, hq with
  | [v], r, hq =>
    obtain ⟨a, ps, rfl, hne, ha, hps, hT, q⟩ := hq
    obtain rfl := Vals.ref1 r
    show wpAny _ _ (evalAll [do let v ← eval (.Lambda params body scope lpos) X.env; standAt pos; pure v]) _ _ s1
    refine wpAny_evalAll_cons (wpAny_bind (lam_min (kw := fun f => [(Str.ofString "key", f)]) (dv := none) hcalm TB hcode hm hu hdef hclo (fun y hy z => absurd z (hfree y hy)) S hr.in1 hbind hbody I1 (fun f => .inl ⟨rfl, rfl, hne⟩) ha hps hT (fun z => absurd z hne) q fun f s' hw => wpAny_bind (wpAny_standAt (wpAny_pure ?_))))
    exact wpAny_evalAll_nil hw
/-- min(xs, key=lambda x: (len(x), x), default=None) -/
theorem pe_minKD (K : PySem.W.Frag) {e : Expr} {te : TE} {p pos lpos k1 k2 cpos : Pos} {j : Nat} {params : Arguments} {body : Expr} {scope : Scope} {x : Str} {c PT : Addr} {k : Nat} {T : List (Addr × Str)} (ha : PA X [e] (tCons te tNil)) (hg : Gl X "min") (hmg : X.mg "min" = none) (TB : TabB X.base X.mg c PT) (hm : (PT, X.env.qual ++ "<lambda>") ∈ T) (hu : ∀ p ∈ T, p.1 = PT → p.2 = X.env.qual ++ "<lambda>")
    (hr : Room (k + 2) X.A) (S : FnScope [x] [x] scope)
    (hbody : ∀ (f c' : Addr) (A : Around) (outer : List Env) (s : Shared) (H : Hp) (E : XK), Room k (A.deeper (envOfC (X.env.qual ++ "<lambda>") scope s.heap.objs.size f (.ref c'))) → PE (cxOf CX0 X.prog X.w X.K X.mg X.base [x] (X.env.qual ++ "<lambda>") scope f (.ref c') A outer s H E) body (tKey K))
    (hbind : ∀ (q : Str) (pm cv ctv u : Value), bindArgs (PySem.W.kla_fn "<lambda>" q params body scope [] pm cv ctv) ⟨[u], []⟩ = pure [(x, u)] := by intros; rfl)
    (hk : X.K = K := by rfl) (hcalm : X.calm = true := by rfl) (hcode : X.env.code = .ref c := by rfl) (hdef : defaultsOf params X.env = ([], []) := by rfl) (hclo : cloFrom X.env.cells scope.names [] = [] := by rfl) (hfree : ∀ y ∈ scope.names, y.2 ≠ .free := by decide +kernel)
    (hst : backTo pos (starEach [e] X.env) = (false, eval e X.env) :: backTo pos (starEach [] X.env) := by rfl) (hpl : (backTo pos (starEach [e] X.env)).any (·.1) = false := by rfl) :
    PE X (.Call (.Name "min" p) [e] [⟨some "key", .Lambda params body scope lpos, k1⟩, ⟨some "default", .Constant .none j cpos, k2⟩] pos) (tMinKD T te) := by
  subst hk
  refine ⟨fun pins s σ H Q I h => ?_⟩
  refine wpAny_Call_Name_kw (ld_blt I hg hmg (show bootBuiltins "min" = some (.builtin "min") by decide +kernel) (PyProof.Rows.callWith_kw (thn (ha.run pos pins s σ H (fun vs H1 => match vs with
    | [v] => ∃ (a : Addr) (ps : List (Addr × List Nat)), v = .ref a ∧ H1 a = some (.lst (ps.map fun p => V.ref p.1)) ∧ (∀ p ∈ ps, H1 p.1 = some (.lst (natsV p.2)) ∧ p.2.length ≤ 10000) ∧ Tabs T H1 ∧ (ps = [] → ∀ H2, ExtN H1 H2 → Tabs T H2 → Q .non H2) ∧ ∀ p ∈ ps, kMinL (ps.map (·.2)) = some p.2 → ∀ H2, ExtN H1 H2 → Tabs T H2 → Q (.ref p.1) H2
    | _ => False) I h) fun us s1 hq => ?_) hst hpl (by rfl) (by rfl)))
  obtain ⟨vs, H1, I1, r, hq⟩ := hq
  match vs, r, hq with
  | [v], r, hq =>
    obtain ⟨a, ps, rfl, ha, hps, hT, q0, q⟩ := hq
    obtain rfl := Vals.ref1 r
    show wpAny _ _ (evalAll [do let v ← eval (.Lambda params body scope lpos) X.env; standAt pos; pure v, do let v ← eval (.Constant .none j cpos) X.env; standAt pos; pure v]) _ _ s1
    refine wpAny_evalAll_cons (wpAny_bind (lam_min (kw := fun f => [(Str.ofString "key", f), (Str.ofString "default", .none)]) (dv := (some .none)) hcalm TB hcode hm hu hdef hclo (fun y hy z => absurd z (hfree y hy)) S hr.in1 hbind hbody I1 (fun f => .inr ⟨rfl, rfl⟩) ha hps hT q0 q fun f s' hw => wpAny_bind (wpAny_standAt (wpAny_pure ?_))))
    exact wpAny_evalAll_cons (wpAny_bind (Constant_none (wpAny_bind (wpAny_standAt (wpAny_pure (wpAny_evalAll_nil hw))))))
end
/-- what the head leaves of the tables of the defs named xs -/
def TabsOf (K : PySem.W.Frag) (xs : List Str) (h : Heap) : Prop := ∀ y ∈ xs, ∀ c PT, PySem.W.tabIn K y = some (c, PT) → PySem.W.CodeHd h c PT ∧ h.get? PT = some { cls := .none, data := .fields #[] }
/-- the end of a law whose callees make lambdas -/
theorem walk_tabs {l : PySem.W.OpenLaw} {m lev : Nat} {q : Program} {loose : List Str} {XP : (Str → Option Value) → Heap → Prop} {YP : World → Heap → Prop} {d : DefRec} {KP : Params → PySem.W.Frag} {par : Str} (xs : List Str)
    (most : l.most = some m) (fits : m ≤ sizeLine) (plain : d.params.defaults = []) (room : Room lev callerA)
    (recs : (xs.all fun y => ((recsOf q).find? fun e => e.name == y).isSome) = true) (part : ∀ (w : World) (h : Heap), YP w h → (KP w.params).In h)
    (at_ : ∀ (w : World) (mg : Str → Option Value) (fa : Addr) (h : Heap), (KP w.params).In h → h.Ns mainGlobals mg → mg d.name = some (.ref fa) → TabsOf (KP w.params) xs h → LawAtS l w (KP w.params) CX0 lev m par mg fa h) :
    PySem.W.WalkO q loose XP YP l.row.toRowW d [] (fun f vs => PySem.call f vs) :=
  Att.attach_callB most plain fun w s₀ s₁ mg mb fa o pm cd doc a vs ns Gr Y _ _ _ named held nums short bits still => by
    have inK := part w _ Y
    have tabs : TabsOf (KP w.params) xs s₁.heap := fun y hy c PT ht => by
      have hd := List.all_eq_true.mp recs y hy
      obtain ⟨dr, hdr⟩ := Option.isSome_iff_exists.mp hd
      exact PySem.W.tab_of Gr.T inK hdr ht
    obtain ⟨fd, cs, sp, tEmpty, tFree, heads, binds, says, runs⟩ := at_ w mg fa _ inK Gr.T.g named tabs
    exact law_callTs inK Gr.T.g Gr.T.b Gr.T.builtins Gr.T.nolimit still tEmpty tFree heads Gr.T.bmain held nums (Nat.le_trans short fits) room runs binds
      (fun H hH hS => says H a ns short bits hH hS) fun _ _ _ z => z
/-- where a def's code and its table stand, from the lookups -/
theorem tab_in {K : PySem.W.Frag} {x : Str} {f c PT : Addr} {oc : Value} {od : Option Addr} {fd : FuncData} {osl : Array (Option Value)} {oc2 : Value} {od2 : Option Addr} {vs : Array Value} {osl2 : Array (Option Value)} (a : PySem.W.nsIn K mainGlobals x = some (some (.ref f)))
    (e1 : K.lookup f = some ⟨oc, od, .func fd, osl⟩) (e2 : fd.code = .ref c) (e3 : K.lookup c = some ⟨oc2, od2, .fields vs, osl2⟩) (e4 : (vs[11]? : Option Value) = some (.ref PT)) : PySem.W.tabIn K x = some (c, PT) := by
  unfold PySem.W.tabIn
  rw [a]
  dsimp only
  rw [e1]
  dsimp only
  rw [e2]
  dsimp only
  rw [e3]
  dsimp only
  rw [e4]
end Z

/-! dicts whose keys are tuples of tuples of ints and texts: {}, not in, a put of a new key, items, walks -/
namespace Z
open PySem PySem.Spec PyProof.Rows L2
def atomK : Key → NestedKey
  | .inl i => .num i
  | .inr x => .text x
def nkey (ks : List (List Key)) : NestedKey := .tup (ks.map fun k => .tup (k.map atomK))
theorem atomK_inj {a b : Key} (e : atomK a = atomK b) : a = b := by
  cases a <;> cases b <;> first | (injection e with e; rw [e]) | exact nomatch e
theorem nkey_inj {a b : List (List Key)} (e : nkey a = nkey b) : a = b := by
  injection e with e
  refine (List.map_inj_right (fun x y z => ?_)).mp e
  injection z with z
  exact (List.map_inj_right (fun _ _ => atomK_inj)).mp z
theorem depth_atom : ∀ k : List Key, NestedKey.depthAll (k.map atomK) = 0
  | [] => rfl
  | .inl i :: k => by rw [List.map_cons, NestedKey.depthAll, depth_atom k]; rfl
  | .inr i :: k => by rw [List.map_cons, NestedKey.depthAll, depth_atom k]; rfl
theorem depth_atoms : ∀ ks : List (List Key), NestedKey.depthAll (ks.map fun k => NestedKey.tup (k.map atomK)) ≤ 1
  | [] => Nat.zero_le _
  | k :: ks => by
    have := depth_atoms ks
    rw [List.map_cons, NestedKey.depthAll, NestedKey.depth, depth_atom k]
    omega
/-- at b stands a tuple of tuples -/
def Key2 (H : Hp) (b : Addr) (ks : List (List Key)) : Prop := ∃ cs : List Addr, H b = some (.tup (cs.map V.ref)) ∧ Paired (fun c k => H c = some (.tup (k.map kV))) cs ks
section
variable {P : Program} {w : World} {H : Hp} {h : Heap}
theorem atom_is {k : Key} {u : Value} (r : RelV (kV k) u) : NestedIs h (atomK k) u := by
  cases k with
  | inl i => obtain ⟨t, rfl⟩ := (show ∃ t, u = Value.int i t from r); exact .int _ _
  | inr x => obtain ⟨t, rfl⟩ := (show ∃ t, u = Value.str x t from r); exact .text _ _
theorem atoms_are : ∀ {k : List Key} {us : List Value}, Vals (k.map kV) us → NestedAll h (k.map atomK) us
  | [], _, r => by rw [List.map_nil] at r; cases r; exact .nil
  | k :: ks, _, r => by
    rw [List.map_cons] at r
    cases r with
    | cons h t => exact .cons (atom_is h) (atoms_are t)
theorem key1_of (ok : HOk P w H h) {c : Addr} {k : List Key} (e : H c = some (.tup (k.map kV))) : NestedIs h (.tup (k.map atomK)) (.ref c) := by
  obtain ⟨_, its, r, o, h1, h2, n, h3⟩ := (show ObjOk P w H h c (.tup (k.map kV)) from ok c _ e)
  exact .tup h1 h2 h3 (by simpa using atoms_are r)
theorem refs_are (ok : HOk P w H h) : ∀ {cs : List Addr} {ks : List (List Key)} {us : List Value}, Paired (fun c k => H c = some (.tup (k.map kV))) cs ks → Vals (cs.map V.ref) us → NestedAll h (ks.map fun k => NestedKey.tup (k.map atomK)) us
  | _, _, _, .nil, r => by rw [List.map_nil] at r; cases r; exact .nil
  | _, _, _, .cons h1 t, r => by
    rw [List.map_cons] at r
    cases r with
    | cons h2 t2 =>
      cases h2
      exact .cons (key1_of ok h1) (refs_are ok t t2)
theorem key2_of (ok : HOk P w H h) {b : Addr} {ks : List (List Key)} (e : Key2 H b ks) : (nestedKind P w).is h (nkey ks) b := by
  obtain ⟨cs, e, p⟩ := e
  obtain ⟨_, its, r, o, h1, h2, n, h3⟩ := (show ObjOk P w H h b (.tup (cs.map V.ref)) from ok b _ e)
  refine ⟨.tup h1 h2 h3 (by simpa using refs_are ok p r), ?_⟩
  have := depth_atoms ks
  show NestedKey.depth (.tup _) ≤ 8
  rw [NestedKey.depth]
  omega
end
/-! ### the dict -/
abbrev NEs := List (List (List Key) × Addr × V)
def valN (E : NEs) (k : List (List Key)) : Option V := valV (E.map fun e => (e.1, e.2.2)) k
def K2s (H : Hp) (E : NEs) : Prop := ∀ e ∈ E, Key2 H e.2.1 e.1
abbrev XN : NEs → List (NestedKey × Addr × Value) → Prop := Paired fun e q => nkey e.1 = q.1 ∧ e.2.1 = q.2.1 ∧ RelV e.2.2 q.2.2
def entN (w : World) (x : NestedKey × Addr × Value) : DictEntry := ⟨x.1.hash w, .ref x.2.1, x.2.2⟩
def dnP (w : World) (a : Addr) (E : NEs) (h : Heap) : Prop := E.length ≤ sizeLine ∧ (a == sysModules) = false ∧ ∃ xs, XN E xs ∧ ∃ o es ep, h.get? a = some o ∧ o.ExactDict ∧ o.data = .dict es ep ∧ es.toList = xs.map (entN w) ∧ (xs.map (·.1)).Nodup
def DN (w : World) (a : Addr) (E : NEs) : HO := .ext (dnP w a E)
section
variable {P : Program} {w : World} {H : Hp} {h : Heap} {a : Addr} {E : NEs}
theorem dn_new (q : dnP w a E h) : ObjOk P w H h a (DN w a E) := by
  refine ⟨q, ?_, fun h1 h2 z k => ?_⟩
  · obtain ⟨_, _, _, _, o, _, _, e, _⟩ := q
    exact ⟨o, e⟩
  · obtain ⟨z1, z2, xs, z3, o, es, ep, e, z4⟩ := z
    exact ⟨z1, z2, xs, z3, o, es, ep, k o e, z4⟩
theorem dn_empty (hb : sysModules < h.objs.size) : dnP w h.objs.size [] (h.push { cls := .type "dict", data := .dict #[] }) :=
  ⟨Nat.zero_le _, beq_eq_false_iff_ne.mpr (Ne.symm (Nat.ne_of_lt hb)), [], .nil, _, #[], 0, Heap.get?_push_size _ rfl, ⟨rfl, rfl, rfl⟩, rfl, rfl, List.nodup_nil⟩
theorem xn_mem : ∀ {E : NEs} {xs : List (NestedKey × Addr × Value)}, XN E xs → ∀ x ∈ xs, ∃ e ∈ E, nkey e.1 = x.1 ∧ e.2.1 = x.2.1 := by
  intro E xs q
  induction q with
  | nil => intro x hx; exact nomatch hx
  | @cons p q ps qs hq t ih =>
    intro x hx
    rcases List.mem_cons.mp hx with e | hx
    · subst e
      exact ⟨p, List.mem_cons_self, hq.1, hq.2.1⟩
    · obtain ⟨e, he, z⟩ := ih x hx
      exact ⟨e, List.mem_cons_of_mem _ he, z⟩
theorem dn_rd (ok : HOk P w H h) (e : Rd H a (DN w a E)) (ks : K2s H E) : E.length ≤ sizeLine ∧ (a == sysModules) = false ∧ ∃ xs, XN E xs ∧ h.DictOfH (nestedKind P w) a xs := by
  obtain ⟨⟨z, y, xs, r, o, es, ep, h1, h2, h3, h4, h5⟩, _, _⟩ := (show ObjOk P w H h a (DN w a E) from e.ok ok)
  refine ⟨z, y, xs, r, o, es, ep, h1, h2, h3, h4, fun x hx => ?_, h5⟩
  obtain ⟨e, he, e1, e2⟩ := xn_mem r x hx
  have := key2_of ok (ks e he)
  rw [e1, e2] at this
  exact this
theorem xn_val {xs : List (NestedKey × Addr × Value)} (r : XN E xs) (k : List (List Key)) : RelO (valN E k) ((atKey xs (nkey k)).map (·.2)) := by
  unfold valN
  induction r with
  | nil => exact True.intro
  | @cons p q ps qs h t ih =>
    obtain ⟨h1, _, h2⟩ := h
    rw [List.map_cons]
    by_cases e : p.1 = k
    · have e' : q.1 = nkey k := by rw [← h1, e]
      have b : atKey (q :: qs) (nkey k) = some q.2 := by simp [atKey, List.find?_cons, e']
      rw [valV_pos (p := (p.1, p.2.2)) e, b]; exact h2
    · have e' : ¬ q.1 = nkey k := fun z => e (nkey_inj (h1.trans z))
      have b : atKey (q :: qs) (nkey k) = atKey qs (nkey k) := by simp [atKey, List.find?_cons, e']
      rw [valV_neg (p := (p.1, p.2.2)) e, b]; exact ih
end
/-! ### readings and rules -/
def tNGet (w : World) (td ty : TE) : TE := fun σ H Q => td σ H fun x H1 => ty σ H1 fun y H2 => ∃ a b E k v, x = .ref a ∧ y = .ref b ∧ Rd H2 a (DN w a E) ∧ K2s H2 E ∧ Key2 H2 b k ∧ valN E k = some v ∧ Q v H2
def tNNotIn (w : World) (ty td : TE) : TE := fun σ H Q => ty σ H fun y H1 => td σ H1 fun x H2 => ∃ a b E k, x = .ref a ∧ y = .ref b ∧ Rd H2 a (DN w a E) ∧ K2s H2 E ∧ Key2 H2 b k ∧ Q (.bl (!(valN E k).isSome)) H2
def sNPut (w : World) (td ty tv : TE) : TS := fun D σ H => tv σ H fun v H1 => td σ H1 fun x H2 => ty σ H2 fun y H3 => ∃ a b E k, x = .ref a ∧ y = .ref b ∧ H3 a = some (DN w a E) ∧ K2s H3 E ∧ Key2 H3 b k ∧ valN E k = none ∧ E.length < sizeLine ∧
  ∀ H4, But a H3 H4 → H4 a = some (DN w a (E ++ [(k, b, v)])) → D.nx σ H4
def tNNew (w : World) : TE := fun _ H Q => ∀ p H', H p = none → Same H H' → H' p = some (DN w p []) → Q (.ref p) H'
def ItN (w : World) (d : Addr) (o : Obj) (E : NEs) : It :=
  ⟨fun i H => H d = some (.frz o (DN w d E)) ∧ i < E.length, fun i H x H' => H' = H ∧ ∃ k q v, E[i]? = some (k, q, v) ∧ x = .ref q, fun i H => H d = some (.frz o (DN w d E)) ∧ E.length ≤ i⟩
def iKeysN (w : World) (td : TE) : TI := fun σ H R => td σ H fun x H1 => ∃ d o E, x = .ref d ∧ H1 d = some (.frz o (DN w d E)) ∧ R (ItN w d o E) H1
section
variable {X : Cx} {pins : List (Addr × Obj)} {σ : L2.St} {H : Hp} {s : Shared} {d : Addr} {o : Obj} {E : NEs}
theorem frzN (I : Inv X pins σ H s) (h : H d = some (.frz o (DN X.w d E))) :
    (d == sysModules) = false ∧ s.heap.get? d = some o ∧ o.ExactDict ∧ ∃ (es : Array DictEntry) (ep : Nat), o.data = .dict es ep ∧ es.size = E.length ∧
      ∀ (i : Nat) (k : List (List Key)) (q : Addr) (v : V), E[i]? = some (k, q, v) → ∃ en : DictEntry, es[i]? = some en ∧ en.key = .ref q := by
  obtain ⟨hd, ⟨z, hs, xs, pr, o', es, ep, ho, hx, hdt, he, _⟩, _, _⟩ := I.hok d _ h
  rw [hd] at ho
  cases ho
  have l1 : es.size = xs.length := by
    have := congrArg List.length he
    rw [Array.length_toList, List.length_map] at this
    exact this
  have l2 : E.length = xs.length := Paired.length pr
  refine ⟨hs, hd, hx, es, ep, hdt, by omega, fun i k q v e => ?_⟩
  obtain ⟨b, hb, e1, e2, _⟩ := paired_get pr e
  have e3 : es[i]? = (xs[i]?).map (entN X.w) := by rw [← Array.getElem?_toList, he, List.getElem?_map]
  rw [hb] at e3
  exact ⟨_, e3, by show Value.ref b.2.1 = _; rw [← e2]⟩
end
section
variable {P : Program} {w : World} {K : PySem.W.Frag} {tg : Expr} {d : Addr} {o : Obj} {es : Array DictEntry} {ep : Nat}
theorem turn_keysN {E : NEs} (it : Addr) (hod : o.data = .dict es ep) : Turn P w K tg (ItN w d o E) [it] it (fun i h => h.IsKeyIter it d i E.length ep) where
  mem := by simp
  obj := fun i h st b hb => by
    have e : b = it := by simpa using hb
    subst e
    obtain ⟨oi, e, c, dd⟩ := st
    exact ⟨oi, e, fun v z => by rw [dd] at z; cases z⟩
  keep := fun i h h' st k => st.at fun oi e => k it (by simp) oi e
  item := by
    intro X hP hw hK hc i pins s σ H E0 I hf st hg
    subst hP hw hK
    obtain ⟨hd, hi⟩ := hg
    obtain ⟨f0, f1, f2, f3, f4, f5⟩ := hf it (by simp)
    obtain ⟨hs, hgd, hx, es', ep', hdt, hsz, ent⟩ := frzN I hd
    obtain ⟨rfl, rfl⟩ := dict_ep hod hdt
    obtain ⟨⟨k, q, v⟩, hkv⟩ : ∃ p, E[i]? = some p := ⟨E[i], List.getElem?_eq_getElem hi⟩
    obtain ⟨en, hen, hkey⟩ := ent i k q v hkv
    refine next_key_item st hgd hdt hsz hen fun h' st' sb => ?_
    have I1 : Inv X pins σ H { s with heap := h' } := I.turned (t' := s.toks) (fun b ob hb e => (sb.2 b hb).trans e) f0 f1 f3 f4 f5
    obtain ⟨oi, e, c, dd⟩ := id st'
    exact ⟨en.key, rfl, go_of (s := { s with heap := h' }) e c dd (by decide) ⟨.ref q, H, I1, hkey, ⟨rfl, k, q, v, hkv, rfl⟩, st', fun b hb => (hf b hb).1⟩⟩
  done := by
    intro X hP hw hK hc i pins s σ H E0 I hf st hg
    subst hP hw hK
    obtain ⟨hd, hi⟩ := hg
    obtain ⟨f0, f1, f2, f3, f4, f5⟩ := hf it (by simp)
    obtain ⟨hs, hgd, hx, es', ep', hdt, hsz, ent⟩ := frzN I hd
    obtain ⟨rfl, rfl⟩ := dict_ep hod hdt
    exact next_key_end (I.ok.hd hc) st hgd hdt hsz hi fun h' eb => ⟨rfl, I.turned (t' := s.toks) (fun b ob hb e => eb b ob hb e) f0 f1 f3 f4 f5⟩
  self := fun A i s Q E0 st h => by
    refine wpAny_pyIter_slot st.typeIs PySem.F.slot_dict_keyiterator_iter (wpAny_call_entry PySem.F.slot_dict_keyiterator_iter st.typeIs PySem.F.entry_dict_keyiterator_iter ?_ (PySem.F.args_dict_keyiterator_iter_1 _))
    show wpAny _ _ (ret (.ref it)) _ _ s
    exact wpAny_pure ⟨_, rfl, "dict_keyiterator", _, st.typeIs, PySem.F.slot_dict_keyiterator_next.lookup, h⟩
end
theorem huN_of {A : Around} {k : Nat} (hr : Room k A) : A.units + 9 < cLine := by have := hr.units; omega
section
variable {X : Cx} {o i e value tg : Expr} {pos pos' tpos : Pos} {td ty tv : TE}
theorem roomN {P : Program} {w : World} {A : Around} (hu : A.units + 9 < cLine) : (nestedKind P w).room A.in1 := by
  show A.in1.units + 8 < cLine
  rw [Around.in1_units]
  omega
theorem pe_nnew : PE X (.Dict [] [] pos) (tNNew X.w) := ⟨fun pins s σ H Q I h => by
  have hn := I.hok.fresh (Nat.le_refl s.heap.objs.size)
  exact wpAny_Dict_empty ⟨.ref s.heap.objs.size, _, I.laid (a := s.heap.objs.size) (o := DN X.w s.heap.objs.size []) (t' := s.toks) (fun _ _ q => Heap.get?_push_of_some _ q) (Nat.le_refl _) (dn_new (dn_empty I.big)), rfl, h _ _ hn (same_new hn) upd_same⟩⟩
theorem pe_nget (hu : X.A.units + 9 < cLine) (ho : PE X o td) (hi : PE X i ty) (hs : NoSl i) : PE X (.Subscript o i pos) (tNGet X.w td ty) := by
  refine ⟨fun pins s σ H Q I h => ?_⟩
  refine subD_of PySem.F.slot_dict_getitem.lookup hs (thn (ho.run pins s σ H _ I h) fun u s1 ⟨x, H1, I1, rx, q1⟩ => thn (hi.run pins s1 σ H1 _ I1 q1) fun iv s2 ⟨y, H2, I2, ry, a, b, E, k, v, ex, ey, g, ks, kb, l, q2⟩ => ?_)
  subst ex ey
  obtain rfl : u = Value.ref a := rx
  obtain rfl : iv = Value.ref b := ry
  obtain ⟨z, hd, xs, rel, dd⟩ := dn_rd I2.hok g ks
  obtain ⟨w', hw, rw'⟩ := RelO.some_of (v := v) (o := (atKey xs (nkey k)).map (·.2)) (by rw [← l]; exact xn_val rel k)
  obtain ⟨p, hp, hp2⟩ := Option.map_eq_some_iff.mp hw
  refine ⟨dd.typeIs, wpAny_getItem_heap (roomN hu) (key2_of I2.hok kb) dd hp ?_⟩
  rw [hp2]
  exact ⟨v, H2, I2.tok _, rw', q2⟩
theorem pc_nnotin (hu : X.A.units + 9 < cLine) (hi : PE X i ty) (ho : PE X o td) : PC X .NotIn i o (tNNotIn X.w ty td) := by
  refine ⟨fun pins s σ H Q I h => ?_⟩
  refine thn (hi.run pins s σ H _ I h) fun iv s1 ⟨y, H1, I1, ry, q1⟩ => thn (ho.run pins s1 σ H1 _ I1 q1) fun u s2 ⟨x, H2, I2, rx, a, b, E, k, ex, ey, g, ks, kb, q2⟩ => ?_
  subst ex ey
  obtain rfl : u = Value.ref a := rx
  obtain rfl : iv = Value.ref b := ry
  obtain ⟨z, hd, xs, rel, dd⟩ := dn_rd I2.hok g ks
  refine wpAny_notIn_heap (roomN hu) (key2_of I2.hok kb) hd dd ?_
  have q := (xn_val rel k).isSome_eq
  rw [Option.isSome_map] at q
  rw [← q]
  exact ⟨.bl (!(valN E k).isSome), H2, I2.tok _, rfl, q2⟩
theorem ps_nput (hu : X.A.units + 9 < cLine) (ho : PE X o td) (hi : PE X i ty) (hv : PE X value tv) (hs : swapsWith value (some (.Subscript o i pos')) pos.line X.env = pure false) :
    PS X (.Assign [.Subscript o i pos'] value pos) (sNPut X.w td ty tv) := by
  refine ⟨fun pins s σ H D I h => ?_⟩
  refine wpAny_Assign_Subscript (thn (hv.run pins s σ H _ I h) fun r s1 ⟨v, H1, I1, rv, q1⟩ => thn (ho.run pins s1 σ H1 _ I1 q1) fun u s2 ⟨x, H2, I2, rx, q2⟩ => thn (hi.run pins s2 σ H2 _ I2 q2) fun iv s3 ⟨y, H3, I3, ry, a, b, E, k, ex, ey, g, ks, kb, l, lz, q3⟩ => ?_) hs
  subst ex ey
  obtain rfl : u = Value.ref a := rx
  obtain rfl : iv = Value.ref b := ry
  obtain ⟨z, hd, xs, rel, dd⟩ := dn_rd I3.hok (.inl g) ks
  have hz : xs.length ≤ sizeLine := by rw [← Paired.length rel]; exact z
  have hn : atKey xs (nkey k) = none := Option.map_eq_none_iff.mp (RelO.none_of (by rw [← l]; exact xn_val rel k))
  refine wpAny_setItem_heap (hsz := hz) (roomN hu) (key2_of I3.hok kb) dd fun h' dd' hs => ?_
  rw [storedH_new hn] at dd'
  obtain ⟨q, es, ep, hq, h2, h3, h4, _, h5⟩ := dd'
  refine ⟨σ, upd H3 a (DN X.w a (E ++ [(k, b, v)])), ?_, q3 _ but_upd upd_same⟩
  refine d_write I3 (by rw [g]; exact True.intro) hs ⟨q, hq⟩ (dn_new ⟨by rw [List.length_append]; exact lz, hd, _, Paired.snoc rel ⟨rfl, rfl, rv⟩, q, es, ep, hq, h2, h3, h4, h5⟩)
theorem pi_nkeys (he : PE X e td) : PI X tg e (iKeysN X.w td) := by
  refine ⟨fun pins s σ H R I h => ?_⟩
  refine thn (he.run pins s σ H _ I h) fun u s1 ⟨x, H1, I1, rx, d, o, E, ex, hd, q⟩ => ?_
  subst ex
  obtain rfl : u = Value.ref d := rx
  obtain ⟨hs, hgd, hx, es, ep, hdt, hsz, ent⟩ := frzN I1 hd
  refine iter_keys hs hgd hx hdt (pi_one (tk := s1.toks) I1 _ (turn_keysN _ hdt) ⟨_, Heap.get?_push_size _ rfl, rfl, ?_⟩ q)
  rw [hsz] <;> rfl
end
/-! ### steps -/
section
variable {w : World} {σ : L2.St} {H : Hp} {Q : VK} {td ty tv : TE} {nx bk ct : L2.St → Hp → Prop} {rt : VK} {s2 : TS}
theorem r_nget (q : td σ H fun x H1 => ty σ H1 fun y H2 => ∃ a b E k v, x = .ref a ∧ y = .ref b ∧ Rd H2 a (DN w a E) ∧ K2s H2 E ∧ Key2 H2 b k ∧ valN E k = some v ∧ Q v H2) : tNGet w td ty σ H Q := q
theorem r_nnotin (q : ty σ H fun y H1 => td σ H1 fun x H2 => ∃ a b E k, x = .ref a ∧ y = .ref b ∧ Rd H2 a (DN w a E) ∧ K2s H2 E ∧ Key2 H2 b k ∧ Q (.bl (!(valN E k).isSome)) H2) : tNNotIn w ty td σ H Q := q
theorem r_nput (q : tv σ H fun v H1 => td σ H1 fun x H2 => ty σ H2 fun y H3 => ∃ a b E k, x = .ref a ∧ y = .ref b ∧ H3 a = some (DN w a E) ∧ K2s H3 E ∧ Key2 H3 b k ∧ valN E k = none ∧ E.length < sizeLine ∧
  ∀ H4, But a H3 H4 → H4 a = some (DN w a (E ++ [(k, b, v)])) → nx σ H4) : sNPut w td ty tv ⟨nx, rt, bk, ct⟩ σ H := q
theorem r_nnew (q : ∀ p H', H p = none → Same H H' → H' p = some (DN w p []) → Q (.ref p) H') : tNNew w σ H Q := q
theorem r_tupleOf {K : PySem.W.Frag} {ta : TE} (q : ta σ H fun x H1 => kTup K x H1 Q) : tThen ta (kTup K) σ H Q := q
theorem r_tupleL {K : PySem.W.Frag} {p : Addr} {xs : List V} (h : H p = some (.lst xs)) (q : ∀ t H', H t = none → Same H H' → H' t = some (.tup xs) → Q (.ref t) H') : kTup K (.ref p) H Q :=
  .inl ⟨p, xs, rfl, SqL.of h, fun t n => q t _ n (same_new n) upd_same⟩
end
/-- [.. for k in d] of a locked dict, by an invariant of one's own -/
theorem c_keysN {w : World} {σ : L2.St} {H : Hp} {g : TG} {tt : TT} {te : TE} {vs : List Nat} {Qd : Addr → Hp → Prop} {d : Addr} {od : Obj} {E : NEs} (hd : H d = some (.frz od (DN w d E))) (Pv : Addr → Nat → Hp → Prop)
    (h0 : ∀ D H', H D = none → Same H H' → H' D = some (.lst []) → Pv D 0 H') (hf : ∀ D i H', H D = none → Pv D i H' → H' d = some (.frz od (DN w d E)))
    (hs : ∀ D i k q v H', E[i]? = some (k, q, v) → H D = none → Pv D i H' → g (.ref q) (wipe σ vs) H' fun σ2 H2 => wipe σ2 vs = wipe σ vs ∧ tt σ2 H2 fun b H3 =>
      if b = true then te σ2 H3 fun y H4 => ∃ acc, H4 D = some (.lst acc) ∧ acc.length < sizeLine ∧ Pv D (i + 1) (upd H4 D (.lst (acc ++ [y]))) else Pv D (i + 1) H3)
    (hq : ∀ D H', H D = none → Pv D E.length H' → Qd D H') :
    ∃ d' o E', V.ref d = .ref d' ∧ H d' = some (.frz o (DN w d' E')) ∧ ∀ D, H D = none → ∃ W : Nat → Nat → Hp → Prop, (∃ m, W 0 m (upd H D (.lst []))) ∧ ∀ i m H, W i m H →
      ((ItN w d' o E').stop i H ∧ Qd D H) ∨ ((ItN w d' o E').go i H ∧ ∃ Nx : Hp → Prop, (∀ H', Nx H' → ∃ m', m' < m ∧ W (i + 1) m' H') ∧ ∀ x_1 H', (ItN w d' o E').yld i H x_1 H' → g x_1 (wipe σ vs) H' fun σ2 H2 => wipe σ2 vs = wipe σ vs ∧ tt σ2 H2 fun b H3 =>
        if b = true then te σ2 H3 fun y H4 => ∃ acc, H4 D = some (.lst acc) ∧ acc.length < sizeLine ∧ Nx (upd H4 D (.lst (acc ++ [y]))) else Nx H3) := by
  refine ⟨d, od, E, rfl, hd, fun D hD => ⟨fun i m H' => i + m = E.length ∧ Pv D i H', ⟨E.length, Nat.zero_add _, h0 D _ hD (same_new hD) upd_same⟩, ?_⟩⟩
  rintro i m H' ⟨em, p⟩
  have e1 := hf D i H' hD p
  by_cases hi : i < E.length
  · refine .inr ⟨⟨e1, hi⟩, fun H'' => Pv D (i + 1) H'', fun H'' z => ⟨m - 1, by omega, by omega, z⟩, ?_⟩
    rintro x H1 ⟨rfl, k, q, v, hk, rfl⟩
    exact hs D i k q v H1 hk hD p
  · have ei : i = E.length := by omega
    subst ei
    exact .inl ⟨⟨e1, Nat.le_refl _⟩, hq D H' hD p⟩
end Z

open PySem PySem.Spec PyProof.Rows L2 Z
-- a fact of the heap as it stands now
local macro_rules | `(tactic| walk_at "hp") => `(tactic| first | assumption | (refine same_at (by assumption) ?_; walk_at "hp") | (refine But.at (by assumption) ?_ ?_; (walk_at "hp"); (first | assumption | (apply Ne.symm; assumption))))
-- one step of a reading
local macro_rules | `(tactic| walk_at "r1") => `(tactic| first
  | (with_reducible refine r_var (by with_unfolding_all rfl) ?_)
  | (with_reducible refine r_c ?_)
  | (with_reducible refine r_op ?_)
  | (with_reducible refine r_un ?_)
  | (with_reducible refine r_sasg ?_)
  | (with_reducible refine r_sif ?_)
  | (with_reducible refine r_if ?_)
  | (with_reducible refine r_sset ?_)
  | (with_reducible refine r_set ?_)
  | (with_reducible refine r_sdrop ?_)
  | (with_reducible refine r_drop ?_)
  | (with_reducible refine r_ret ?_)
  | (with_reducible refine r_asg ?_)
  | (with_reducible refine r_test ?_)
  | (with_reducible refine r_tB ?_)
  | (with_reducible refine r_bl ?_)
  | (with_reducible refine r_not ?_)
  | (with_reducible refine r_and ?_)
  | (with_reducible refine r_or ?_)
  | (with_reducible refine r_yes ?_)
  | (with_reducible refine r_nil ?_)
  | (with_reducible refine r_cons ?_)
  | (with_reducible refine r_cl ?_)
  | (with_reducible refine r_cb ?_)
  | (with_reducible refine r_bm ?_)
  | (with_reducible refine r_tup ?_)
  | (with_reducible refine r_lst ?_)
  | (with_reducible refine r_few (by with_unfolding_all exact Nat.le_of_ble_eq_true rfl) ?_)
  | (with_reducible refine r_sl ?_)
  | (with_reducible refine r_noP ?_)
  | (with_reducible refine r_po ?_)
  | (with_reducible refine r_poI ?_)
  | (with_reducible refine r_ifE ?_)
  | (with_reducible refine r_andV ?_)
  | (with_reducible refine r_orV ?_)
  | (with_reducible refine r_notV ?_)
  | (with_reducible refine r_chain ?_)
  | (with_reducible refine r_addI ?_)
  | (with_reducible refine r_subI ?_)
  | (with_reducible refine r_neg ?_)
  | (with_reducible refine r_leI ?_)
  | (with_reducible refine r_ltI ?_)
  | (with_reducible refine r_gtI ?_)
  | (with_reducible refine r_geI ?_)
  | (with_reducible refine r_eqI ?_)
  | (with_reducible refine r_neI ?_)
  | (with_reducible refine r_eqS ?_)
  | (with_reducible refine r_neS ?_)
  | (with_reducible refine r_eqB ?_)
  | (with_reducible refine r_neB ?_)
  | (with_reducible refine r_inS ?_)
  | (with_reducible refine r_niS ?_)
  | (with_reducible refine r_isN ?_)
  | (with_reducible refine r_notN ?_)
  | (with_reducible refine r_min ?_)
  | (with_reducible refine r_min3 ?_)
  | (with_reducible refine r_intI ?_)
  | (with_reducible refine r_intB ?_)
  | (with_reducible refine r_tyS ?_)
  | (with_reducible refine r_ixL (by walk_at "hp") (by first | with_unfolding_all rfl | with_unfolding_all exact atI_nat (j := 0) rfl | with_unfolding_all exact atI_nat (j := 1) rfl) ?_)
  | (with_reducible refine r_ixU (by walk_at "hp") (by with_unfolding_all rfl) ?_)
  | (with_reducible refine r_lenL (by walk_at "hp") ?_)
  | (with_reducible refine r_lenU (by walk_at "hp") ?_)
  | (with_reducible refine r_tyL (by walk_at "hp") ?_)
  | (with_reducible refine r_next ?_)
  | (with_reducible refine r_sfor ?_)
  | (with_reducible refine iteT ?_)
  | (with_reducible refine iteF ?_)
  | (with_reducible refine iteNT ?_)
  | (with_reducible refine iteNF ?_)
  | (with_reducible refine r_hide ?_)
  | (with_reducible refine r_lenSetS ?_)
  | (with_reducible refine r_lc ?_)
  | (with_reducible refine r_iStr ?_)
  | (with_reducible refine r_iEnum ?_)
  | (with_reducible refine r_iEnumS ?_)
  | (with_reducible refine r_iRevS ?_)
  | (with_reducible refine r_iRev ?_)
  | (with_reducible refine r_gName ?_)
  | (with_reducible refine r_gTup (by walk_at "hp") (by with_unfolding_all rfl) ?_)
  | (with_reducible refine r_gCons ?_)
  | (with_reducible refine r_gNil ?_)
  | (with_reducible refine r_for ?_)
  | (with_reducible refine r_iList ?_)
  | (with_reducible refine r_iRng1 ?_)
  | (with_reducible refine r_sasgG ?_)
  | (with_reducible refine r_asgG ?_)
  | (with_reducible refine r_seq ?_)
  | (with_reducible refine r_dget ?_)
  | (with_reducible refine r_din ?_)
  | (with_reducible refine r_dnotin ?_)
  | (with_reducible refine r_sdput ?_)
  | (with_reducible refine r_dput ?_)
  | (with_reducible refine r_dnewT ?_)
  | (with_reducible refine r_dispT ?_)
  | (with_reducible refine r_pairs ?_)
  | (with_reducible refine r_pairs0 ?_)
  | (with_reducible refine r_minK ?_)
  | (with_reducible refine r_minKD ?_)
  | (with_reducible refine r_iTup ?_)
  | (with_reducible refine r_iRevR ?_)
  | (with_reducible refine r_rg1 ?_)
  | (with_reducible refine r_isB ?_)
  | (with_reducible refine r_notB ?_)
  | (with_reducible refine r_clX ?_)
  | (with_reducible refine r_raiseP ?_)
  | (with_reducible refine r_par3 ?_)
  | (with_reducible refine r_three ?_)
  | (with_reducible refine r_nget ?_)
  | (with_reducible refine r_nnotin ?_)
  | (with_reducible refine r_nput ?_)
  | (with_reducible refine r_nnew ?_)
  | (with_reducible refine r_tupleOf ?_))
local macro_rules | `(tactic| walk_at "r") => `(tactic| repeat walk_at "r1")
namespace Z
open PySem PySem.Spec PyProof.Rows L2
def topS (i : Nat) : Stmt := PySem.Challenge.pw_shifttape_k04_whole_no_shorter_at_all.main.body.getD i (.Pass ⟨0, 0, 0, 0⟩)
abbrev s_are_signs : Stmt := topS 10
theorem sc_are_signs : FnScope ["signs", "good", "sign"] ["signs"] (defScope s_are_signs) := ⟨rfl, rfl, rfl, by decide +kernel, rfl, by decide +kernel, by decide +kernel⟩
abbrev s_need_sheet : Stmt := topS 11
theorem sc_need_sheet : FnScope ["sheet", "zero", "one", "home"] ["sheet"] (defScope s_need_sheet) := ⟨rfl, rfl, rfl, by decide +kernel, rfl, by decide +kernel, by decide +kernel⟩
abbrev s_need_set : Stmt := topS 12
theorem sc_need_set : FnScope ["number"] ["number"] (defScope s_need_set) := ⟨rfl, rfl, rfl, by decide +kernel, rfl, by decide +kernel, by decide +kernel⟩
abbrev s_need_text : Stmt := topS 13
theorem sc_need_text : FnScope ["sheet", "text", "place", "sign"] ["sheet", "text"] (defScope s_need_text) := ⟨rfl, rfl, rfl, by decide +kernel, rfl, by decide +kernel, by decide +kernel⟩
abbrev s_shift_to : Stmt := topS 14
theorem sc_shift_to : FnScope ["sheet", "number"] ["sheet", "number"] (defScope s_shift_to) := ⟨rfl, rfl, rfl, by decide +kernel, rfl, by decide +kernel, by decide +kernel⟩
abbrev s_is_shift : Stmt := topS 15
theorem sc_is_shift : FnScope ["sheet", "code"] ["sheet", "code"] (defScope s_is_shift) := ⟨rfl, rfl, rfl, by decide +kernel, rfl, by decide +kernel, by decide +kernel⟩
abbrev s_set_behind : Stmt := topS 16
theorem sc_set_behind : FnScope ["sheet", "code", "number"] ["sheet", "code", "number"] (defScope s_set_behind) := ⟨rfl, rfl, rfl, by decide +kernel, rfl, by decide +kernel, by decide +kernel⟩
abbrev s_code_of : Stmt := topS 17
theorem sc_code_of : FnScope ["sheet", "sign", "number", "signs"] ["sheet", "sign", "number"] (defScope s_code_of) := ⟨rfl, rfl, rfl, by decide +kernel, rfl, by decide +kernel, by decide +kernel⟩
abbrev s_costs_of : Stmt := topS 20
theorem sc_costs_of : FnScope ["sheet", "text", "found", "sign", "straight", "number", "code"] ["sheet", "text"] (defScope s_costs_of) := ⟨rfl, rfl, rfl, by decide +kernel, rfl, by decide +kernel, by decide +kernel⟩
abbrev s_shortest : Stmt := topS 21
theorem sc_shortest : FnScope ["sheet", "text", "begin", "costs", "tape", "number", "place", "code"] ["sheet", "text", "begin"] (defScope s_shortest) := ⟨rfl, rfl, rfl, by decide +kernel, rfl, by decide +kernel, by decide +kernel⟩
abbrev s_either : Stmt := topS 22
theorem sc_either : FnScope ["sheet", "text", "best", "place", "state", "some", "code", "number", "later"] ["sheet", "text"] (defScope s_either) := ⟨rfl, rfl, rfl, by decide +kernel, rfl, by decide +kernel, by decide +kernel⟩
abbrev s_shifted : Stmt := topS 23
theorem sc_shifted : FnScope ["sheet", "best", "place", "known", "state", "some", "number", "straight", "tape"] ["sheet", "best", "place"] (defScope s_shifted) := ⟨rfl, rfl, rfl, by decide +kernel, rfl, by decide +kernel, by decide +kernel⟩
abbrev s__law_begun : Stmt := topS 25
theorem sc__law_begun : FnScope ["_law_script", "_law_stirred", "_law_cell"] ["_law_script"] (defScope s__law_begun) := ⟨rfl, rfl, rfl, by decide +kernel, rfl, by decide +kernel, by decide +kernel⟩
abbrev s__law_take : Stmt := topS 26
theorem sc__law_take : FnScope ["_law_box", "_law_many", "_law_number"] ["_law_box", "_law_many"] (defScope s__law_take) := ⟨rfl, rfl, rfl, by decide +kernel, rfl, by decide +kernel, by decide +kernel⟩
abbrev s__law_alike : Stmt := topS 27
theorem sc__law_alike : FnScope ["_law_found", "_law_due", "_law_k"] ["_law_found", "_law_due"] (defScope s__law_alike) := ⟨rfl, rfl, rfl, by decide +kernel, rfl, by decide +kernel, by decide +kernel⟩
abbrev s__law_picked : Stmt := topS 28
theorem sc__law_picked : FnScope ["_law_box", "_law_signs", "_law_many", "_law_left", "_law_turn"] ["_law_box", "_law_signs", "_law_many"] (defScope s__law_picked) := ⟨rfl, rfl, rfl, by decide +kernel, rfl, by decide +kernel, by decide +kernel⟩
abbrev s__law_sheet : Stmt := topS 29
theorem sc__law_sheet : FnScope ["_law_box", "_law_most", "_law_many", "_law_every", "_law_often", "_law_zero", "_law_one", "_law_place", "_law_home"] ["_law_box", "_law_most"] (defScope s__law_sheet) := ⟨rfl, rfl, rfl, by decide +kernel, rfl, by decide +kernel, by decide +kernel⟩
abbrev s__law_text : Stmt := topS 30
theorem sc__law_text : FnScope ["_law_box", "_law_sheet_here", "_law_most", "_law_found", "_law_number", "_law_often", "_law_turn"] ["_law_box", "_law_sheet_here", "_law_most"] (defScope s__law_text) := ⟨rfl, rfl, rfl, by decide +kernel, rfl, by decide +kernel, by decide +kernel⟩
abbrev s__law_tape : Stmt := topS 31
theorem sc__law_tape : FnScope ["_law_box", "_law_sheet_here", "_law_most", "_law_n", "_law_often", "_law_found", "_law_turn"] ["_law_box", "_law_sheet_here", "_law_most"] (defScope s__law_tape) := ⟨rfl, rfl, rfl, by decide +kernel, rfl, by decide +kernel, by decide +kernel⟩
abbrev s__law_read : Stmt := topS 32
theorem sc__law_read : FnScope ["_law_sheet_here", "_law_tape_here", "_law_begin", "_law_n", "_law_found", "_law_code"] ["_law_sheet_here", "_law_tape_here", "_law_begin"] (defScope s__law_read) := ⟨rfl, rfl, rfl, by decide +kernel, rfl, by decide +kernel, by decide +kernel⟩
abbrev s__law_grown : Stmt := topS 33
theorem sc__law_grown : FnScope ["_law_sheet_here", "_law_text_here", "_law_tapes", "_law_found", "_law_tape_here", "_law_ends", "_law_code", "_law_told", "_law_some", "_law_number", "_law_more", "_law_one"] ["_law_sheet_here", "_law_text_here", "_law_tapes"] (defScope s__law_grown) := ⟨rfl, rfl, rfl, by decide +kernel, rfl, by decide +kernel, by decide +kernel⟩
abbrev s__law_first : Stmt := topS 34
theorem sc__law_first : FnScope ["_law_sheet_here", "_law_text_here", "_law_begins", "_law_tapes", "_law_begin", "_law_tape_here", "_law_ends", "_law_one", "_law_known"] ["_law_sheet_here", "_law_text_here", "_law_begins"] (defScope s__law_first) := ⟨rfl, rfl, rfl, by decide +kernel, rfl, by decide +kernel, by decide +kernel⟩
abbrev s_law : Stmt := topS 35
theorem sc_law : FnScope ["_law_script", "_law_box", "_law_turn", "_law_sheet_here", "_law_text_here", "_law_begin"] ["_law_script"] (defScope s_law) := ⟨rfl, rfl, rfl, by decide +kernel, rfl, by decide +kernel, by decide +kernel⟩
structure TX (mg : Str → Option Value) : Prop where
  b_len : mg "len" = none
  b_range : mg "range" = none
  b_list : mg "list" = none
  b_int : mg "int" = none
  b_str : mg "str" = none
  b_all : mg "all" = none
  b_isinstance : mg "isinstance" = none
  b_min : mg "min" = none
  b_sorted : mg "sorted" = none
  b_enumerate : mg "enumerate" = none
  b_reversed : mg "reversed" = none
  b_set : mg "set" = none
  b_tuple : mg "tuple" = none
  b_bool : mg "bool" = none
  b_ValueError : mg "ValueError" = none
  c_MOST_SIGNS : ∃ t, mg "MOST_SIGNS" = some (.int 26 t)
  c_MOST_TEXT : ∃ t, mg "MOST_TEXT" = some (.int 32 t)
  c_FIRST : ∃ t, mg "FIRST" = some (.str " " t)
  c_LAST : ∃ t, mg "LAST" = some (.str "~" t)
  c_NEVER : ∃ t, mg "NEVER" = some (.int 1000000 t)
section
variable {P : Program} {w : World} {K : PySem.W.Frag} {mg : Str → Option Value} {base : Heap} {TTs : List (Addr × Str)}
/-! ### the box of draws -/
def PN : List V → Prop := fun xs => ∃ ns : List Int, xs = ns.map V.int
def PB (l : Addr) : List V → Prop := fun xs => ∃ z : Int, 0 ≤ z ∧ z < 2147483647 ∧ xs = [.ref l, .int z]
def Box (H : Hp) (v : V) : Prop := ∃ b l, v = .ref b ∧ H b = some (hidL (PB l) b) ∧ H l = some (hidL PN l) ∧ b ≠ l
theorem same_box {H H' : Hp} {v : V} (e : Same H H') (h : Box H v) : Box H' v := by
  obtain ⟨b, l, rfl, h1, h2, h3⟩ := h
  exact ⟨b, l, rfl, e _ _ h1, e _ _ h2, h3⟩
/-- all but two -/
def Two (b l : Addr) (H H' : Hp) : Prop := ∀ c o, c ≠ b → c ≠ l → H c = some o → H' c = some o
theorem Two.b {b l : Addr} {H0 H H' : Hp} (t : Two b l H0 H) (k : But b H H') : Two b l H0 H' := fun c o h1 h2 e => k c o h1 (t c o h1 h2 e)
theorem Two.l {b l : Addr} {H0 H H' : Hp} (t : Two b l H0 H) (k : But l H H') : Two b l H0 H' := fun c o h1 h2 e => k c o h2 (t c o h1 h2 e)
theorem Two.s {b l : Addr} {H0 H H' : Hp} (t : Two b l H0 H) (k : Same H H') : Two b l H0 H' := fun c o h1 h2 e => k c o (t c o h1 h2 e)
theorem Two.refl {b l : Addr} {H : Hp} : Two b l H H := fun _ _ _ _ e => e
theorem Two.same {b l : Addr} {H H' : Hp} {o u : HO} (t : Two b l H H') (hb : H b = some o) (hb' : H' b = some o) (hl : H l = some u) (hl' : H' l = some u) : Same H H' := fun c x e => by
  by_cases h1 : c = b
  · rw [h1] at e ⊢
    rw [hb'] 
    exact hb.symm.trans e
  · by_cases h2 : c = l
    · rw [h2] at e ⊢
      rw [hl']
      exact hl.symm.trans e
    · exact t c x h1 h2 e
def spTake : Sp := fun vs H Q _ => ∃ (v : V) (m : Int), vs = [v, .int m] ∧ Box H v ∧ 0 < m ∧ m ≤ 10 ^ 59 ∧ ∀ (r : Nat) H', (r : Int) < m → Same H H' → Q (.int r) H'
theorem use_take {H : Hp} {Q : VK} {E : XK} {v : V} {m : Int} (h : Box H v) (h0 : 0 < m) (h1 : m ≤ 10 ^ 59) (q : ∀ (r : Nat) H', (r : Int) < m → Same H H' → Q (.int r) H') : spTake [v, .int m] H Q E := ⟨v, m, rfl, h, h0, h1, q⟩
theorem fin_take {H H' : Hp} {Q : VK} {m x : Int} (q : ∀ (r : Nat) H', (r : Int) < m → Same H H' → Q (.int r) H') (h0 : 0 < m) (s : Same H H') : Q (.int (x % m)) H' := by
  have e := Int.toNat_of_nonneg (Int.emod_nonneg x (show m ≠ 0 by omega))
  have l := Int.emod_lt_of_pos x h0
  rw [← e]
  exact q _ _ (by omega) s
theorem ok__law_take {k : Nat} (F : Df K mg "_law_take" s__law_take ["_law_box", "_law_many"]) : OkAt P w K mg base "_law_take" (k + 1) ["_law_box", "_law_many"] spTake := by
  refine F.ok sc__law_take (fun vs H Q E h => ?_) (fun f cdv A outer s H vs Q E hr h => ?_)
  · obtain ⟨v, m, rfl, _⟩ := h
    rfl
  · obtain ⟨v, m, rfl, ⟨b, l, rfl, hb, hl, bl⟩, h0, hm, q⟩ := h
    refine ⟨_, (pss_show (pss_show (pss_cons (ps_if (pt_cmpR (op_uEq K hr.units) (pe_ix (ix_u K) (pv 0) pe_int (fun _ _ => rfl)) (pe_lstN pa_nil) (nomark _)) (pss_cons (ps_asg (pe_op op_uMod (pe_op op_uMul (pe_ix (ix_u K) (pv 0) pe_int (fun _ _ => rfl)) pe_int) pe_int) (pg_sub (pv 0) pe_int set_u)) (pss_one (ps_ret (pe_hide (pe_hide (pe_op op_uMod (pe_op op_uFdiv (pe_ix (ix_u K) (pv 0) pe_int (fun _ _ => rfl)) pe_int) (pv 1))))))) pss_nil) (pss_cons (ps_set (i := 2) sc__law_take.nd rfl (by first | exact Or.inl rfl | exact Or.inr rfl) (pe_ix (ix_u K) (pe_ix (ix_u K) (pv 0) pe_int (fun _ _ => rfl)) pe_int (fun _ _ => rfl))) (pss_cons (ps_asg (pe_op op_uFdiv (pv 2) (pv 1)) (pg_sub (pe_ix (ix_u K) (pv 0) pe_int (fun _ _ => rfl)) pe_int set_u)) (pss_cons (ps_if (PW.pt (pw_or (pt_cmpR (op_uEq K hr.units) (pe_ix (ix_u K) (pe_ix (ix_u K) (pv 0) pe_int (fun _ _ => rfl)) pe_int (fun _ _ => rfl)) pe_int (nomark _)) (pw_or1 (pt_cmpR (op_uEq K hr.units) (pe_ix (ix_u K) (pe_ix (ix_u K) (pv 0) pe_int (fun _ _ => rfl)) pe_int (fun _ _ => rfl)) (pe_un un_neg pe_int) (nomark _))))) (pss_one (ps_expr (pe_bmK K PySem.F.plainAttrs_list PySem.F.slot_list_pop PySem.F.type_list_pop mt_popAtN (pe_ix (ix_u K) (pv 0) pe_int (fun _ _ => rfl)) (pa_cons pe_int pa_nil)))) pss_nil) (pss_one (ps_ret (pe_hide (pe_hide (pe_op op_uMod (pv 2) (pv 1)))))))))))), ?_⟩
    refine ⟨b, _, hb, fun xs H1 p1 k1 e1 n1 => ?_⟩
    obtain ⟨z, z0, z1, rfl⟩ := p1
    refine ⟨l, _, k1 _ _ bl.symm hl, fun ys H2 p2 k2 e2 n2 => ?_⟩
    obtain ⟨ns, rfl⟩ := p2
    have eb : H2 b = some (.lst [.ref l, .int z]) := k2 _ _ bl e1
    have t2 : Two b l H H2 := (Two.refl.b k1).l k2
    clear k1 k2 e1 n1 n2
    walk_at "r"
    intro p H3 np s3 e3
    walk_at "r"
    refine r_eqLI0 (by walk_at "hp") e3 ?_
    walk_at "r"
    have t3 : Two b l H H3 := t2.s s3
    have eb3 := s3 _ _ eb
    have el3 := s3 _ _ e2
    refine w_dec (fun en => ?_) (fun en => ?_)
    · -- no number is left
      walk_at "r"
      refine r_mulI (.inr ⟨by decide, by decide⟩) ?_
      walk_at "r"
      refine r_modI (by decide) ?_
      walk_at "r"
      refine r_setL eb3 rfl fun H4 k4 e4 => ?_
      walk_at "r"
      refine r_fdivI (cdiv_of (by decide) (by decide)) ?_
      walk_at "r"
      refine r_modI h0 ?_
      have el4 := k4 _ _ bl.symm el3
      refine ⟨l, _, PN, el4, ⟨ns, rfl⟩, fun H5 k5 e5 => ⟨b, _, PB l, k5 _ _ bl e4, ⟨_, Int.emod_nonneg _ (by decide), Int.emod_lt_of_pos _ (by decide), rfl⟩, fun H6 k6 e6 => ?_⟩⟩
      exact fin_take q h0 ((((t3.b k4).l k5).b k6).same hb e6 hl (k6 _ _ bl.symm e5))
    · obtain ⟨n, ns, rfl⟩ : ∃ n r, ns = n :: r := by
        cases ns with
        | nil => exact absurd rfl en
        | cons n r => exact ⟨n, r, rfl⟩
      walk_at "r"
      refine r_fdivI (cdiv_of h0 hm) ?_
      walk_at "r"
      refine r_setL el3 (ixN_nat (j := 0) (by simp)) fun H4 k4 e4 => ?_
      have eb4 := k4 _ _ bl eb3
      have t4 := t3.l k4
      have fin : ∀ (ms : List Int) (H5 : Hp), Two b l H H5 → H5 b = some (.lst [.ref l, .int z]) → H5 l = some (.lst (ms.map V.int)) →
          ∃ a xs Pd, H5 a = some (.lst xs) ∧ Pd xs ∧ ∀ H', But a H5 H' → H' a = some (hidL Pd a) → ∃ a_1 xs Pd, H' a_1 = some (.lst xs) ∧ Pd xs ∧ ∀ H'_1, But a_1 H' H'_1 → H'_1 a_1 = some (hidL Pd a_1) → Q (.int (n % m)) H'_1 :=
        fun ms H5 t5 eb5 el5 => ⟨l, _, PN, el5, ⟨ms, rfl⟩, fun H6 k6 e6 => ⟨b, _, PB l, k6 _ _ bl eb5, ⟨z, z0, z1, rfl⟩, fun H7 k7 e7 => fin_take q h0 (((t5.l k6).b k7).same hb e7 hl (k7 _ _ bl.symm e6))⟩⟩
      have pop : ∀ (H5 : Hp) (Q' : VK), H5 l = some (.lst (((n / m) :: ns).map V.int)) → (∀ H', But l H5 H' → H' l = some (.lst (ns.map V.int)) → Q' (.int (n / m)) H') → mPopAt (.ref l) [.int 0] H5 Q' :=
        fun H5 Q' e k => ⟨l, _, 0, 0, _, rfl, rfl, e, by decide, by decide, (ixN_seq (ixN_nat (j := 0) (by simp))).1, rfl, k⟩
      have el4 : H4 l = some (.lst (((n / m) :: ns).map V.int)) := e4
      walk_at "r"
      refine w_dec (fun _ => ?_) (fun _ => ?_)
      · walk_at "r"
        refine pop H4 _ el4 fun H5 k5 e5 => ?_
        walk_at "r"
        refine r_modI h0 ?_
        exact fin _ H5 (t4.l k5) (k5 _ _ bl eb4) e5
      · walk_at "r"
        refine w_dec (fun _ => ?_) (fun _ => ?_)
        · walk_at "r"
          refine pop H4 _ el4 fun H5 k5 e5 => ?_
          walk_at "r"
          refine r_modI h0 ?_
          exact fin _ H5 (t4.l k5) (k5 _ _ bl eb4) e5
        · walk_at "r"
          refine r_modI h0 ?_
          exact fin _ H4 t4 eb4 el4

/-! ### sheets -/
/-- a sheet: its two texts, its home -/
structure Sh where
  zero : List Nat
  one : List Nat
  home : Option Nat
namespace Sh
def n (s : Sh) : Nat := s.zero.length
def signs (s : Sh) (b : Bool) : List Nat := if b then s.one else s.zero
structure Ok (s : Sh) : Prop where
  len : s.one.length = s.zero.length
  pos : 1 ≤ s.zero.length
  most : s.zero.length ≤ 26
  nd0 : s.zero.Nodup
  nd1 : s.one.Nodup
  ok0 : ∀ c ∈ s.zero, 32 ≤ c ∧ c ≤ 126
  ok1 : ∀ c ∈ s.one, 32 ≤ c ∧ c ≤ 126
  home : ∀ h, s.home = some h → h < s.zero.length
end Sh
def mkS (l : List Nat) : Str := ⟨l.toArray⟩
theorem tl_mkS (l : List Nat) : (mkS l).cps.toList = l := rfl
theorem len_mkS (l : List Nat) : (mkS l).length = l.length := by
  show l.toArray.size = _
  simp
theorem mkS_app (a b : List Nat) : mkS a ++ mkS b = mkS (a ++ b) := by
  refine TL.ext_tl ?_
  rw [TL.tl_append]
  rfl
theorem mkS_eq (a b : List Nat) : decide (mkS a = mkS b) = decide (a = b) := by
  by_cases e : a = b
  · rw [e, decide_eq_true rfl, decide_eq_true rfl]
  · rw [decide_eq_false e, decide_eq_false fun z => e (congrArg (fun x : Str => x.cps.toList) z)]
def hV : Option Nat → V
  | none => .non
  | some h => .int h
theorem hV_eq {c : Nat} {o : Option Nat} : V.int (c : Int) = hV o ↔ o = some c := by
  cases o with
  | none => exact ⟨(fun z => nomatch z), (fun z => nomatch z)⟩
  | some h =>
    constructor
    · intro z
      have := V.int.inj z
      rw [show h = c by omega]
    · intro z
      rw [Option.some.inj z]
      rfl
/-- the sheet sh stands at v -/
def IsSh (H : Hp) (v : V) (sh : Sh) : Prop := ∃ a, v = .ref a ∧ H a = some (.tup [.str (mkS sh.zero), .str (mkS sh.one), hV sh.home])
theorem same_sh {H H' : Hp} {v : V} {sh : Sh} (e : Same H H') (h : IsSh H v sh) : IsSh H' v sh := by
  obtain ⟨a, rfl, h⟩ := h
  exact ⟨a, rfl, e _ _ h⟩
def spIsShift : Sp := fun vs H Q _ => ∃ (v : V) (sh : Sh) (c : Nat), vs = [v, .int c] ∧ IsSh H v sh ∧ sh.Ok ∧ Q (.bl (decide (sh.n ≤ c))) H
theorem ok_is_shift {k : Nat} (T : TX mg) (F : Df K mg "is_shift" s_is_shift ["sheet", "code"]) : OkAt P w K mg base "is_shift" (k + 1) ["sheet", "code"] spIsShift := by
  refine F.ok sc_is_shift (fun vs H Q E h => ?_) (fun f cdv A outer s H vs Q E hr h => ?_)
  · obtain ⟨v, m, c, rfl, _⟩ := h
    rfl
  · obtain ⟨v, sh, c, rfl, ⟨a, rfl, ha⟩, ok, q⟩ := h
    refine ⟨_, (pss_one (ps_ret (pe_cmpR op_uGe (pv 1) (pe_callB (cr_len K) (by rfl) T.b_len (by decide +kernel) (pa_cons (pe_ix (ix_u K) (pv 0) pe_int (fun _ _ => rfl)) pa_nil)) (nomark _)))), ?_⟩
    walk_at "r"
    refine r_lenS (by rw [len_mkS]; have := ok.most; exact le_size (by omega)) ?_
    walk_at "r"
    have e : decide (((mkS sh.zero).length : Int) ≤ (c : Int)) = decide (sh.n ≤ c) := by
      rw [len_mkS]
      by_cases h : sh.n ≤ c
      · rw [decide_eq_true h, decide_eq_true (by unfold Sh.n at h; omega)]
      · rw [decide_eq_false h, decide_eq_false (by unfold Sh.n at h; omega)]
    rw [e]
    exact q
theorem use_is_shift {H : Hp} {Q : VK} {E : XK} {v : V} {sh : Sh} {c : Nat} (h : IsSh H v sh) (ok : sh.Ok) (q : Q (.bl (decide (sh.n ≤ c))) H) : spIsShift [v, .int c] H Q E := ⟨v, sh, c, rfl, h, ok, q⟩
/-! ### the set behind a code -/
def b2n (b : Bool) : Nat := if b then 1 else 0
def setV (b : Bool) : V := .int (b2n b)
def Sh.behind (s : Sh) (c : Nat) (b : Bool) : Bool := if s.n ≤ c then decide (c = s.n + 1) else if s.home = some c then false else b
def spSetBehind : Sp := fun vs H Q _ => ∃ (v : V) (sh : Sh) (c : Nat) (b : Bool), vs = [v, .int c, setV b] ∧ IsSh H v sh ∧ sh.Ok ∧ c < sh.n + 2 ∧ Q (setV (sh.behind c b)) H
theorem use_set_behind {H : Hp} {Q : VK} {E : XK} {v : V} {sh : Sh} {c : Nat} {b : Bool} (h : IsSh H v sh) (ok : sh.Ok) (hc : c < sh.n + 2) (q : Q (setV (sh.behind c b)) H) : spSetBehind [v, .int c, setV b] H Q E := ⟨v, sh, c, b, rfl, h, ok, hc, q⟩
theorem ok_set_behind {k : Nat} (T : TX mg) (F : Df K mg "set_behind" s_set_behind ["sheet", "code", "number"]) (o_is_shift : OkAt P w K mg base "is_shift" k ["sheet", "code"] spIsShift) : OkAt P w K mg base "set_behind" (k + 1) ["sheet", "code", "number"] spSetBehind := by
  refine F.ok sc_set_behind (fun vs H Q E h => ?_) (fun f cdv A outer s H vs Q E hr h => ?_)
  · obtain ⟨v, m, c, b, rfl, _⟩ := h
    rfl
  · obtain ⟨v, sh, c, b, rfl, hv, ok, hc, q⟩ := h
    obtain ⟨a, rfl, ha⟩ := id hv
    refine ⟨_, (pss_cons (ps_if (pt_val (pe_cl o_is_shift hr (by rfl) (pa_cons (pv 0) (pa_cons (pv 1) pa_nil)))) (pss_one (ps_ret (pe_op op_uSub (pv 1) (pe_callB (cr_len K) (by rfl) T.b_len (by decide +kernel) (pa_cons (pe_ix (ix_u K) (pv 0) pe_int (fun _ _ => rfl)) pa_nil))))) pss_nil) (pss_one (ps_ret (pe_ifExp (pt_cmpR (op_uEq K hr.units) (pv 1) (pe_ix (ix_u K) (pv 0) pe_int (fun _ _ => rfl)) (nomark _)) pe_int (pv 2))))), ?_⟩
    walk_at "r"
    refine use_is_shift hv ok ?_
    walk_at "r"
    refine w_dec (fun h1 => ?_) (fun h1 => ?_)
    · walk_at "r"
      refine r_lenS (by rw [len_mkS]; have := ok.most; exact le_size (by omega)) ?_
      walk_at "r"
      have e : V.int ((c : Int) - ((mkS sh.zero).length : Int)) = setV (sh.behind c b) := by
        rw [len_mkS]
        unfold Sh.behind setV b2n
        rw [if_pos h1]
        unfold Sh.n at h1 hc ⊢
        by_cases h2 : c = sh.zero.length + 1
        · rw [decide_eq_true h2]
          show V.int _ = V.int 1
          congr 1
          omega
        · rw [decide_eq_false h2]
          show V.int _ = V.int 0
          congr 1
          omega
      rw [e]
      exact q
    · walk_at "r"
      have e2 : sh.behind c b = if sh.home = some c then false else b := by
        unfold Sh.behind
        rw [if_neg h1]
      refine r_eqV (by cases sh.home <;> rfl) ?_
      walk_at "r"
      refine w_dec (fun h2 => ?_) (fun h2 => ?_)
      · walk_at "r"
        rw [e2, if_pos (hV_eq.mp h2)] at q
        exact q
      · walk_at "r"
        rw [e2, if_neg (fun z => h2 (hV_eq.mpr z))] at q
        exact q

/-! ### what is a sheet -/
def goodSigns (l : List Nat) : Bool := decide (1 ≤ l.length) && decide (l.length ≤ 26) && l.all (fun c => decide (32 ≤ c) && decide (c ≤ 126)) && decide l.Nodup
theorem lt_sing (a b : Nat) : decide ((sing a).cps.toList < (sing b).cps.toList) = decide (a < b) := by
  show decide ([a] < [b]) = decide (a < b)
  by_cases h : a < b
  · rw [decide_eq_true h, decide_eq_true (List.cons_lt_cons_iff.mpr (.inl h))]
  · rw [decide_eq_false h, decide_eq_false fun z => by
      rcases List.cons_lt_cons_iff.mp z with z | ⟨_, z⟩
      · exact h z
      · cases z]
theorem all_id (l : List Nat) (f : Nat → Bool) : (l.map f).all id = l.all f := by
  rw [List.all_map]
  rfl
def spAreSigns : Sp := fun vs H Q _ => ∃ l : List Nat, vs = [.str (mkS l)] ∧ l.length ≤ 3000 ∧ ∀ H', Same H H' → Q (.bl (goodSigns l)) H'
theorem use_are_signs {H : Hp} {Q : VK} {E : XK} {l : List Nat} (h : l.length ≤ 3000) (q : ∀ H', Same H H' → Q (.bl (goodSigns l)) H') : spAreSigns [.str (mkS l)] H Q E := ⟨l, rfl, h, q⟩
theorem ok_are_signs {k : Nat} (T : TX mg) (F : Df K mg "are_signs" s_are_signs ["signs"]) : OkAt P w K mg base "are_signs" (k + 1) ["signs"] spAreSigns := by
  refine F.ok sc_are_signs (fun vs H Q E h => ?_) (fun f cdv A outer s H vs Q E hr h => ?_)
  · obtain ⟨l, rfl, _⟩ := h
    rfl
  · obtain ⟨l, rfl, hl, q⟩ := h
    have sz : (mkS l).length ≤ 100000 := by rw [len_mkS]; omega
    refine ⟨_, (pss_cons (ps_setLc (i := 1) (own := [("sign", 2)]) (g := gName 2) (tt := tYes) rfl sc_are_signs.nd rfl rfl (sw_true rfl rfl rfl (by decide +kernel)) (pi_str (pv 0)) (blkOk_by (own := [("sign", 2)]) (N := ["signs", "good", "sign"]) (sc := defScope s_are_signs) (by decide +kernel)) (fun _ _ _ _ _ => (pg_name (i := 2) sc_are_signs.nd rfl (by first | exact Or.inl rfl | exact Or.inr rfl))) (fun _ _ _ _ _ => pts_nil) (fun _ _ _ _ _ => (pe_chain op_uLe op_uLe (pe_gStr (by rfl) T.c_FIRST) (pv 2) (pe_gStr (by rfl) T.c_LAST)))) (pss_one (ps_ret (pe_and (pe_chain op_uLe op_uLe pe_int (pe_callB (cr_len K) (by rfl) T.b_len (by decide +kernel) (pa_cons (pv 0) pa_nil)) (pe_gInt (by rfl) T.c_MOST_SIGNS)) (pe_and (pe_callB (cr_allB K) (by rfl) T.b_all (by decide +kernel) (pa_cons (pv 1) pa_nil)) (pe_one (pe_cmpR (op_uEq K hr.units) (pe_lenSetS (by rfl) T.b_len (by rfl) T.b_set (pv 0)) (pe_callB (cr_len K) (by rfl) T.b_len (by decide +kernel) (pa_cons (pv 0) pa_nil)) (nomark _)))))))), ?_⟩
    walk_at "r"
    refine c_str (fun i => ((l.take i).map fun c => decide (32 ≤ c) && decide (c ≤ 126)).map V.bl) sz rfl (fun i => by rw [List.length_map, List.length_map, List.length_take]; omega) (fun i c H' hc s Ky Kn hy _ => ?_) (fun p H1 n1 s1 e1 => ?_)
    · rw [tl_mkS] at hc
      have fin : ∀ b : Bool, b = (decide (32 ≤ c) && decide (c ≤ 126)) → Ky (.bl b) H' := fun b hb => hy _ _ (Same.refl _) (by
        dsimp only
        rw [List.take_add_one, hc, hb, List.map_append, List.map_append]
        rfl)
      walk_at "r"
      refine ⟨rfl, ?_⟩
      walk_at "r"
      refine r_leS ?_
      walk_at "r"
      have e1 : decide ((sing c).cps.toList < (Str.ofString " ").cps.toList) = decide (c < 32) := lt_sing c 32
      have e2 : decide ((Str.ofString "~").cps.toList < (sing c).cps.toList) = decide (126 < c) := lt_sing 126 c
      rw [e1]
      refine w_nd (fun h1 => ?_) (fun h1 => ?_)
      · walk_at "r"
        refine r_leS ?_
        walk_at "r"
        rw [e2]
        refine fin _ ?_
        rw [decide_eq_true (show 32 ≤ c by omega)]
        by_cases h2 : 126 < c
        · rw [decide_eq_true h2, decide_eq_false (show ¬ c ≤ 126 by omega)]
          rfl
        · rw [decide_eq_false h2, decide_eq_true (show c ≤ 126 by omega)]
          rfl
      · refine fin _ ?_
        rw [decide_eq_false (show ¬ 32 ≤ c by omega)]
        rfl
    · have et : l.take (mkS l).length = l := by rw [len_mkS]; exact List.take_length
      rw [et] at e1
      walk_at "r"
      refine r_lenS (le_size sz) ?_
      walk_at "r"
      have gs : goodSigns l = (decide (1 ≤ l.length) && decide (l.length ≤ 26) && l.all (fun c => decide (32 ≤ c) && decide (c ≤ 126)) && decide l.Nodup) := rfl
      refine w_dec (fun h1 => ?_) (fun h1 => ?_)
      · walk_at "r"
        refine w_dec (fun h2 => ?_) (fun h2 => ?_)
        · walk_at "r"
          refine r_all e1 ?_
          rw [all_id]
          walk_at "r"
          rw [len_mkS] at h1 h2
          rw [decide_eq_true (show 1 ≤ l.length by omega), decide_eq_true (show l.length ≤ 26 by omega)] at gs
          refine w_b (fun h3 => ?_) (fun h3 => ?_)
          · walk_at "r"
            refine ⟨_, rfl, by rw [len_mkS]; omega, ?_⟩
            walk_at "r"
            refine r_lenS (le_size sz) ?_
            walk_at "r"
            rw [tl_mkS, len_mkS]
            have e : decide (((dl l).length : Int) = (l.length : Int)) = goodSigns l := by
              rw [gs, h3]
              have d := (dl_le l).2.2
              by_cases h : l.Nodup
              · rw [decide_eq_true h, decide_eq_true (by have := d.mpr h; omega)]
                rfl
              · rw [decide_eq_false h, decide_eq_false fun z => h (d.mp (by omega))]
                rfl
            rw [e]
            exact q H1 s1
          · have e : goodSigns l = false := by
              rw [gs, h3]
              rfl
            rw [← e]
            exact q H1 s1
        · have e : goodSigns l = false := by
            rw [gs, decide_eq_false (show ¬ l.length ≤ 26 by rw [len_mkS] at h2; omega), Bool.and_false]
            rfl
          walk_at "r"
          rw [← e]
          exact q H1 s1
      · have e : goodSigns l = false := by
          rw [gs, decide_eq_false (show ¬ 1 ≤ l.length by rw [len_mkS] at h1; omega)]
          rfl
        walk_at "r"
        rw [← e]
        exact q H1 s1

/-! ### tapes -/
def tapeV (t : List Nat) : List V := t.map fun c => V.int (c : Nat)
def IsTape (H : Hp) (v : V) (t : List Nat) : Prop := ∃ a, v = .ref a ∧ H a = some (.lst (tapeV t))
theorem same_tape {H H' : Hp} {v : V} {t : List Nat} (e : Same H H') (h : IsTape H v t) : IsTape H' v t := by
  obtain ⟨a, rfl, h⟩ := h
  exact ⟨a, rfl, e _ _ h⟩
theorem tapeV_at {t : List Nat} {i : Nat} {x : V} (h : (tapeV t)[i]? = some x) : ∃ c, t[i]? = some c ∧ x = .int (c : Nat) := by
  unfold tapeV at h
  rw [List.getElem?_map] at h
  cases e : t[i]? with
  | none => rw [e] at h; cases h
  | some c =>
    rw [e] at h
    exact ⟨c, rfl, (Option.some.inj h).symm⟩
theorem tapeV_len (t : List Nat) : (tapeV t).length = t.length := List.length_map _
theorem tapeV_app (t u : List Nat) : tapeV t ++ tapeV u = tapeV (t ++ u) := (List.map_append ..).symm
theorem tapeV_ints (t : List Nat) : tapeV t = (t.map fun c => ((c : Nat) : Int)).map V.int := by
  unfold tapeV
  rw [List.map_map]
  rfl
theorem cast_inj {t u : List Nat} : (t.map fun c => ((c : Nat) : Int)) = (u.map fun c => ((c : Nat) : Int)) ↔ t = u := by
  constructor
  · intro h
    induction t generalizing u with
    | nil => cases u with
      | nil => rfl
      | cons _ _ => cases h
    | cons a r ih => cases u with
      | nil => cases h
      | cons b v =>
        rw [List.map_cons, List.map_cons] at h
        injection h with h1 h2
        rw [ih h2, show a = b by omega]
  · rintro rfl
    rfl
theorem r_neT {K : PySem.W.Frag} {H : Hp} {Q : VK} {a b : Addr} {t u : List Nat} (h1 : H a = some (.lst (tapeV t))) (h2 : H b = some (.lst (tapeV u))) (q : Q (.bl (!decide (t = u))) H) : uNe K (.ref a) (.ref b) H Q := by
  rw [tapeV_ints] at h1 h2
  refine r_neLI h1 h2 ?_
  have e : decide ((t.map fun c => ((c : Nat) : Int)) = (u.map fun c => ((c : Nat) : Int))) = decide (t = u) := by
    by_cases h : t = u
    · rw [decide_eq_true h, decide_eq_true (cast_inj.mpr h)]
    · rw [decide_eq_false h, decide_eq_false fun z => h (cast_inj.mp z)]
  rw [e]
  exact q
namespace Sh
def Codes (s : Sh) (t : List Nat) : Prop := ∀ c ∈ t, c < s.n + 2
def sign (s : Sh) (c : Nat) (b : Bool) : Nat := (s.signs b).getD c 0
def txt (s : Sh) : List Nat → Bool → List Nat
  | [], _ => []
  | c :: t, b => (if s.n ≤ c then [] else [s.sign c b]) ++ txt s t (s.behind c b)
def sets (s : Sh) : List Nat → Bool → List Bool
  | [], _ => []
  | c :: t, b => s.behind c b :: sets s t (s.behind c b)
def last (s : Sh) : List Nat → Bool → Bool
  | [], b => b
  | c :: t, b => last s t (s.behind c b)
theorem txt_app (s : Sh) : ∀ (t u : List Nat) (b : Bool), s.txt (t ++ u) b = s.txt t b ++ s.txt u (s.last t b)
  | [], _, _ => rfl
  | c :: t, u, b => by
    show (if s.n ≤ c then [] else [s.sign c b]) ++ s.txt (t ++ u) (s.behind c b) = _
    rw [txt_app s t u]
    exact (List.append_assoc ..).symm
theorem sets_app (s : Sh) : ∀ (t u : List Nat) (b : Bool), s.sets (t ++ u) b = s.sets t b ++ s.sets u (s.last t b)
  | [], _, _ => rfl
  | c :: t, u, b => by
    show s.behind c b :: s.sets (t ++ u) (s.behind c b) = _
    rw [sets_app s t u]
    rfl
theorem last_app (s : Sh) : ∀ (t u : List Nat) (b : Bool), s.last (t ++ u) b = s.last u (s.last t b)
  | [], _, _ => rfl
  | c :: t, u, b => last_app s t u (s.behind c b)
theorem txt_len (s : Sh) : ∀ (t : List Nat) (b : Bool), (s.txt t b).length ≤ t.length
  | [], _ => Nat.le_refl _
  | c :: t, b => by
    show ((if s.n ≤ c then [] else [s.sign c b]) ++ s.txt t (s.behind c b)).length ≤ t.length + 1
    have ih := txt_len s t (s.behind c b)
    rw [List.length_append]
    by_cases h : s.n ≤ c
    · rw [if_pos h]; simp; omega
    · rw [if_neg h]; simp; omega
theorem sets_len (s : Sh) : ∀ (t : List Nat) (b : Bool), (s.sets t b).length = t.length
  | [], _ => rfl
  | c :: t, b => congrArg (· + 1) (sets_len s t (s.behind c b))
theorem sets_last (s : Sh) : ∀ (t : List Nat) (b : Bool), ((b :: s.sets t b).getLast?) = some (s.last t b)
  | [], _ => rfl
  | c :: t, b => by
    show (b :: s.behind c b :: s.sets t (s.behind c b)).getLast? = _
    rw [List.getLast?_cons_cons]
    exact sets_last s t (s.behind c b)
theorem signs_len {s : Sh} (ok : s.Ok) (b : Bool) : (s.signs b).length = s.n := by
  cases b
  · rfl
  · exact ok.len
theorem sign_at {s : Sh} (ok : s.Ok) {c : Nat} {b : Bool} (h : c < s.n) : (s.signs b)[c]? = some (s.sign c b) := by
  unfold sign
  rw [List.getD_eq_getElem?_getD, List.getElem?_eq_getElem (by rw [signs_len ok]; exact h)]
  rfl
end Sh
theorem take_snoc {α : Type} {l : List α} {i : Nat} {x : α} (h : l[i]? = some x) : l.take (i + 1) = l.take i ++ [x] := by
  rw [List.take_add_one, h]
  rfl
section
variable {H : Hp} {Q : VK} {v : V} {sh : Sh} {b : Bool}
/-- sheet[number] -/
theorem r_ixSh (h : IsSh H v sh) (q : Q (.str (mkS (sh.signs b))) H) : uIx K v (setV b) H Q := by
  obtain ⟨a, rfl, ha⟩ := h
  refine r_ixU ha (n := (b2n b : Nat)) ?_ q
  cases b <;> rfl
theorem r_ixC {l : List Nat} {c x : Nat} (h : l[c]? = some x) (hl : l.length ≤ 100000) (q : Q (.str (mkS [x])) H) : uIx K (.str (mkS l)) (.int (c : Nat)) H Q :=
  r_ixS (by rw [len_mkS]; exact le_size hl) (atI_nat (by rw [tl_mkS]; exact h)) q
end
theorem join_signs (l : List Nat) : Txt.join (Str.ofString "") (l.map fun c => mkS [c]) = mkS l := by
  refine TL.ext_tl ?_
  rw [TL.join_eq, TL.tl_join]
  show TL.joinL [] ((l.map fun c => mkS [c]).map TL.tl) = l
  rw [List.map_map]
  have e : ∀ l : List Nat, TL.joinL [] (l.map ((TL.tl) ∘ fun c => mkS [c])) = l := by
    intro l
    induction l with
    | nil => rfl
    | cons c r ih =>
      cases r with
      | nil => rfl
      | cons d r =>
        show [c] ++ ([] ++ TL.joinL [] ((d :: r).map ((TL.tl) ∘ fun c => mkS [c]))) = _
        rw [ih]
        rfl
  exact e l
theorem join_size (l : List Nat) (h : l.length ≤ 100000) : ((l.map fun c => mkS [c]).map (·.length)).sum + (l.map fun c => mkS [c]).length * (Str.ofString "").length ≤ 16777216 := by
  have e : ∀ l : List Nat, ((l.map fun c => mkS [c]).map (·.length)).sum = l.length := by
    intro l
    induction l with
    | nil => rfl
    | cons c r ih =>
      show 1 + ((r.map fun c => mkS [c]).map (·.length)).sum = r.length + 1
      omega
  rw [e]
  have z : (Str.ofString "").length = 0 := by decide
  rw [z]
  omega
def spGone : Sp := fun vs H Q _ => ∃ (v u : V) (sh : Sh) (t : List Nat) (b : Bool), vs = [v, u, setV b] ∧ IsSh H v sh ∧ sh.Ok ∧ IsTape H u t ∧ sh.Codes t ∧ t.length ≤ 10000 ∧
  ∀ p ps H', Same H H' → H' p = some (.tup [.str (mkS (sh.txt t b)), .ref ps]) → H' ps = some (.lst ((sh.sets t b).map setV)) → Q (.ref p) H'
theorem use_gone {H : Hp} {Q : VK} {E : XK} {v u : V} {sh : Sh} {t : List Nat} {b : Bool} (h : IsSh H v sh) (ok : sh.Ok) (ht : IsTape H u t) (hc : sh.Codes t) (hl : t.length ≤ 10000)
    (q : ∀ p ps H', Same H H' → H' p = some (.tup [.str (mkS (sh.txt t b)), .ref ps]) → H' ps = some (.lst ((sh.sets t b).map setV)) → Q (.ref p) H') : spGone [v, u, setV b] H Q E := ⟨v, u, sh, t, b, rfl, h, ok, ht, hc, hl, q⟩
/-! ### good ones are not refused -/
theorem good_of {l : List Nat} (h1 : 1 ≤ l.length) (h2 : l.length ≤ 26) (h3 : ∀ c ∈ l, 32 ≤ c ∧ c ≤ 126) (h4 : l.Nodup) : goodSigns l = true := by
  unfold goodSigns
  rw [decide_eq_true h1, decide_eq_true h2, decide_eq_true h4]
  have : l.all (fun c => decide (32 ≤ c) && decide (c ≤ 126)) = true := by
    rw [List.all_eq_true]
    intro c hc
    obtain ⟨a, b⟩ := h3 c hc
    rw [decide_eq_true a, decide_eq_true b]
    rfl
  rw [this]
  rfl
theorem Sh.Ok.good0 {s : Sh} (ok : s.Ok) : goodSigns s.zero = true := good_of ok.pos ok.most ok.ok0 ok.nd0
theorem Sh.Ok.good1 {s : Sh} (ok : s.Ok) : goodSigns s.one = true := good_of (by rw [ok.len]; exact ok.pos) (by rw [ok.len]; exact ok.most) ok.ok1 ok.nd1
def spNeedSheet : Sp := fun vs H Q _ => ∃ (v : V) (sh : Sh), vs = [v] ∧ IsSh H v sh ∧ sh.Ok ∧ ∀ H', Same H H' → Q .non H'
theorem use_need_sheet {H : Hp} {Q : VK} {E : XK} {v : V} {sh : Sh} (h : IsSh H v sh) (ok : sh.Ok) (q : ∀ H', Same H H' → Q .non H') : spNeedSheet [v] H Q E := ⟨v, sh, rfl, h, ok, q⟩
theorem ok_need_sheet {k : Nat} (T : TX mg) (F : Df K mg "need_sheet" s_need_sheet ["sheet"]) (o_are_signs : OkAt P w K mg base "are_signs" k ["signs"] spAreSigns) : OkAt P w K mg base "need_sheet" (k + 1) ["sheet"] spNeedSheet := by
  refine F.ok sc_need_sheet (fun vs H Q E h => ?_) (fun f cdv A outer s H vs Q E hr h => ?_)
  · obtain ⟨v, sh, rfl, _⟩ := h
    rfl
  · obtain ⟨v, sh, rfl, ⟨a, rfl, ha⟩, ok, q⟩ := h
    have l0 := ok.most
    have l1 := ok.len
    refine ⟨_, (pss_cons (ps_asg (pv 0) (pg_tupK K (n := 3) rfl (pgs_cons (pg_name (i := 1) sc_need_sheet.nd rfl (by first | exact Or.inl rfl | exact Or.inr rfl)) (pgs_cons (pg_name (i := 2) sc_need_sheet.nd rfl (by first | exact Or.inl rfl | exact Or.inr rfl)) (pgs_cons (pg_name (i := 3) sc_need_sheet.nd rfl (by first | exact Or.inl rfl | exact Or.inr rfl)) pgs_nil))))) (pss_cons (ps_if (PW.pt (pw_or (pt_not (pt_val (pe_cl o_are_signs hr (by rfl) (pa_cons (pv 1) pa_nil)))) (pw_or (pt_not (pt_val (pe_cl o_are_signs hr (by rfl) (pa_cons (pv 2) pa_nil)))) (pw_or1 (pt_cmpR (op_uNe K hr.units) (pe_callB (cr_len K) (by rfl) T.b_len (by decide +kernel) (pa_cons (pv 1) pa_nil)) (pe_callB (cr_len K) (by rfl) T.b_len (by decide +kernel) (pa_cons (pv 2) pa_nil)) (nomark _)))))) (pss_one ps_never) pss_nil) (pss_one (ps_if (PW.pt (pw_and (pt_cmpR op_uNotN (pv 3) pe_non (nomark _)) (pw_and1 (pt_not (pt_chain op_uLe op_uLt pe_int (pv 3) (pe_callB (cr_len K) (by rfl) T.b_len (by decide +kernel) (pa_cons (pv 1) pa_nil))))))) (pss_one ps_never) pss_nil)))), ?_⟩
    walk_at "r"
    refine use_are_signs (by omega) fun H1 s1 => ?_
    rw [ok.good0]
    walk_at "r"
    refine use_are_signs (by omega) fun H2 s2 => ?_
    rw [ok.good1]
    walk_at "r"
    refine r_lenS (by rw [len_mkS]; exact le_size (by omega)) ?_
    walk_at "r"
    refine r_lenS (by rw [len_mkS]; exact le_size (by omega)) ?_
    walk_at "r"
    refine w_nno (by rw [len_mkS, len_mkS, l1]) ?_
    walk_at "r"
    have s12 := s1.trans s2
    cases eh : sh.home with
    | none =>
      rw [decide_eq_true (show hV none = V.non from rfl)]
      walk_at "r"
      exact q H2 s12
    | some h =>
      have hh := ok.home h eh
      rw [decide_eq_false (show ¬ hV (some h) = V.non from (fun z => nomatch z))]
      show if (!false) = true then _ else _
      walk_at "r"
      refine r_leI ?_
      walk_at "r"
      refine w_yes (by omega) ?_
      walk_at "r"
      refine r_lenS (by rw [len_mkS]; exact le_size (by omega)) ?_
      refine r_ltI ?_
      walk_at "r"
      refine w_nno (by rw [len_mkS]; omega) ?_
      walk_at "r"
      exact q H2 s12
def spNeedSet : Sp := fun vs H Q _ => ∃ b : Bool, vs = [setV b] ∧ ∀ H', Same H H' → Q .non H'
theorem use_need_set {H : Hp} {Q : VK} {E : XK} {b : Bool} (q : ∀ H', Same H H' → Q .non H') : spNeedSet [setV b] H Q E := ⟨b, rfl, q⟩
theorem ok_need_set {k : Nat} (T : TX mg) (F : Df K mg "need_set" s_need_set ["number"]) : OkAt P w K mg base "need_set" (k + 1) ["number"] spNeedSet := by
  refine F.ok sc_need_set (fun vs H Q E h => ?_) (fun f cdv A outer s H vs Q E hr h => ?_)
  · obtain ⟨b, rfl, _⟩ := h
    rfl
  · obtain ⟨b, rfl, q⟩ := h
    refine ⟨_, (pss_one (ps_if (pt_cmpR (op_uNi K) (pv 0) (pe_tupN (pa_cons pe_int (pa_cons pe_int pa_nil))) (by rfl)) (pss_one ps_never) pss_nil)), ?_⟩
    walk_at "r"
    intro p H1 n1 s1 e1
    walk_at "r"
    refine r_niU e1 rfl rfl ?_
    walk_at "r"
    refine w_f (by cases b <;> rfl) ?_
    walk_at "r"
    exact q H1 s1
def spNeedTape : Sp := fun vs H Q _ => ∃ (v u : V) (sh : Sh) (t : List Nat), vs = [v, u] ∧ IsSh H v sh ∧ sh.Ok ∧ IsTape H u t ∧ sh.Codes t ∧ t.length ≤ 100 ∧ ∀ H', Same H H' → Q .non H'
theorem use_need_tape {H : Hp} {Q : VK} {E : XK} {v u : V} {sh : Sh} {t : List Nat} (h : IsSh H v sh) (ok : sh.Ok) (ht : IsTape H u t) (hc : sh.Codes t) (hl : t.length ≤ 100) (q : ∀ H', Same H H' → Q .non H') : spNeedTape [v, u] H Q E := ⟨v, u, sh, t, rfl, h, ok, ht, hc, hl, q⟩
def spBegun (K : PySem.W.Frag) : Sp := fun vs H Q _ => ∃ (a : Addr) (ns : List Int), vs = [.ref a] ∧ SqL K H a (ns.map V.int) ∧ ns.length ≤ 63 ∧ ∀ v H', Same H H' → Box H' v → Q v H'
theorem use_begun {K : PySem.W.Frag} {H : Hp} {Q : VK} {E : XK} {a : Addr} {ns : List Int} (h : SqL K H a (ns.map V.int)) (hl : ns.length ≤ 63) (q : ∀ v H', Same H H' → Box H' v → Q v H') : spBegun K [.ref a] H Q E := ⟨a, ns, rfl, h, hl, q⟩
theorem ok__law_begun {k : Nat} (T : TX mg) (F : Df K mg "_law_begun" s__law_begun ["_law_script"]) : OkAt P w K mg base "_law_begun" (k + 1) ["_law_script"] (spBegun K) := by
  refine F.ok sc__law_begun (fun vs H Q E h => ?_) (fun f cdv A outer s H vs Q E hr h => ?_)
  · obtain ⟨a, ns, rfl, _⟩ := h
    rfl
  · obtain ⟨a, ns, rfl, ha, hl, q⟩ := h
    refine ⟨_, (pss_cons (ps_set (i := 1) sc__law_begun.nd rfl (by first | exact Or.inl rfl | exact Or.inr rfl) pe_int) (pss_cons (ps_for PassesOwn.never rfl (pi_listK K (pv 0)) (pg_name (i := 2) sc__law_begun.nd rfl (by first | exact Or.inl rfl | exact Or.inr rfl)) (pss_one (ps_set (i := 1) sc__law_begun.nd rfl (by first | exact Or.inl rfl | exact Or.inr rfl) (pe_op op_uMod (pe_op (op_uAdd K) (pe_op (op_uAdd K) (pe_op op_uMul (pv 1) pe_int) (pe_op op_uMul (pv 2) pe_int)) pe_int) pe_int)))) (pss_one (ps_ret (pe_hide (pe_hide (pe_lstN (pa_cons (pe_callTy (cr_listN K) (by rfl) T.b_list (by decide +kernel) (pa_cons (pv 0) pa_nil)) (pa_cons (pe_op op_uMul (pv 1) (pe_callTy cr_int (by rfl) T.b_int (by decide +kernel) (pa_cons (pe_cmpR op_uGt (pe_callB (cr_len K) (by rfl) T.b_len (by decide +kernel) (pa_cons (pv 0) pa_nil)) pe_int (nomark _)) pa_nil))) pa_nil))))))))), ?_⟩
    walk_at "r"
    refine f_listQ ha (fun i σ H' => ∃ (z : Int) (y : Option V), σ = [some (.ref a), some (.int z), y] ∧ H' = H ∧ 0 ≤ z ∧ z < 2147483647) ⟨0, none, rfl, rfl, by decide, by decide⟩ ?_ ?_ ?_
    · rintro i σ H' _ ⟨z, y, _, rfl, _⟩
      exact ha
    · rintro i x σ H' hx ⟨z, y, rfl, rfl, z0, z1⟩
      obtain ⟨n, rfl⟩ : ∃ n, x = .int n := by
        rw [List.getElem?_map] at hx
        cases e : ns[i]? with
        | none => rw [e] at hx; cases hx
        | some n => rw [e] at hx; exact ⟨n, (Option.some.inj hx).symm⟩
      walk_at "r"
      refine r_mulI (.inr ⟨by decide, by decide⟩) ?_
      walk_at "r"
      refine r_mulI (.inr ⟨by decide, by decide⟩) ?_
      walk_at "r"
      refine r_modI (by decide) ?_
      walk_at "r"
      exact ⟨_, _, rfl, rfl, Int.emod_nonneg _ (by decide), Int.emod_lt_of_pos _ (by decide)⟩
    · rintro σ H' ⟨z, y, rfl, rfl, z0, z1⟩
      walk_at "r"
      refine r_listQ ha fun l H1 n1 s1 e1 => ?_
      walk_at "r"
      refine r_lenQ (s1.seq ha) ?_
      walk_at "r"
      refine r_mulI (.inr (by split <;> exact ⟨by decide, by decide⟩)) ?_
      walk_at "r"
      intro b H2 n2 s2 e2
      have bl : l ≠ b := ne_of_none e1 n2
      refine ⟨l, _, PN, s2 _ _ e1, ⟨ns, rfl⟩, fun H3 k3 e3 => ⟨b, _, PB l, k3 _ _ bl.symm e2, ⟨_, ?_, ?_, rfl⟩, fun H4 k4 e4 => q _ H4 ?_ ⟨b, l, rfl, e4, k4 _ _ bl e3, bl.symm⟩⟩⟩
      · split <;> omega
      · split <;> omega
      · exact k4.same (k3.same (s1.trans s2) n1) (s1.free n2)

def signsV (l : List Nat) : List V := l.map fun c => V.str (sing c)
theorem signsV_len (l : List Nat) : (signsV l).length = l.length := List.length_map _
theorem signsV_at {l : List Nat} {i c : Nat} (h : l[i]? = some c) : (signsV l)[i]? = some (.str (sing c)) := by
  unfold signsV
  rw [List.getElem?_map, h]
  rfl
def spPicked : Sp := fun vs H Q _ => ∃ (v : V) (z : Str) (m : Int), vs = [v, .str z, .int m] ∧ Box H v ∧ z.cps.toList.Nodup ∧ 0 ≤ m ∧ m ≤ z.cps.toList.length ∧ z.cps.toList.length ≤ 1000 ∧
  ∀ p r H', H p = none → Same H H' → H' p = some (.lst (signsV r)) → (r.length : Int) = m → r.Nodup → (∀ c ∈ r, c ∈ z.cps.toList) → Q (.ref p) H'
theorem use_picked {H : Hp} {Q : VK} {E : XK} {v : V} {z : Str} {m : Int} (h : Box H v) (nd : z.cps.toList.Nodup) (h0 : 0 ≤ m) (h1 : m ≤ z.cps.toList.length) (h2 : z.cps.toList.length ≤ 1000)
    (q : ∀ p r H', H p = none → Same H H' → H' p = some (.lst (signsV r)) → (r.length : Int) = m → r.Nodup → (∀ c ∈ r, c ∈ z.cps.toList) → Q (.ref p) H') : spPicked [v, .str z, .int m] H Q E := ⟨v, z, m, rfl, h, nd, h0, h1, h2, q⟩
theorem erase_perm {α : Type} : ∀ (r : List α) (i : Nat) (c : α), r[i]? = some c → (c :: r.eraseIdx i).Perm r
  | [], i, c, h => by simp at h
  | x :: r, 0, c, h => by
    have e : x = c := by simpa using h
    subst e
    exact List.Perm.refl _
  | x :: r, i + 1, c, h => by
    have ih := erase_perm r i c (by simpa using h)
    exact (List.Perm.swap x c (r.eraseIdx i)).trans (List.Perm.cons x ih)
theorem erase_map {α β : Type} (g : α → β) : ∀ (r : List α) (i : Nat), (r.map g).eraseIdx i = (r.eraseIdx i).map g
  | [], _ => rfl
  | x :: r, 0 => rfl
  | x :: r, i + 1 => congrArg (g x :: ·) (erase_map g r i)
theorem perm_pick {l u r : List Nat} {i c : Nat} (p : (u ++ r).Perm l) (h : r[i]? = some c) : ((u ++ [c]) ++ r.eraseIdx i).Perm l := by
  refine List.Perm.trans ?_ p
  rw [List.append_assoc]
  refine List.Perm.append_left u ?_
  exact erase_perm r i c h
theorem ok__law_picked {k : Nat} (T : TX mg) (F : Df K mg "_law_picked" s__law_picked ["_law_box", "_law_signs", "_law_many"]) (o__law_take : OkAt P w K mg base "_law_take" k ["_law_box", "_law_many"] spTake) :
    OkAt P w K mg base "_law_picked" (k + 1) ["_law_box", "_law_signs", "_law_many"] spPicked := by
  refine F.ok sc__law_picked (fun vs H Q E h => ?_) (fun f cdv A outer s H vs Q E hr h => ?_)
  · obtain ⟨v, z, m, rfl, _⟩ := h
    rfl
  · obtain ⟨v, z, m, rfl, hb, nd, m0, m1, hl, q⟩ := h
    have zl : z.length = z.cps.toList.length := (Array.length_toList).symm
    refine ⟨_, (pss_cons (ps_set (i := 3) sc__law_picked.nd rfl (by first | exact Or.inl rfl | exact Or.inr rfl) (pe_callTy cr_listS (by rfl) T.b_list (by decide +kernel) (pa_cons (pv 1) pa_nil))) (pss_one (ps_ret (pe_lc (own := [("_law_turn", 4)]) (g := gName 4) (tt := tYes) rfl sc__law_picked.nd (pi_range1 (by rfl) T.b_range (pa_cons (pv 2) pa_nil)) (blkOk_by (own := [("_law_turn", 4)]) (N := ["_law_box", "_law_signs", "_law_many", "_law_left", "_law_turn"]) (sc := defScope s__law_picked) (by decide +kernel)) (fun _ _ _ _ _ => (pg_name (i := 4) sc__law_picked.nd rfl (by first | exact Or.inl rfl | exact Or.inr rfl))) (fun _ _ _ _ _ => pts_nil) (fun _ _ _ _ _ => (pe_bmK K PySem.F.plainAttrs_list PySem.F.slot_list_pop PySem.F.type_list_pop mt_popAtN (pv 3) (pa_cons (pe_cl o__law_take hr (by rfl) (pa_cons (pv 0) (pa_cons (pe_callB (cr_len K) (by rfl) T.b_len (by decide +kernel) (pa_cons (pv 3) pa_nil)) pa_nil))) pa_nil))))))), ?_⟩
    walk_at "r"
    refine ⟨z, rfl, by omega, fun p H1 n1 s1 e1 => ?_⟩
    generalize z.cps.toList = l at *
    walk_at "r"
    refine c_range1G m0 (by omega) (fun D i H' => ∃ u r, (u ++ r).Perm l ∧ u.length = i ∧ Same H H' ∧ H' p = some (.lst (signsV r)) ∧ H' D = some (.lst (signsV u))) (fun D H2 nD s2 e2 => ⟨[], l, List.Perm.refl _, rfl, s1.trans s2, s2 _ _ e1, e2⟩) ?_ ?_
    · rintro D i H' hi nD ⟨u, r, pm, hu, s2, e2, e3⟩
      have hlen : u.length + r.length = l.length := by
        have := pm.length_eq
        rw [List.length_append] at this
        exact this
      have dp : p ≠ D := ne_of_none e1 nD
      walk_at "r"
      refine ⟨rfl, ?_⟩
      walk_at "r"
      rw [signsV_len]
      refine use_take (same_box s2 hb) (by omega) (by omega) fun j H3 hj s3 => ?_
      walk_at "r"
      obtain ⟨c, hc⟩ : ∃ c, r[j]? = some c := ⟨r[j], List.getElem?_eq_getElem (by omega)⟩
      refine r_popAt (s3 _ _ e2) rfl (by rw [signsV_len]; omega) (signsV_at hc) fun H4 k4 e4 => ?_
      refine ⟨_, k4 _ _ dp.symm (s3 _ _ e3), by rw [signsV_len]; exact lt_size (by omega), u ++ [c], r.eraseIdx j, perm_pick pm hc, by rw [List.length_append]; simp [hu], ?_, ?_, ?_⟩
      · exact (but_upd (o := .lst (signsV u ++ [.str (sing c)]))).same (k4.same (s2.trans s3) n1) (s1.free nD)
      · rw [upd_ne dp, e4]
        unfold signsV
        rw [erase_map]
      · rw [upd_same]
        unfold signsV
        rw [List.map_append]
        rfl
    · rintro D H' nD ⟨u, r, pm, hu, s2, e2, e3⟩
      refine q D u H' (s1.free nD) s2 e3 (by omega) ?_ ?_
      · exact (List.nodup_append.mp (pm.nodup_iff.mpr nd)).1
      · exact fun c hc => pm.subset (List.mem_append_left _ hc)

/-- signs to draw from -/
structure Alpha (z : Str) : Prop where
  nd : z.cps.toList.Nodup
  ok : ∀ c ∈ z.cps.toList, 32 ≤ c ∧ c ≤ 126
  len : 26 ≤ z.cps.toList.length
  most : z.cps.toList.length ≤ 1000
theorem alpha_A : Alpha (Str.ofString "abcdefghijklmnopqrstuvwxyz .,") := ⟨by decide +kernel, by decide +kernel, by decide +kernel, by decide +kernel⟩
theorem alpha_B : Alpha (Str.ofString "0123456789abcdefgh!?-+ .,:/()xyz") := ⟨by decide +kernel, by decide +kernel, by decide +kernel, by decide +kernel⟩
theorem alpha_E : Alpha (Str.ofString " !\"#$&'()*+,-./0123456789:;<=>?@ABCDEFGHIJKLMNOPQRSTUVWXYZ[\\]^_`" ++ Str.ofString "abcdefghijklmnopqrstuvwxyz{|}~") := ⟨by decide +kernel, by decide +kernel, by decide +kernel, by decide +kernel⟩
theorem inV_signs (c : Nat) (l : List Nat) : inV (.str (sing c)) (signsV l) = decide (c ∈ l) := by
  unfold inV signsV
  rw [List.any_map]
  induction l with
  | nil => rfl
  | cons a r ih =>
    rw [List.any_cons, ih]
    show (sing a == sing c || _) = _
    by_cases e : a = c
    · subst e
      simp
    · have h : (sing a == sing c) = false := by simpa using fun z => e (sing_inj z)
      rw [h, Bool.false_or]
      by_cases h2 : c ∈ r
      · rw [decide_eq_true h2, decide_eq_true (List.mem_cons_of_mem _ h2)]
      · rw [decide_eq_false h2, decide_eq_false fun z => by
          rcases List.mem_cons.mp z with z | z
          · exact e z.symm
          · exact h2 z]
theorem flat_signs (l : List Nat) : (signsV l).all flatV = true := by
  unfold signsV
  rw [List.all_map]
  exact List.all_eq_true.mpr fun _ _ => rfl
theorem signsV_strs (l : List Nat) : signsV l = (l.map fun c => mkS [c]).map V.str := by
  unfold signsV
  rw [List.map_map]
  rfl
theorem nodup_set {l : List Nat} (nd : l.Nodup) {i c : Nat} (h : c ∉ l) : (l.set i c).Nodup := by
  induction l generalizing i with
  | nil => simpa using nd
  | cons a r ih =>
    obtain ⟨na, nr⟩ := List.nodup_cons.mp nd
    have hc : c ∉ r := fun z => h (List.mem_cons_of_mem _ z)
    cases i with
    | zero => exact List.nodup_cons.mpr ⟨hc, nr⟩
    | succ i =>
      refine List.nodup_cons.mpr ⟨fun z => ?_, ih nr hc⟩
      rcases List.mem_or_eq_of_mem_set z with z | z
      · exact na z
      · exact h (z ▸ List.mem_cons_self)
theorem pick2 {x y : V} {j : Nat} (h : j < 2) {Pd : V → Prop} (px : Pd x) (py : Pd y) : ∃ z, atI [x, y] (j : Int) = some z ∧ Pd z := by
  match j, h with
  | 0, _ => exact ⟨x, rfl, px⟩
  | 1, _ => exact ⟨y, rfl, py⟩
def spSheet : Sp := fun vs H Q _ => ∃ (v : V) (m : Int), vs = [v, .int m] ∧ Box H v ∧ 1 ≤ m ∧ m ≤ 26 ∧ ∀ u sh H', Same H H' → IsSh H' u sh → sh.Ok → (sh.n : Int) ≤ m → Q u H'
theorem use_sheet {H : Hp} {Q : VK} {E : XK} {v : V} {m : Int} (h : Box H v) (h1 : 1 ≤ m) (h2 : m ≤ 26) (q : ∀ u sh H', Same H H' → IsSh H' u sh → sh.Ok → (sh.n : Int) ≤ m → Q u H') : spSheet [v, .int m] H Q E := ⟨v, m, rfl, h, h1, h2, q⟩
theorem ok__law_sheet {k : Nat} (T : TX mg) (F : Df K mg "_law_sheet" s__law_sheet ["_law_box", "_law_most"]) (o__law_take : OkAt P w K mg base "_law_take" k ["_law_box", "_law_many"] spTake)
    (o__law_picked : OkAt P w K mg base "_law_picked" k ["_law_box", "_law_signs", "_law_many"] spPicked) : OkAt P w K mg base "_law_sheet" (k + 1) ["_law_box", "_law_most"] spSheet := by
  refine F.ok sc__law_sheet (fun vs H Q E h => ?_) (fun f cdv A outer s H vs Q E hr h => ?_)
  · obtain ⟨v, m, rfl, _⟩ := h
    rfl
  · obtain ⟨v, m, rfl, hb, m1, m2, q⟩ := h
    refine ⟨_, (pss_cons (ps_set (i := 2) sc__law_sheet.nd rfl (by first | exact Or.inl rfl | exact Or.inr rfl) (pe_op (op_uAdd K) pe_int (pe_cl o__law_take hr (by rfl) (pa_cons (pv 0) (pa_cons (pv 1) pa_nil))))) (pss_cons (ps_set (i := 3) sc__law_sheet.nd rfl (by first | exact Or.inl rfl | exact Or.inr rfl) pe_str) (pss_cons (ps_set (i := 3) sc__law_sheet.nd rfl (by first | exact Or.inl rfl | exact Or.inr rfl) (pe_op (op_uAdd K) (pv 3) pe_str)) (pss_cons (ps_set (i := 4) sc__law_sheet.nd rfl (by first | exact Or.inl rfl | exact Or.inr rfl) (pe_op op_uFdiv (pe_cl o__law_take hr (by rfl) (pa_cons (pv 0) (pa_cons pe_int pa_nil))) pe_int)) (pss_cons (ps_set (i := 5) sc__law_sheet.nd rfl (by first | exact Or.inl rfl | exact Or.inr rfl) (pe_cl o__law_picked hr (by rfl) (pa_cons (pv 0) (pa_cons (pe_ix (ix_u K) (pe_lstN (pa_cons pe_str (pa_cons (pv 3) pa_nil))) (pv 4) (fun _ _ => rfl)) (pa_cons (pv 2) pa_nil))))) (pss_cons (ps_set (i := 6) sc__law_sheet.nd rfl (by first | exact Or.inl rfl | exact Or.inr rfl) (pe_cl o__law_picked hr (by rfl) (pa_cons (pv 0) (pa_cons (pe_ix (ix_u K) (pe_lstN (pa_cons pe_str (pa_cons (pv 3) pa_nil))) (pv 4) (fun _ _ => rfl)) (pa_cons (pv 2) pa_nil))))) (pss_cons (ps_for PassesOwn.never rfl (pi_range1 (by rfl) T.b_range (pa_cons (pv 2) pa_nil)) (pg_name (i := 7) sc__law_sheet.nd rfl (by first | exact Or.inl rfl | exact Or.inr rfl)) (pss_one (ps_if (PW.pt (pw_and (pt_cmpR (op_uEq K hr.units) (pe_cl o__law_take hr (by rfl) (pa_cons (pv 0) (pa_cons pe_int pa_nil))) pe_int (nomark _)) (pw_and1 (pt_cmpR (op_uNi K) (pe_ix (ix_u K) (pv 5) (pv 7) (fun _ _ => rfl)) (pv 6) (by rfl))))) (pss_one (ps_asg (pe_ix (ix_u K) (pv 5) (pv 7) (fun _ _ => rfl)) (pg_sub (pv 6) (pv 7) set_u))) pss_nil))) (pss_cons (ps_set (i := 8) sc__law_sheet.nd rfl (by first | exact Or.inl rfl | exact Or.inr rfl) (pe_ix (ix_u K) (pe_lstN (pa_cons pe_non (pa_cons (pe_cl o__law_take hr (by rfl) (pa_cons (pv 0) (pa_cons (pv 2) pa_nil))) pa_nil))) (pe_cl o__law_take hr (by rfl) (pa_cons (pv 0) (pa_cons pe_int pa_nil))) (fun _ _ => rfl))) (pss_one (ps_ret (pe_tupN (pa_cons (pe_bmK K PySem.F.plainAttrs_str PySem.F.slot_str_join PySem.F.type_str_join (mt_joinN K) pe_str (pa_cons (pv 5) pa_nil)) (pa_cons (pe_bmK K PySem.F.plainAttrs_str PySem.F.slot_str_join PySem.F.type_str_join (mt_joinN K) pe_str (pa_cons (pv 6) pa_nil)) (pa_cons (pv 8) pa_nil)))))))))))))), ?_⟩
    walk_at "r"
    refine use_take hb (by omega) (by omega) fun r1 H1 hr1 s1 => ?_
    walk_at "r"
    refine r_addS (le_size (by decide +kernel)) ?_
    walk_at "r"
    refine use_take (same_box s1 hb) (by decide) (by decide) fun r2 H2 hr2 s2 => ?_
    walk_at "r"
    refine r_fdivI (cdiv_of (by decide) (by decide)) ?_
    walk_at "r"
    intro p1 H3 n1 s3 e3
    walk_at "r"
    have s123 := (s1.trans s2).trans s3
    obtain ⟨j, hj, j2⟩ : ∃ j : Nat, (r2 : Int) / 3 = (j : Int) ∧ j < 2 := ⟨r2 / 3, by omega, by omega⟩
    rw [hj]
    obtain ⟨zA, hA, ⟨zA, rfl, alA⟩⟩ := pick2 (Pd := fun x => ∃ z, x = .str z ∧ Alpha z) j2 ⟨_, rfl, alpha_A⟩ ⟨_, rfl, alpha_E⟩
    refine r_ixL e3 hA ?_
    walk_at "r"
    have lA := alA.len
    refine use_picked (same_box s123 hb) alA.nd (by omega) (by omega) alA.most fun pz z0 H4 n4 s4 e4 len0 nd0 in0 => ?_
    walk_at "r"
    intro p2 H5 n5 s5 e5
    walk_at "r"
    obtain ⟨zB, hB, ⟨zB, rfl, alB⟩⟩ := pick2 (Pd := fun x => ∃ z, x = .str z ∧ Alpha z) j2 ⟨_, rfl, alpha_B⟩ ⟨_, rfl, alpha_E⟩
    refine r_ixL e5 hB ?_
    walk_at "r"
    have s15 := (s123.trans s4).trans s5
    have lB := alB.len
    refine use_picked (same_box s15 hb) alB.nd (by omega) (by omega) alB.most fun po o0 H6 n6 s6 e6 len1 nd1 in1 => ?_
    walk_at "r"
    have ez := s6 _ _ (s5 _ _ e4)
    have nz : H pz = none := s123.free n4
    have no : H po = none := s15.free n6
    have dzo : pz ≠ po := ne_of_none (s5 _ _ e4) n6
    refine f_range1 (by omega) (by omega) (fun i σ H' => ∃ y3 y4 y7 l, σ = [some v, some (.int m), some (.int (1 + (r1 : Int))), y3, y4, some (.ref pz), some (.ref po), y7, none] ∧ Same H H' ∧
      H' pz = some (.lst (signsV z0)) ∧ H' po = some (.lst (signsV l)) ∧ l.length = z0.length ∧ l.Nodup ∧ ∀ c ∈ l, 32 ≤ c ∧ c ≤ 126)
      ⟨_, _, _, o0, rfl, s15.trans s6, ez, e6, by omega, nd1, fun c hc => alB.ok c (in1 c hc)⟩ ?_ ?_
    · rintro i σ H' hi ⟨y3, y4, y7, l, rfl, s, g1, g2, ll, nd, ok⟩
      walk_at "r"
      refine use_take (same_box s hb) (by decide) (by decide) fun r3 H7 _ s7 => ?_
      walk_at "r"
      have g1' := s7 _ _ g1
      have g2' := s7 _ _ g2
      obtain ⟨c, hc⟩ : ∃ c, z0[i]? = some c := ⟨z0[i], List.getElem?_eq_getElem (by omega)⟩
      have cok := alA.ok c (in0 c (List.mem_of_getElem? hc))
      refine w_dec (fun _ => ?_) (fun _ => ?_)
      · walk_at "r"
        refine r_ixL g1' (atI_nat (signsV_at hc)) ?_
        walk_at "r"
        refine r_niL g2' rfl (flat_signs l) ?_
        rw [inV_signs]
        walk_at "r"
        refine w_nd (fun h => ?_) (fun _ => ?_)
        · walk_at "r"
          refine r_ixL g1' (atI_nat (signsV_at hc)) ?_
          walk_at "r"
          refine r_setL g2' (ixN_nat (by rw [signsV_len]; omega)) fun H8 k8 e8 => ?_
          refine ⟨_, _, _, l.set i c, rfl, k8.same (s.trans s7) no, k8 _ _ dzo g1', ?_, by rw [List.length_set]; exact ll, nodup_set nd h, fun d hd => ?_⟩
          · rw [e8]
            unfold signsV
            rw [List.map_set]
          · rcases List.mem_or_eq_of_mem_set hd with z | z
            · exact ok d z
            · exact z ▸ cok
        · walk_at "r"
          exact ⟨_, _, _, l, rfl, s.trans s7, g1', g2', ll, nd, ok⟩
      · walk_at "r"
        exact ⟨_, _, _, l, rfl, s.trans s7, g1', g2', ll, nd, ok⟩
    · rintro σ H' ⟨y3, y4, y7, l, rfl, s, g1, g2, ll, nd, ok⟩
      walk_at "r"
      refine use_take (same_box s hb) (by omega) (by omega) fun rh H7 hrh s7 => ?_
      walk_at "r"
      intro p8 H8 n8 s8 e8
      walk_at "r"
      have s78 := (s.trans s7).trans s8
      refine use_take (same_box s78 hb) (by decide) (by decide) fun r9 H9 h9 s9 => ?_
      obtain ⟨x, hx, ⟨o, rfl, ho⟩⟩ := pick2 (Pd := fun x => ∃ o : Option Nat, x = hV o ∧ ∀ h, o = some h → h < z0.length) (j := r9) (by omega) ⟨none, rfl, fun h z => nomatch z⟩ ⟨some rh, rfl, fun h z => by
        have := Option.some.inj z
        omega⟩
      refine r_ixL (s9 _ _ e8) hx ?_
      walk_at "r"
      have s79 := (s7.trans s8).trans s9
      have h26 : z0.length ≤ 26 := by omega
      refine r_join (ys := z0.map fun c => mkS [c]) (by rw [← signsV_strs]; exact s79 _ _ g1) (join_size _ (by omega)) ?_
      rw [join_signs]
      walk_at "r"
      refine r_join (ys := l.map fun c => mkS [c]) (by rw [← signsV_strs]; exact s79 _ _ g2) (join_size _ (by omega)) ?_
      rw [join_signs]
      walk_at "r"
      intro pr Hr nr sr er
      refine q _ ⟨z0, l, o⟩ Hr ((s.trans s79).trans sr) ⟨pr, rfl, er⟩ ⟨ll, ?_, h26, nd0, nd, fun c hc => alA.ok c (in0 c hc), ok, ho⟩ ?_
      · show 1 ≤ z0.length
        omega
      · show (z0.length : Int) ≤ m
        omega

def spLawRead : Sp := fun vs H Q _ => ∃ (v u : V) (sh : Sh) (t : List Nat) (b : Bool), vs = [v, u, setV b] ∧ IsSh H v sh ∧ sh.Ok ∧ IsTape H u t ∧ sh.Codes t ∧ t.length ≤ 10000 ∧
  ∀ p H', Same H H' → H' p = some (.tup [.str (mkS (sh.txt t b)), setV (sh.last t b)]) → Q (.ref p) H'
theorem use_law_read {H : Hp} {Q : VK} {E : XK} {v u : V} {sh : Sh} {t : List Nat} {b : Bool} (h : IsSh H v sh) (ok : sh.Ok) (ht : IsTape H u t) (hc : sh.Codes t) (hl : t.length ≤ 10000)
    (q : ∀ p H', Same H H' → H' p = some (.tup [.str (mkS (sh.txt t b)), setV (sh.last t b)]) → Q (.ref p) H') : spLawRead [v, u, setV b] H Q E := ⟨v, u, sh, t, b, rfl, h, ok, ht, hc, hl, q⟩
theorem ok__law_read {k : Nat} (T : TX mg) (F : Df K mg "_law_read" s__law_read ["_law_sheet_here", "_law_tape_here", "_law_begin"]) :
    OkAt P w K mg base "_law_read" (k + 1) ["_law_sheet_here", "_law_tape_here", "_law_begin"] spLawRead := by
  refine F.ok sc__law_read (fun vs H Q E h => ?_) (fun f cdv A outer s H vs Q E hr h => ?_)
  · obtain ⟨v, u, sh, t, b, rfl, _⟩ := h
    rfl
  · obtain ⟨v, u, sh, t, b, rfl, hv, ok, ⟨a, rfl, ha⟩, hc, hl, q⟩ := h
    obtain ⟨c, rfl, hs⟩ := id hv
    have h26 := ok.most
    refine ⟨_, (pss_cons (ps_set (i := 3) sc__law_read.nd rfl (by first | exact Or.inl rfl | exact Or.inr rfl) (pe_callB (cr_len K) (by rfl) T.b_len (by decide +kernel) (pa_cons (pe_ix (ix_u K) (pv 0) pe_int (fun _ _ => rfl)) pa_nil))) (pss_cons (ps_set (i := 4) sc__law_read.nd rfl (by first | exact Or.inl rfl | exact Or.inr rfl) pe_str) (pss_cons (ps_for PassesOwn.never rfl (pi_listK K (pv 1)) (pg_name (i := 5) sc__law_read.nd rfl (by first | exact Or.inl rfl | exact Or.inr rfl)) (pss_one (ps_if (pt_cmpR op_uGe (pv 5) (pv 3) (nomark _)) (pss_one (ps_set (i := 2) sc__law_read.nd rfl (by first | exact Or.inl rfl | exact Or.inr rfl) (pe_op op_uSub (pv 5) (pv 3)))) (pss_cons (ps_set (i := 4) sc__law_read.nd rfl (by first | exact Or.inl rfl | exact Or.inr rfl) (pe_op (op_uAdd K) (pv 4) (pe_ix (ix_u K) (pe_ix (ix_u K) (pe_lstN (pa_cons (pe_ix (ix_u K) (pv 0) pe_int (fun _ _ => rfl)) (pa_cons (pe_ix (ix_u K) (pv 0) pe_int (fun _ _ => rfl)) pa_nil))) (pv 2) (fun _ _ => rfl)) (pv 5) (fun _ _ => rfl)))) (pss_one (ps_set (i := 2) sc__law_read.nd rfl (by first | exact Or.inl rfl | exact Or.inr rfl) (pe_ifExp (pt_cmpR (op_uEq K hr.units) (pv 5) (pe_ix (ix_u K) (pv 0) pe_int (fun _ _ => rfl)) (nomark _)) pe_int (pv 2)))))))) (pss_one (ps_ret (pe_tupN (pa_cons (pv 4) (pa_cons (pv 2) pa_nil)))))))), ?_⟩
    walk_at "r"
    refine r_lenS (by rw [len_mkS]; exact le_size (by omega)) ?_
    rw [len_mkS]
    walk_at "r"
    refine f_list ha (fun i σ H' => ∃ y, σ = [some (.ref c), some (.ref a), some (setV (sh.last (t.take i) b)), some (.int (sh.zero.length : Int)), some (.str (mkS (sh.txt (t.take i) b))), y] ∧ Same H H')
      ⟨none, rfl, Same.refl _⟩ (fun i σ H' _ ⟨y, _, s⟩ => s _ _ ha) ?_ ?_
    · rintro i x σ H' hx ⟨y, rfl, s⟩
      obtain ⟨d, hx2, rfl⟩ := tapeV_at hx
      have et := take_snoc hx2
      have hd : d < sh.n + 2 := hc d (List.mem_of_getElem? hx2)
      have hs' := s _ _ hs
      have st : sh.txt (t.take (i + 1)) b = sh.txt (t.take i) b ++ (if sh.n ≤ d then [] else [sh.sign d (sh.last (t.take i) b)]) := by
        rw [et, sh.txt_app]
        show _ ++ ((if sh.n ≤ d then [] else [sh.sign d _]) ++ []) = _
        rw [List.append_nil]
      have sl : sh.last (t.take (i + 1)) b = sh.behind d (sh.last (t.take i) b) := by
        rw [et, sh.last_app]
        rfl
      have l1 : (sh.txt (t.take i) b).length ≤ 10000 := Nat.le_trans (sh.txt_len _ _) (Nat.le_trans (by rw [List.length_take]; exact Nat.min_le_right _ _) hl)
      walk_at "r"
      refine w_dec (fun h1 => ?_) (fun h1 => ?_)
      · have h1' : sh.n ≤ d := by unfold Sh.n; omega
        walk_at "r"
        refine ⟨some (.int d), ?_, s⟩
        rw [st, if_pos h1', List.append_nil, sl]
        have e : V.int ((d : Int) - (sh.zero.length : Int)) = setV (sh.behind d (sh.last (t.take i) b)) := by
          unfold Sh.behind setV b2n
          rw [if_pos h1']
          unfold Sh.n at h1' hd ⊢
          by_cases h2 : d = sh.zero.length + 1
          · rw [decide_eq_true h2]
            show V.int _ = V.int 1
            congr 1
            omega
          · rw [decide_eq_false h2]
            show V.int _ = V.int 0
            congr 1
            omega
        rw [e]
        rfl
      · have h1' : ¬ sh.n ≤ d := by unfold Sh.n; omega
        walk_at "r"
        intro p2 H2 n2 s2 e2
        walk_at "r"
        refine r_ixL e2 (v := .str (mkS (sh.signs (sh.last (t.take i) b)))) (n := (b2n (sh.last (t.take i) b) : Nat)) (by cases sh.last (t.take i) b <;> rfl) ?_
        walk_at "r"
        refine r_ixC (Sh.sign_at ok (by omega)) (by rw [Sh.signs_len ok]; unfold Sh.n; omega) ?_
        walk_at "r"
        refine r_addS (by rw [len_mkS, len_mkS]; exact le_size (by simp; omega)) ?_
        rw [mkS_app]
        walk_at "r"
        refine r_eqV (by cases sh.home <;> rfl) ?_
        walk_at "r"
        have fin : ∀ c' : Bool, c' = sh.behind d (sh.last (t.take i) b) → sh.behind d (sh.last (t.take i) b) = sh.last (t.take (i + 1)) b := fun _ _ => sl.symm
        have sb : sh.behind d (sh.last (t.take i) b) = if sh.home = some d then false else sh.last (t.take i) b := by
          unfold Sh.behind
          rw [if_neg h1']
        refine w_dec (fun h2 => ?_) (fun h2 => ?_)
        · rw [if_pos (hV_eq.mp h2)] at sb
          walk_at "r"
          refine ⟨some (.int d), ?_, s.trans s2⟩
          rw [st, if_neg h1', sl, sb]
          rfl
        · rw [if_neg (fun z => h2 (hV_eq.mpr z))] at sb
          walk_at "r"
          refine ⟨some (.int d), ?_, s.trans s2⟩
          rw [st, if_neg h1', sl, sb]
          rfl
    · rintro σ H' ⟨y, rfl, s⟩
      rw [tapeV_len, List.take_length]
      walk_at "r"
      intro p H2 n2 s2 e2
      exact q p H2 (s.trans s2) e2

/-! ### data as the asker compares it -/
mutual
inductive Da (H : Hp) : V → PyData → Prop
  | non : Da H .non .none
  | bl (b : Bool) : Da H (.bl b) (.bool b)
  | int (i : Int) : Da H (.int i) (.int i)
  | str (x : Str) : Da H (.str x) (.str x)
  | lst {a : Addr} {xs : List V} {ds : List PyData} : H a = some (.lst xs) → DaAll H xs ds → Da H (.ref a) (.list ds)
  | tup {a : Addr} {xs : List V} {ds : List PyData} : H a = some (.tup xs) → DaAll H xs ds → Da H (.ref a) (.tuple ds)
inductive DaAll (H : Hp) : List V → List PyData → Prop
  | nil : DaAll H [] []
  | cons {v : V} {vs : List V} {d : PyData} {ds : List PyData} : Da H v d → DaAll H vs ds → DaAll H (v :: vs) (d :: ds)
end
mutual
theorem same_da {H H' : Hp} (e : Same H H') : ∀ (d : PyData) (v : V), Da H v d → Da H' v d
  | .none, _, h => by cases h; exact .non
  | .bool b, _, h => by cases h; exact .bl b
  | .int i, _, h => by cases h; exact .int i
  | .str s, _, h => by cases h; exact .str s
  | .list ds, _, h => by
    cases h with
    | lst hl ha => exact .lst (e _ _ hl) (same_daAll e ds _ ha)
  | .tuple ds, _, h => by
    cases h with
    | tup hl ha => exact .tup (e _ _ hl) (same_daAll e ds _ ha)
  | .dict _, _, h => by cases h
theorem same_daAll {H H' : Hp} (e : Same H H') : ∀ (ds : List PyData) (vs : List V), DaAll H vs ds → DaAll H' vs ds
  | [], _, h => by cases h; exact .nil
  | d :: ds, _, h => by
    cases h with
    | cons h1 h2 => exact .cons (same_da e d _ h1) (same_daAll e ds _ h2)
end
theorem daAll_len {H : Hp} : ∀ {vs : List V} {ds : List PyData}, DaAll H vs ds → vs.length = ds.length
  | _, _, .nil => rfl
  | _, _, .cons _ h => congrArg (· + 1) (daAll_len h)
theorem daAll_at {H : Hp} : ∀ {vs : List V} {ds : List PyData} (_ : DaAll H vs ds) (i : Nat) (d : PyData), ds[i]? = some d → ∃ v, vs[i]? = some v ∧ Da H v d
  | _, _, .nil, i, d, h => by simp at h
  | _, _, .cons h1 _, 0, d, h => by
    simp at h
    subst h
    exact ⟨_, rfl, h1⟩
  | _, _, .cons _ t, i + 1, d, h => by
    obtain ⟨v, e, q⟩ := daAll_at t i d (by simpa using h)
    exact ⟨v, by simpa using e, q⟩
def tyN : PyData → String
  | .none => "NoneType"
  | .bool _ => "bool"
  | .int _ => "int"
  | .str _ => "str"
  | .list _ => "list"
  | .tuple _ => "tuple"
  | .dict _ => "dict"
theorem da_ty {K : PySem.W.Frag} {H : Hp} {v : V} {d : PyData} (h : Da H v d) : TyX K H v (.type (tyN d)) := by
  cases h with
  | non => exact .base .non
  | bl b => exact .base (.bl b)
  | int i => exact .base (.int i)
  | str x => exact .base (.str x)
  | lst e _ => exact .base (.lst e)
  | tup e _ => exact .base (.tup e)
theorem r_isi {K : PySem.W.Frag} {H : Hp} {Q : VK} {v : V} {d : PyData} {T : String} {r : Bool} (h : Da H v d) (e : kitB (tyN d) T = some r) (q : Q (.bl r) H) : bIsi K [v, .ty T] H Q :=
  ⟨v, .ty T, _, _, r, rfl, .ty T, da_ty h, kit_ty e, q⟩
theorem kb_none : kitB "NoneType" "bool" = some false ∧ kitB "NoneType" "int" = some false ∧ kitB "NoneType" "str" = some false ∧ kitB "NoneType" "list" = some false ∧ kitB "NoneType" "tuple" = some false := ⟨by decide +kernel, by decide +kernel, by decide +kernel, by decide +kernel, by decide +kernel⟩
theorem kb_bool : kitB "bool" "bool" = some true := by decide +kernel
theorem kb_int : kitB "int" "bool" = some false ∧ kitB "int" "int" = some true := ⟨by decide +kernel, by decide +kernel⟩
theorem kb_str : kitB "str" "bool" = some false ∧ kitB "str" "int" = some false ∧ kitB "str" "str" = some true := ⟨by decide +kernel, by decide +kernel, by decide +kernel⟩
theorem kb_list : kitB "list" "bool" = some false ∧ kitB "list" "int" = some false ∧ kitB "list" "str" = some false ∧ kitB "list" "list" = some true ∧ kitB "list" "tuple" = some false := ⟨by decide +kernel, by decide +kernel, by decide +kernel, by decide +kernel, by decide +kernel⟩
theorem kb_tuple : kitB "tuple" "bool" = some false ∧ kitB "tuple" "int" = some false ∧ kitB "tuple" "str" = some false ∧ kitB "tuple" "list" = some false ∧ kitB "tuple" "tuple" = some true := ⟨by decide +kernel, by decide +kernel, by decide +kernel, by decide +kernel, by decide +kernel⟩
def dLess : Nat → PyData → Prop
  | 0, _ => False
  | n + 1, .list ds => ds.length ≤ 100000 ∧ ∀ d ∈ ds, dLess n d
  | n + 1, .tuple ds => ds.length ≤ 100000 ∧ ∀ d ∈ ds, dLess n d
  | _ + 1, .dict _ => False
  | _ + 1, _ => True
def spAlike (n : Nat) : Sp := fun vs H Q _ => ∃ (x y : V) (d : PyData), vs = [x, y] ∧ Da H x d ∧ Da H y d ∧ dLess n d ∧ Q (.bl true) H
theorem use_alike {n : Nat} {H : Hp} {Q : VK} {E : XK} {x y : V} {d : PyData} (h1 : Da H x d) (h2 : Da H y d) (h : dLess n d) (q : Q (.bl true) H) : spAlike n [x, y] H Q E := ⟨x, y, d, rfl, h1, h2, h, q⟩
theorem Df.triv {K : PySem.W.Frag} {mg : Str → Option Value} {x : Str} {st : Stmt} {ps : List Str} (F : Df K mg x st ps) {P : Program} {w : World} {base : Heap} {k : Nat} {sp : Sp} (h : ∀ vs H Q E, ¬ sp vs H Q E) : OkAt P w K mg base x k ps sp := by
  obtain ⟨f, fd, F, b, m⟩ := F.ex
  exact ⟨f, fd, ⟨fun vs H Q E z => absurd z (h vs H Q E), fun _ _ _ _ _ _ _ _ _ _ _ _ _ z => absurd z (h _ _ _ _)⟩, b, m, F.kp⟩
theorem ok__law_alike (T : TX mg) (F : Df K mg "_law_alike" s__law_alike ["_law_found", "_law_due"]) : ∀ n : Nat, OkAt P w K mg base "_law_alike" n ["_law_found", "_law_due"] (spAlike n)
  | 0 => F.triv fun vs H Q E z => by
    obtain ⟨_, _, _, _, _, _, z, _⟩ := z
    exact z
  | k + 1 => by
    have o__law_alike := ok__law_alike T F k
    refine F.ok sc__law_alike (fun vs H Q E h => ?_) (fun f cdv A outer s H vs Q E hr h => ?_)
    · obtain ⟨x, y, d, rfl, _⟩ := h
      rfl
    · obtain ⟨x, y, d, rfl, hx, hy, hd, q⟩ := h
      refine ⟨_, (pss_cons (ps_if (pt_cmpR op_uIsN (pv 1) pe_non (nomark _)) (pss_one (ps_ret (pe_cmpR op_uIsN (pv 0) pe_non (nomark _)))) pss_nil) (pss_cons (ps_if (pt_val (pe_callB (cr_isi K) (by rfl) T.b_isinstance (by decide +kernel) (pa_cons (pv 1) (pa_cons (pe_bltn (v := .ty "bool") (by rfl) T.b_bool (by decide +kernel) rfl) pa_nil)))) (pss_one (ps_ret (pe_and (pe_callB (cr_isi K) (by rfl) T.b_isinstance (by decide +kernel) (pa_cons (pv 0) (pa_cons (pe_bltn (v := .ty "bool") (by rfl) T.b_bool (by decide +kernel) rfl) pa_nil))) (pe_one (pe_cmpR (op_uEq K hr.units) (pv 0) (pv 1) (nomark _)))))) pss_nil) (pss_cons (ps_if (pt_val (pe_callB (cr_isi K) (by rfl) T.b_isinstance (by decide +kernel) (pa_cons (pv 1) (pa_cons (pe_bltn (v := .ty "int") (by rfl) T.b_int (by decide +kernel) rfl) pa_nil)))) (pss_one (ps_ret (pe_and (pe_callB (cr_isi K) (by rfl) T.b_isinstance (by decide +kernel) (pa_cons (pv 0) (pa_cons (pe_bltn (v := .ty "int") (by rfl) T.b_int (by decide +kernel) rfl) pa_nil))) (pe_and (pe_not (pe_callB (cr_isi K) (by rfl) T.b_isinstance (by decide +kernel) (pa_cons (pv 0) (pa_cons (pe_bltn (v := .ty "bool") (by rfl) T.b_bool (by decide +kernel) rfl) pa_nil)))) (pe_one (pe_cmpR (op_uEq K hr.units) (pv 0) (pv 1) (nomark _))))))) pss_nil) (pss_cons (ps_if (pt_val (pe_callB (cr_isi K) (by rfl) T.b_isinstance (by decide +kernel) (pa_cons (pv 1) (pa_cons (pe_bltn (v := .ty "str") (by rfl) T.b_str (by decide +kernel) rfl) pa_nil)))) (pss_one (ps_ret (pe_and (pe_callB (cr_isi K) (by rfl) T.b_isinstance (by decide +kernel) (pa_cons (pv 0) (pa_cons (pe_bltn (v := .ty "str") (by rfl) T.b_str (by decide +kernel) rfl) pa_nil))) (pe_one (pe_cmpR (op_uEq K hr.units) (pv 0) (pv 1) (nomark _)))))) pss_nil) (pss_cons (ps_if (PW.pt (pw_or (pt_cmpR (op_uNe K hr.units) (pe_callB (cr_isi K) (by rfl) T.b_isinstance (by decide +kernel) (pa_cons (pv 1) (pa_cons (pe_bltn (v := .ty "tuple") (by rfl) T.b_tuple (by decide +kernel) rfl) pa_nil))) (pe_callB (cr_isi K) (by rfl) T.b_isinstance (by decide +kernel) (pa_cons (pv 0) (pa_cons (pe_bltn (v := .ty "tuple") (by rfl) T.b_tuple (by decide +kernel) rfl) pa_nil))) (nomark _)) (pw_or1 (pt_cmpR (op_uNe K hr.units) (pe_callB (cr_isi K) (by rfl) T.b_isinstance (by decide +kernel) (pa_cons (pv 1) (pa_cons (pe_bltn (v := .ty "list") (by rfl) T.b_list (by decide +kernel) rfl) pa_nil))) (pe_callB (cr_isi K) (by rfl) T.b_isinstance (by decide +kernel) (pa_cons (pv 0) (pa_cons (pe_bltn (v := .ty "list") (by rfl) T.b_list (by decide +kernel) rfl) pa_nil))) (nomark _))))) (pss_one (ps_ret pe_bl)) pss_nil) (pss_cons (ps_if (pt_cmpR (op_uNe K hr.units) (pe_callB (cr_len K) (by rfl) T.b_len (by decide +kernel) (pa_cons (pv 0) pa_nil)) (pe_callB (cr_len K) (by rfl) T.b_len (by decide +kernel) (pa_cons (pv 1) pa_nil)) (nomark _)) (pss_one (ps_ret pe_bl)) pss_nil) (pss_cons (ps_for PassesOwn.never rfl (pi_range1 (by rfl) T.b_range (pa_cons (pe_callB (cr_len K) (by rfl) T.b_len (by decide +kernel) (pa_cons (pv 1) pa_nil)) pa_nil)) (pg_name (i := 2) sc__law_alike.nd rfl (by first | exact Or.inl rfl | exact Or.inr rfl)) (pss_one (ps_if (pt_not (pt_val (pe_cl o__law_alike hr (by rfl) (pa_cons (pe_ix (ix_u K) (pv 0) (pv 2) (fun _ _ => rfl)) (pa_cons (pe_ix (ix_u K) (pv 1) (pv 2) (fun _ _ => rfl)) pa_nil))))) (pss_one (ps_ret pe_bl)) pss_nil))) (pss_one (ps_ret pe_bl))))))))), ?_⟩
      cases d with
      | none =>
        cases hx
        cases hy
        walk_at "r"
        refine w_yes rfl ?_
        walk_at "r"
        rw [decide_eq_true rfl]
        exact q
      | bool b =>
        cases id hx
        cases id hy
        walk_at "r"
        refine w_no (fun z => nomatch z) ?_
        walk_at "r"
        refine r_isi hy kb_bool ?_
        walk_at "r"
        refine r_isi hx kb_bool ?_
        walk_at "r"
        rw [decide_eq_true rfl]
        exact q
      | int i =>
        cases id hx
        cases id hy
        walk_at "r"
        refine w_no (fun z => nomatch z) ?_
        walk_at "r"
        refine r_isi hy kb_int.1 ?_
        walk_at "r"
        refine r_isi hy kb_int.2 ?_
        walk_at "r"
        refine r_isi hx kb_int.2 ?_
        walk_at "r"
        refine r_isi hx kb_int.1 ?_
        walk_at "r"
        rw [decide_eq_true rfl]
        exact q
      | str z =>
        cases id hx
        cases id hy
        walk_at "r"
        refine w_no (fun z => nomatch z) ?_
        walk_at "r"
        refine r_isi hy kb_str.1 ?_
        walk_at "r"
        refine r_isi hy kb_str.2.1 ?_
        walk_at "r"
        refine r_isi hy kb_str.2.2 ?_
        walk_at "r"
        refine r_isi hx kb_str.2.2 ?_
        walk_at "r"
        rw [decide_eq_true rfl]
        exact q
      | dict _ => exact hd.elim
      | list ds =>
        obtain ⟨hlen, hall⟩ := hd
        cases id hx with
        | lst ex ax =>
          rename_i a xs
          cases id hy with
          | lst ey ay =>
            rename_i b ys
            have lx := daAll_len ax
            have ly := daAll_len ay
            walk_at "r"
            refine w_no (fun z => nomatch z) ?_
            walk_at "r"
            refine r_isi hy kb_list.1 ?_
            walk_at "r"
            refine r_isi hy kb_list.2.1 ?_
            walk_at "r"
            refine r_isi hy kb_list.2.2.1 ?_
            walk_at "r"
            refine r_isi hy kb_list.2.2.2.2 ?_
            walk_at "r"
            refine r_isi hx kb_list.2.2.2.2 ?_
            walk_at "r"
            refine w_nno rfl ?_
            walk_at "r"
            refine r_isi hy kb_list.2.2.2.1 ?_
            walk_at "r"
            refine r_isi hx kb_list.2.2.2.1 ?_
            walk_at "r"
            refine w_nno rfl ?_
            walk_at "r"
            refine w_nno (by omega) ?_
            walk_at "r"
            refine f_range1 (by omega) (by omega) (fun i σ H' => ∃ z, σ = [some (.ref a), some (.ref b), z] ∧ H' = H) ⟨none, rfl, rfl⟩ ?_ ?_
            · rintro i σ H' hi ⟨z, rfl, rfl⟩
              have hi2 : i < ds.length := by omega
              obtain ⟨u1, g1, d1⟩ := daAll_at ax i ds[i] (List.getElem?_eq_getElem hi2)
              obtain ⟨u2, g2, d2⟩ := daAll_at ay i ds[i] (List.getElem?_eq_getElem hi2)
              walk_at "r"
              refine r_ixL ex (atI_nat g1) ?_
              walk_at "r"
              refine r_ixL ey (atI_nat g2) ?_
              walk_at "r"
              refine use_alike d1 d2 (hall _ (List.getElem_mem hi2)) ?_
              walk_at "r"
              exact ⟨_, rfl, rfl⟩
            · rintro σ H' ⟨z, rfl, rfl⟩
              walk_at "r"
              exact q
      | tuple ds =>
        obtain ⟨hlen, hall⟩ := hd
        cases id hx with
        | tup ex ax =>
          rename_i a xs
          cases id hy with
          | tup ey ay =>
            rename_i b ys
            have lx := daAll_len ax
            have ly := daAll_len ay
            walk_at "r"
            refine w_no (fun z => nomatch z) ?_
            walk_at "r"
            refine r_isi hy kb_tuple.1 ?_
            walk_at "r"
            refine r_isi hy kb_tuple.2.1 ?_
            walk_at "r"
            refine r_isi hy kb_tuple.2.2.1 ?_
            walk_at "r"
            refine r_isi hy kb_tuple.2.2.2.2 ?_
            walk_at "r"
            refine r_isi hx kb_tuple.2.2.2.2 ?_
            walk_at "r"
            refine w_nno rfl ?_
            walk_at "r"
            refine r_isi hy kb_tuple.2.2.2.1 ?_
            walk_at "r"
            refine r_isi hx kb_tuple.2.2.2.1 ?_
            walk_at "r"
            refine w_nno rfl ?_
            walk_at "r"
            refine w_nno (by omega) ?_
            walk_at "r"
            refine f_range1 (by omega) (by omega) (fun i σ H' => ∃ z, σ = [some (.ref a), some (.ref b), z] ∧ H' = H) ⟨none, rfl, rfl⟩ ?_ ?_
            · rintro i σ H' hi ⟨z, rfl, rfl⟩
              have hi2 : i < ds.length := by omega
              obtain ⟨u1, g1, d1⟩ := daAll_at ax i ds[i] (List.getElem?_eq_getElem hi2)
              obtain ⟨u2, g2, d2⟩ := daAll_at ay i ds[i] (List.getElem?_eq_getElem hi2)
              walk_at "r"
              refine r_ixU ex (atI_nat g1) ?_
              walk_at "r"
              refine r_ixU ey (atI_nat g2) ?_
              walk_at "r"
              refine use_alike d1 d2 (hall _ (List.getElem_mem hi2)) ?_
              walk_at "r"
              exact ⟨_, rfl, rfl⟩
            · rintro σ H' ⟨z, rfl, rfl⟩
              walk_at "r"
              exact q

/-! ### slices -/
theorem cut_to {xs : List V} {k : Nat} : cutV xs none (some (k : Int)) = xs.take k := by
  unfold cutV
  rw [HT.sIx_none, HT.sIx_nat]
  show xs.take (min k xs.length - 0) = _
  rw [Nat.sub_zero, List.take_eq_take_iff]
  omega
theorem cut_from {xs : List V} {k : Nat} : cutV xs (some (k : Int)) none = xs.drop k := by
  unfold cutV
  rw [HT.sIx_none, HT.sIx_nat]
  by_cases h : k ≤ xs.length
  · rw [Nat.min_eq_left h]
    exact List.take_of_length_le (by rw [List.length_drop]; omega)
  · rw [Nat.min_eq_right (by omega), List.drop_of_length_le (Nat.le_refl _), List.drop_of_length_le (by omega)]
    exact List.take_nil
theorem getD_at {l : List Nat} {i : Nat} (h : i < l.length) : l[i]? = some (l.getD i 0) := by
  rw [List.getD_eq_getElem?_getD, List.getElem?_eq_getElem h]
  rfl
theorem pickN {xs : List V} {j : Nat} (h : j < xs.length) {Pd : V → Prop} (a : ∀ x ∈ xs, Pd x) : ∃ z, atI xs (j : Int) = some z ∧ Pd z :=
  ⟨xs[j], atI_nat (List.getElem?_eq_getElem h), a _ (List.getElem_mem h)⟩
theorem pick_nat {ns : List Nat} {m j : Nat} (h : j < ns.length) (a : ∀ n ∈ ns, n ≤ m) : ∃ n : Nat, atI (ns.map fun n => V.int (n : Nat)) (j : Int) = some (.int (n : Nat)) ∧ n ≤ m :=
  ⟨ns[j], atI_nat (by rw [List.getElem?_map, List.getElem?_eq_getElem h]; rfl), a _ (List.getElem_mem h)⟩
theorem setV_of {r : Nat} (h : (r : Int) < 2) : ∃ b : Bool, V.int (r : Int) = setV b := by
  by_cases e : r = 1
  · exact ⟨true, by rw [e]; rfl⟩
  · exact ⟨false, by rw [show r = 0 by omega]; rfl⟩
/-- texts -/
def strsV (l : List (List Nat)) : List V := l.map fun x => V.str (mkS x)
theorem strsV_at {l : List (List Nat)} {i : Nat} {x : List Nat} (h : l[i]? = some x) : (strsV l)[i]? = some (.str (mkS x)) := by
  unfold strsV
  rw [List.getElem?_map, h]
  rfl
theorem strsV_len (l : List (List Nat)) : (strsV l).length = l.length := List.length_map _
theorem tapeV_get {t : List Nat} {i c : Nat} (h : t[i]? = some c) : (tapeV t)[i]? = some (.int (c : Nat)) := by
  unfold tapeV
  rw [List.getElem?_map, h]
  rfl
theorem cutS_from {l : List Nat} {k : Nat} : cutS (mkS l) (some (k : Int)) none = mkS (l.drop k) := by
  unfold cutS
  rw [HT.sIx_none, HT.sIx_nat, len_mkS]
  refine congrArg (fun x : List Nat => mkS x) ?_
  show (l.drop (min k l.length)).take (l.length - min k l.length) = _
  by_cases h : k ≤ l.length
  · rw [Nat.min_eq_left h]
    exact List.take_of_length_le (by rw [List.length_drop]; omega)
  · rw [Nat.min_eq_right (by omega), List.drop_of_length_le (Nat.le_refl _), List.drop_of_length_le (by omega)]
    exact List.take_nil
theorem cutS_to {l : List Nat} {k : Nat} : cutS (mkS l) none (some (k : Int)) = mkS (l.take k) := by
  unfold cutS
  rw [HT.sIx_none, HT.sIx_nat, len_mkS]
  refine congrArg (fun x : List Nat => mkS x) ?_
  show (l.drop 0).take (min k l.length - 0) = _
  rw [Nat.sub_zero, List.drop_zero, List.take_eq_take_iff]
  omega
/-! ### data that may be compared -/
mutual
theorem da_dp {K : PySem.W.Frag} {H : Hp} : ∀ (d : PyData) (v : V), Da H v d → Dp K H v d
  | .none, _, h => by cases h; exact .non
  | .bool b, _, h => by cases h; exact .bl b
  | .int i, _, h => by cases h; exact .int i
  | .str s, _, h => by cases h; exact .str s
  | .list ds, _, h => by
    cases h with
    | lst hl ha => exact .lst (SqL.of hl) (da_dpAll ds _ ha)
  | .tuple ds, _, h => by
    cases h with
    | tup hl ha => exact .tup (SqT.of hl) (da_dpAll ds _ ha)
  | .dict _, _, h => by cases h
theorem da_dpAll {K : PySem.W.Frag} {H : Hp} : ∀ (ds : List PyData) (vs : List V), DaAll H vs ds → DpAll K H vs ds
  | [], _, h => by cases h; exact .nil
  | d :: ds, _, h => by
    cases h with
    | cons h1 h2 => exact .cons (da_dp d _ h1) (da_dpAll ds _ h2)
end
theorem shaped_all {n : Nat} (hn : n ≤ 60) : ∀ {ds : List PyData}, (∀ d ∈ ds, d.canLay0 = true ∧ d.depth ≤ n) → PyData.canLayAll0 ds = true ∧ PyData.depthAll ds ≤ n
  | [], _ => ⟨rfl, Nat.zero_le _⟩
  | d :: ds, h => by
    obtain ⟨h1, h2⟩ := shaped_all hn (ds := ds) fun d hd => h d (List.mem_cons_of_mem _ hd)
    obtain ⟨h3, h4⟩ := h d List.mem_cons_self
    rw [PyData.canLayAll0, PyData.depthAll, h1, h3]
    exact ⟨rfl, by omega⟩
theorem shaped_list {n : Nat} (hn : n ≤ 60) {ds : List PyData} (h : ∀ d ∈ ds, d.canLay0 = true ∧ d.depth ≤ n) : SeqAt.shaped (.list ds) = true := by
  obtain ⟨h1, h2⟩ := shaped_all hn h
  unfold SeqAt.shaped
  rw [show (PyData.list ds).canLay0 = true from h1, decide_eq_true (show (PyData.list ds).depth ≤ 64 by show PyData.depthAll ds + 1 ≤ 64; omega)]
  rfl
theorem eqv_nil (ds : List PyData) : PyData.eqv (.list ds) (.list []) = decide (ds = []) := by
  rw [PyData.eqv]
  cases ds <;> rfl
theorem r_eqNil {K : PySem.W.Frag} {H : Hp} {Q : VK} {a b : Addr} {xs : List V} {ds : List PyData} {n : Nat} (h1 : H a = some (.lst xs)) (d : DaAll H xs ds) (hn : n ≤ 60) (hd : ∀ d ∈ ds, d.canLay0 = true ∧ d.depth ≤ n) (h2 : H b = some (.lst [])) (q : Q (.bl (decide (ds = []))) H) : uEq K (.ref a) (.ref b) H Q :=
  r_eqD (da_dp (.list ds) _ (.lst h1 d)) (dp_nil h2) (shaped_list hn hd) rfl (by rw [eqv_nil]; exact q)
theorem da_tape {H : Hp} {a : Addr} {t : List Nat} (h : H a = some (.lst (tapeV t))) : Da H (.ref a) (.list (t.map fun c => .int (c : Nat))) := by
  refine .lst h ?_
  clear h
  unfold tapeV
  induction t with
  | nil => exact .nil
  | cons c r ih => exact .cons (.int _) ih
theorem less_tape {n : Nat} {t : List Nat} (h : t.length ≤ 100000) : dLess (n + 2) (.list (t.map fun c => .int (c : Nat))) := by
  refine ⟨by rw [List.length_map]; exact h, fun d hd => ?_⟩
  obtain ⟨c, _, rfl⟩ := List.mem_map.mp hd
  exact True.intro
theorem strsV_app (a b : List (List Nat)) : strsV a ++ strsV b = strsV (a ++ b) := (List.map_append ..).symm
theorem pick_natR {ns : List Nat} {lo m j : Nat} (h : j < ns.length) (a : ∀ n ∈ ns, lo ≤ n ∧ n ≤ m) : ∃ n : Nat, atI (ns.map fun n => V.int (n : Nat)) (j : Int) = some (.int (n : Nat)) ∧ lo ≤ n ∧ n ≤ m :=
  ⟨ns[j], atI_nat (by rw [List.getElem?_map, List.getElem?_eq_getElem h]; rfl), a _ (List.getElem_mem h)⟩
theorem div3 {r : Nat} (h : (r : Int) < 4) : ∃ j : Nat, (r : Int) / 3 = (j : Int) ∧ j < 2 := ⟨r / 3, by omega, by omega⟩
theorem joinL_nil : ∀ l : List (List Nat), TL.joinL [] l = l.flatten
  | [] => rfl
  | [a] => by rw [List.flatten_cons]; exact (List.append_nil _).symm
  | a :: b :: l => by
    rw [List.flatten_cons, ← joinL_nil (b :: l)]
    rfl
theorem join_strs (l : List (List Nat)) : Txt.join (Str.ofString "") (l.map mkS) = mkS l.flatten := by
  refine TL.ext_tl ?_
  rw [TL.join_eq, TL.tl_join, List.map_map]
  show TL.joinL [] (l.map fun x => x) = l.flatten
  rw [List.map_id']
  exact joinL_nil l
theorem strs_size {l : List (List Nat)} (h : l.flatten.length ≤ 100000) : ((l.map mkS).map (·.length)).sum + (l.map mkS).length * (Str.ofString "").length ≤ 16777216 := by
  have z : (Str.ofString "").length = 0 := by decide
  have e : ((l.map mkS).map (·.length)).sum = l.flatten.length := by
    rw [List.map_map, List.length_flatten]
    exact congrArg List.sum (List.map_congr_left fun x _ => len_mkS x)
  rw [z, e]
  omega
theorem strsV_mk (l : List (List Nat)) : strsV l = (l.map mkS).map V.str := by
  unfold strsV
  rw [List.map_map]
  rfl
theorem r_joinS {K : PySem.W.Frag} {H : Hp} {Q : VK} {p : Addr} {l : List (List Nat)} (h : H p = some (.lst (strsV l))) (hl : l.flatten.length ≤ 100000) (q : Q (.str (mkS l.flatten)) H) : mJoin K (.str (Str.ofString "")) [.ref p] H Q := by
  rw [strsV_mk] at h
  refine r_join h (strs_size hl) ?_
  rw [join_strs]
  exact q
theorem mkS_one (a b : Nat) : decide (mkS [a] = mkS [b]) = decide (a = b) := by
  rw [mkS_eq]
  by_cases e : a = b
  · rw [e, decide_eq_true rfl, decide_eq_true rfl]
  · rw [decide_eq_false e, decide_eq_false fun z => e (by injection z)]
theorem sing_ne (a b : Nat) : decide (sing a = sing b) = decide (a = b) := by
  by_cases e : a = b
  · rw [e, decide_eq_true rfl, decide_eq_true rfl]
  · rw [decide_eq_false e, decide_eq_false fun z => e (sing_inj z)]
theorem r_inC {K : PySem.W.Frag} {H : Hp} {Q : VK} {c : Nat} {l : List Nat} (q : Q (.bl (decide (c ∈ l))) H) : uIn K (.str (sing c)) (.str (mkS l)) H Q := r_inS q
theorem r_niC {K : PySem.W.Frag} {H : Hp} {Q : VK} {c : Nat} {l : List Nat} (q : Q (.bl (!decide (c ∈ l))) H) : uNi K (.str (sing c)) (.str (mkS l)) H Q := r_niS q

/-! ### rows of numbers -/
def rowD (q : Nat × Nat) : PyData := .tuple [.int (q.1 : Nat), .int (q.2 : Nat)]
theorem daAll_app {H : Hp} : ∀ {xs ys : List V} {ds es : List PyData}, DaAll H xs ds → DaAll H ys es → DaAll H (xs ++ ys) (ds ++ es)
  | _, _, _, _, .nil, h => h
  | _, _, _, _, .cons h1 h2, h => .cons h1 (daAll_app h2 h)
theorem but_rows {H H' : Hp} {p : Addr} {zs : List V} (b : But p H H') (hp : H p = some (.lst zs)) : ∀ {xs : List V} {l : List (Nat × Nat)}, DaAll H xs (l.map rowD) → DaAll H' xs (l.map rowD)
  | _, [], h => by
    cases h
    exact .nil
  | _, q :: l, h => by
    cases h with
    | cons h1 h2 =>
      cases h1 with
      | tup e a =>
        have ne := ne_of e hp (fun z => nomatch z)
        refine .cons (.tup (b _ _ ne e) ?_) (but_rows b hp h2)
        cases a with
        | cons a1 a2 =>
          cases a1
          cases a2 with
          | cons a3 a4 =>
            cases a3
            cases a4
            exact .cons (.int _) (.cons (.int _) .nil)
theorem range_snoc (n : Nat) (f : Nat → Bool) : (List.range (n + 1)).filter f = (List.range n).filter f ++ (if f n = true then [n] else []) := by
  rw [List.range_succ, List.filter_append]
  congr 1
  rw [List.filter_cons]
  rfl
theorem len_filter_range (n : Nat) (f : Nat → Bool) : ((List.range n).filter f).length ≤ n := by
  have := List.length_filter_le f (List.range n)
  rwa [List.length_range] at this
/-- what a comprehension over a range has so far -/
def fr (P : Nat → Bool) (g : Nat → V) (i : Nat) : List V := ((List.range i).filter P).map g
theorem fr_len (P : Nat → Bool) (g : Nat → V) (i : Nat) : (fr P g i).length ≤ i := by
  unfold fr
  rw [List.length_map]
  exact len_filter_range i P
theorem fr_yes {P : Nat → Bool} {g : Nat → V} {i : Nat} (h : P i = true) : fr P g (i + 1) = fr P g i ++ [g i] := by
  unfold fr
  rw [range_snoc, if_pos h, List.map_append]
  rfl
theorem fr_no {P : Nat → Bool} {g : Nat → V} {i : Nat} (h : P i = false) : fr P g (i + 1) = fr P g i := by
  unfold fr
  rw [range_snoc, if_neg (by rw [h]; decide), List.append_nil]
theorem less_rows {n : Nat} {l : List (Nat × Nat)} (h : l.length ≤ 100000) : dLess (n + 3) (.list (l.map rowD)) := by
  refine ⟨by rw [List.length_map]; exact h, fun d hd => ?_⟩
  obtain ⟨c, _, rfl⟩ := List.mem_map.mp hd
  refine ⟨show 2 ≤ 100000 by decide, fun d hd => ?_⟩
  rcases List.mem_cons.mp hd with z | z
  · rw [z]
    exact True.intro
  · rcases List.mem_cons.mp z with z | z
    · rw [z]
      exact True.intro
    · cases z
theorem fr_get (l : List Nat) (P : Nat → Bool) : fr (fun k => P (l.getD k 0)) (fun k => .int (l.getD k 0 : Nat)) l.length = tapeV (l.filter P) := by
  have e : (List.range l.length).map (fun k => l.getD k 0) = l := by
    refine List.ext_getElem? fun i => ?_
    rw [List.getElem?_map]
    by_cases h : i < l.length
    · rw [List.getElem?_range h, getD_at h]
      rfl
    · rw [List.getElem?_eq_none (by rw [List.length_range]; omega), List.getElem?_eq_none (by omega)]
      rfl
  have e2 : l.filter P = ((List.range l.length).filter (fun k => P (l.getD k 0))).map (fun k => l.getD k 0) := by
    conv => lhs; rw [← e, List.filter_map]
    rfl
  rw [e2]
  unfold fr tapeV
  rw [List.map_map]
  rfl
def selV (P : Nat × Nat → Bool) (xs : List V) (l : List (Nat × Nat)) (i : Nat) : List V := (((xs.zip l).take i).filter fun z => P z.2).map (·.1)
theorem selV_len (P : Nat × Nat → Bool) (xs : List V) (l : List (Nat × Nat)) (i : Nat) : (selV P xs l i).length ≤ i := by
  unfold selV
  rw [List.length_map]
  refine Nat.le_trans (List.length_filter_le _ _) ?_
  rw [List.length_take]
  exact Nat.min_le_left _ _
theorem selV_next {P : Nat × Nat → Bool} {xs : List V} {l : List (Nat × Nat)} {i : Nat} {x : V} {q : Nat × Nat} (h1 : xs[i]? = some x) (h2 : l[i]? = some q) : selV P xs l (i + 1) = selV P xs l i ++ (if P q = true then [x] else []) := by
  unfold selV
  rw [take_snoc (List.getElem?_zip_eq_some.mpr ⟨h1, h2⟩ : (xs.zip l)[i]? = some (x, q)), List.filter_append, List.map_append]
  congr 1
  rw [List.filter_cons]
  show List.map _ (if P q = true then _ else _) = _
  split <;> rfl
theorem selV_da {H : Hp} {P : Nat × Nat → Bool} : ∀ {xs : List V} {l : List (Nat × Nat)}, DaAll H xs (l.map rowD) → DaAll H (((xs.zip l).filter fun z => P z.2).map (·.1)) ((l.filter P).map rowD)
  | _, [], h => by
    cases h
    exact .nil
  | _, q :: l, h => by
    cases h with
    | cons h1 h2 =>
      have ih := selV_da (P := P) h2
      rw [List.zip_cons_cons, List.filter_cons, List.filter_cons]
      dsimp only
      by_cases e : P q = true
      · rw [if_pos e, if_pos e]
        exact .cons h1 ih
      · rw [if_neg e, if_neg e]
        exact ih
theorem rowD_flat {l : List (Nat × Nat)} : ∀ d ∈ l.map rowD, d.canLay0 = true ∧ d.depth ≤ 2 := fun d hd => by
  obtain ⟨q, _, rfl⟩ := List.mem_map.mp hd
  exact ⟨rfl, (by decide : (2 : Nat) ≤ 2) |> fun _ => by
    show PyData.depthAll [.int (q.1 : Nat), .int (q.2 : Nat)] + 1 ≤ 2
    rw [PyData.depthAll, PyData.depthAll, PyData.depthAll]
    show (max 0 (max 0 0)) + 1 ≤ 2
    decide⟩
theorem daRow {H : Hp} {x : V} {q : Nat × Nat} (h : Da H x (rowD q)) : ∃ a, x = .ref a ∧ H a = some (.tup [.int (q.1 : Nat), .int (q.2 : Nat)]) := by
  cases h with
  | tup e a =>
    refine ⟨_, rfl, ?_⟩
    rw [e]
    cases a with
    | cons a1 a2 =>
      cases a1
      cases a2 with
      | cons a3 a4 =>
        cases a3
        cases a4
        rfl
theorem rowAt {H : Hp} {xs : List V} {l : List (Nat × Nat)} (h : DaAll H xs (l.map rowD)) {i : Nat} {x : V} (hx : xs[i]? = some x) : ∃ q a, l[i]? = some q ∧ x = .ref a ∧ H a = some (.tup [.int (q.1 : Nat), .int (q.2 : Nat)]) := by
  have hl := daAll_len h
  have hi := (List.getElem?_eq_some_iff.mp hx).1
  rw [List.length_map] at hl
  obtain ⟨q, hq⟩ : ∃ q, l[i]? = some q := ⟨_, List.getElem?_eq_getElem (by omega)⟩
  obtain ⟨v, e, d⟩ := daAll_at h i (rowD q) (by rw [List.getElem?_map, hq]; rfl)
  obtain ⟨a, e2, ha⟩ := daRow d
  rw [hx] at e
  exact ⟨q, a, hq, by rw [Option.some.inj e]; exact e2, ha⟩

def spShiftTo : Sp := fun vs H Q E => ∃ (v : V) (sh : Sh) (b : Bool), vs = [v, setV b] ∧ (IsSh H v sh) ∧ (sh.Ok) ∧ (Q (.int ((sh.n + b2n b : Nat) : Int)) H)
theorem use_shift_to {H : Hp} {Q : VK} {E : XK} {v : V} {sh : Sh} {b : Bool} (hv : IsSh H v sh) (ok : sh.Ok) (q : Q (.int ((sh.n + b2n b : Nat) : Int)) H) : spShiftTo [v, setV b] H Q E := ⟨v, sh, b, rfl, hv, ok, q⟩

theorem ok_shift_to {k : Nat} (T : TX mg) (F : Df K mg "shift_to" s_shift_to ["sheet", "number"]) : OkAt P w K mg base "shift_to" (k + 1) ["sheet", "number"] spShiftTo := by
  refine F.ok sc_shift_to (fun vs H Q E h => ?_) (fun f cdv A outer s H vs Q E hr h => ?_)
  · obtain ⟨v, sh, b, rfl, _⟩ := h
    rfl
  obtain ⟨v, sh, b, rfl, hv, ok, q⟩ := h
  refine ⟨_, (pss_one (ps_ret (pe_op (op_uAdd K) (pe_callB (cr_len K) (by rfl) T.b_len (by decide +kernel) (pa_cons (pe_ix (ix_u K) (pv 0) pe_int (fun _ _ => rfl)) pa_nil)) (pv 1)))), ?_⟩
  obtain ⟨a, rfl, ha⟩ := id hv
  have h26 := ok.most
  walk_at "r"
  refine r_lenS (by rw [len_mkS]; exact le_size (by omega)) ?_
  rw [len_mkS]
  walk_at "r"
  refine r_addI ?_
  rw [show (sh.zero.length : Int) + ((b2n b : Nat) : Int) = ((sh.n + b2n b : Nat) : Int) by unfold Sh.n; omega]
  exact q
namespace Sh
theorem behind_shift (s : Sh) (b h : Bool) : s.behind (s.n + b2n b) h = b := by
  unfold behind
  rw [if_pos (Nat.le_add_right _ _)]
  cases b
  · exact decide_eq_false (by show ¬ s.n + 0 = s.n + 1; omega)
  · exact decide_eq_true rfl
theorem txt_shift (s : Sh) (t : List Nat) (b h : Bool) : s.txt ((s.n + b2n b) :: t) h = s.txt t b := by
  show (if s.n ≤ s.n + b2n b then [] else _) ++ s.txt t (s.behind _ h) = _
  rw [if_pos (Nat.le_add_right _ _), behind_shift]
  rfl
theorem last_shift (s : Sh) (t : List Nat) (b h : Bool) : s.last ((s.n + b2n b) :: t) h = s.last t b := by
  show s.last t (s.behind _ h) = _
  rw [behind_shift]
end Sh
theorem r_flip {H : Hp} {Q : VK} {b : Bool} (q : Q (setV (!b)) H) : uSub (.int 1) (setV b) H Q := by
  refine ⟨1, (b2n b : Nat), rfl, rfl, ?_⟩
  have e : V.int (1 - ((b2n b : Nat) : Int)) = setV (!b) := by cases b <;> rfl
  show Q (V.int (1 - ((b2n b : Nat) : Int))) H
  rw [e]
  exact q

/-! ### signs and their codes -/
namespace Sh
def code (s : Sh) (c : Nat) (b : Bool) : Option Nat := if c ∈ s.signs b then some ((s.signs b).idxOf c) else none
theorem nd {s : Sh} (ok : s.Ok) (b : Bool) : (s.signs b).Nodup := by
  cases b
  · exact ok.nd0
  · exact ok.nd1
theorem idx_uniq {l : List Nat} (nd : l.Nodup) {i c : Nat} (h : l[i]? = some c) : l.idxOf c = i := by
  obtain ⟨hi, e⟩ := List.getElem?_eq_some_iff.mp h
  rw [← e]
  exact nd.idxOf_getElem i hi
theorem code_at {s : Sh} {c : Nat} {b : Bool} {k : Nat} (h : s.code c b = some k) : (s.signs b)[k]? = some c := by
  unfold code at h
  split at h
  · rename_i hm
    rw [← Option.some.inj h, List.getElem?_eq_getElem (List.idxOf_lt_length_iff.mpr hm), List.getElem_idxOf]
  · cases h
theorem code_lt {s : Sh} (ok : s.Ok) {c : Nat} {b : Bool} {k : Nat} (h : s.code c b = some k) : k < s.n := by
  have := (List.getElem?_eq_some_iff.mp (code_at h)).1
  rwa [signs_len ok] at this
theorem code_sign {s : Sh} {c : Nat} {b : Bool} {k : Nat} (h : s.code c b = some k) : s.sign k b = c := by
  unfold sign
  rw [List.getD_eq_getElem?_getD, code_at h]
  rfl
theorem code_of_at {s : Sh} (ok : s.Ok) {c : Nat} {b : Bool} {k : Nat} (h : (s.signs b)[k]? = some c) : s.code c b = some k := by
  unfold code
  rw [if_pos (List.mem_of_getElem? h), idx_uniq (nd ok b) h]
/-- the signs that may be sent -/
def Can (s : Sh) (x : List Nat) : Prop := ∀ c ∈ x, c ∈ s.zero ∨ c ∈ s.one
theorem can_code {s : Sh} {x : List Nat} (h : s.Can x) {c : Nat} (hc : c ∈ x) (b : Bool) (hn : s.code c b = none) : ∃ k, s.code c (!b) = some k := by
  have hn2 : c ∉ s.signs b := fun z => by
    unfold code at hn
    rw [if_pos z] at hn
    cases hn
  have h2 : c ∈ s.signs (!b) := by
    cases b
    · rcases h c hc with z | z
      · exact absurd z hn2
      · exact z
    · rcases h c hc with z | z
      · exact z
      · exact absurd z hn2
  exact ⟨_, if_pos h2⟩
end Sh
def spCodeOf : Sp := fun vs H Q E => ∃ (v : V) (sh : Sh) (c : Nat) (b : Bool), vs = [v, .str (sing c), setV b] ∧ (IsSh H v sh) ∧ (sh.Ok) ∧ (Q (hV (sh.code c b)) H)
theorem use_code_of {H : Hp} {Q : VK} {E : XK} {v : V} {sh : Sh} {c : Nat} {b : Bool} (hv : IsSh H v sh) (ok : sh.Ok) (q : Q (hV (sh.code c b)) H) : spCodeOf [v, .str (sing c), setV b] H Q E := ⟨v, sh, c, b, rfl, hv, ok, q⟩

theorem ok_code_of {k : Nat} (T : TX mg) (F : Df K mg "code_of" s_code_of ["sheet", "sign", "number"]) : OkAt P w K mg base "code_of" (k + 1) ["sheet", "sign", "number"] spCodeOf := by
  refine F.ok sc_code_of (fun vs H Q E h => ?_) (fun f cdv A outer s H vs Q E hr h => ?_)
  · obtain ⟨v, sh, c, b, rfl, _⟩ := h
    rfl
  obtain ⟨v, sh, c, b, rfl, hv, ok, q⟩ := h
  refine ⟨_, (pss_cons (ps_set (i := 3) sc_code_of.nd rfl (by first | exact Or.inl rfl | exact Or.inr rfl) (pe_ix (ix_u K) (pv 0) (pv 2) (fun _ _ => rfl))) (pss_one (ps_ret (pe_ifExp (pt_cmpR (op_uIn K) (pv 1) (pv 3) (by rfl)) (pe_bmK K PySem.F.plainAttrs_str PySem.F.slot_str_index PySem.F.type_str_index mt_indexN (pv 3) (pa_cons (pv 1) pa_nil)) pe_non)))), ?_⟩
  have h26 := ok.most
  have hl := Sh.signs_len ok b
  walk_at "r"
  refine r_ixSh hv ?_
  walk_at "r"
  refine r_inC ?_
  walk_at "r"
  refine w_dec (fun h => ?_) (fun h => ?_)
  · walk_at "r"
    refine ⟨_, c, rfl, rfl, by rw [tl_mkS]; exact h, fun i hi => ?_⟩
    rw [tl_mkS] at hi
    rw [Sh.code_of_at ok hi] at q
    exact q
  · walk_at "r"
    have e : sh.code c b = none := if_neg h
    rw [e] at q
    exact q
def spNeedText : Sp := fun vs H Q E => ∃ (v : V) (sh : Sh) (x : List Nat), vs = [v, .str (mkS x)] ∧ (IsSh H v sh) ∧ (sh.Ok) ∧ (sh.Can x) ∧ (x.length ≤ 32) ∧ (∀ H', Same H H' → Q .non H')
theorem use_need_text {H : Hp} {Q : VK} {E : XK} {v : V} {sh : Sh} {x : List Nat} (hv : IsSh H v sh) (ok : sh.Ok) (hc : sh.Can x) (hl : x.length ≤ 32) (q : ∀ H', Same H H' → Q .non H') : spNeedText [v, .str (mkS x)] H Q E := ⟨v, sh, x, rfl, hv, ok, hc, hl, q⟩

theorem ok_need_text {k : Nat} (T : TX mg) (F : Df K mg "need_text" s_need_text ["sheet", "text"]) : OkAt P w K mg base "need_text" (k + 1) ["sheet", "text"] spNeedText := by
  refine F.ok sc_need_text (fun vs H Q E h => ?_) (fun f cdv A outer s H vs Q E hr h => ?_)
  · obtain ⟨v, sh, x, rfl, _⟩ := h
    rfl
  obtain ⟨v, sh, x, rfl, hv, ok, hc, hl, q⟩ := h
  refine ⟨_, (pss_one (ps_for PassesOwn.never rfl (pi_enumS (by rfl) T.b_enumerate (pa_cons (pv 1) pa_nil)) (pg_tupK K (n := 2) rfl (pgs_cons (pg_name (i := 2) sc_need_text.nd rfl (by first | exact Or.inl rfl | exact Or.inr rfl)) (pgs_cons (pg_name (i := 3) sc_need_text.nd rfl (by first | exact Or.inl rfl | exact Or.inr rfl)) pgs_nil))) (pss_one (ps_if (PW.pt (pw_or (pt_cmpR op_uGe (pv 2) (pe_gInt (by rfl) T.c_MOST_TEXT) (nomark _)) (pw_or1 (pt_cmpR (op_uNi K) (pv 3) (pe_op (op_uAdd K) (pe_ix (ix_u K) (pv 0) pe_int (fun _ _ => rfl)) (pe_ix (ix_u K) (pv 0) pe_int (fun _ _ => rfl))) (by rfl))))) (pss_one ps_never) pss_nil)))), ?_⟩
  have h26 := ok.most
  have hlo := ok.len
  obtain ⟨a, rfl, ha⟩ := id hv
  walk_at "r"
  refine f_enumS (fun i σ H' => ∃ y z, σ = [some (.ref a), some (.str (mkS x)), y, z] ∧ Same H H') ⟨none, none, rfl, Same.refl _⟩ ?_ ?_
  · rintro i c σ H1 T1 H2 hx ⟨y, z, rfl, s⟩ hT s1 e1
    rw [tl_mkS] at hx
    have hi : i < 32 := Nat.lt_of_lt_of_le (List.getElem?_eq_some_iff.mp hx).1 hl
    have ha2 := s1 _ _ (s _ _ ha)
    walk_at "r"
    refine w_no (by omega) ?_
    walk_at "r"
    refine r_addS (by rw [len_mkS, len_mkS]; exact le_size (by omega)) ?_
    rw [mkS_app]
    walk_at "r"
    refine r_niC ?_
    walk_at "r"
    refine w_nno (List.mem_append.mpr (hc c (List.mem_of_getElem? hx))) ?_
    walk_at "r"
    exact ⟨_, _, rfl, s.trans s1⟩
  · rintro σ H' ⟨y, z, rfl, s⟩
    exact q H' s

/-! ### costs -/
namespace Sh
def stOf (o : Option Nat) (f : Nat → Nat) : Nat := match o with
  | none => 1000000
  | some k => 1 + f k
def cost (s : Sh) : List Nat → Bool → Nat
  | [], _ => 0
  | c :: t, b => min (stOf (s.code c b) fun k => s.cost t (s.behind k b)) (1 + stOf (s.code c (!b)) fun k => s.cost t (s.behind k (!b)))
def st (s : Sh) (c : Nat) (t : List Nat) (b : Bool) : Nat := stOf (s.code c b) fun k => s.cost t (s.behind k b)
theorem cost_cons (s : Sh) (c : Nat) (t : List Nat) (b : Bool) : s.cost (c :: t) b = min (s.st c t b) (1 + s.st c t (!b)) := rfl
theorem st_none {s : Sh} {c : Nat} {t : List Nat} {b : Bool} (h : s.code c b = none) : s.st c t b = 1000000 := by
  unfold st
  rw [h]
  rfl
theorem st_some {s : Sh} {c : Nat} {t : List Nat} {b : Bool} {k : Nat} (h : s.code c b = some k) : s.st c t b = 1 + s.cost t (s.behind k b) := by
  unfold st
  rw [h]
  rfl
theorem cost_le (s : Sh) : ∀ (x : List Nat) (b : Bool), s.Can x → s.cost x b ≤ 2 * x.length
  | [], _, _ => Nat.zero_le _
  | c :: t, b, h => by
    have ht : s.Can t := fun d hd => h d (List.mem_cons_of_mem _ hd)
    rw [cost_cons, List.length_cons]
    cases e : s.code c b with
    | some k =>
      have := cost_le s t (s.behind k b) ht
      rw [st_some e]
      omega
    | none =>
      obtain ⟨k, hk⟩ := can_code h List.mem_cons_self b e
      have := cost_le s t (s.behind k (!b)) ht
      rw [st_some hk]
      omega
theorem cost_top (s : Sh) : ∀ (x : List Nat) (b : Bool), s.cost x b ≤ 1000001 + x.length
  | [], _ => Nat.zero_le _
  | c :: t, b => by
    rw [cost_cons, List.length_cons]
    cases e : s.code c b with
    | some k =>
      have := cost_top s t (s.behind k b)
      rw [st_some e]
      omega
    | none =>
      rw [st_none e]
      omega
/-- for each tail of the text, what is left to send -/
def costs (s : Sh) : List Nat → List (Nat × Nat)
  | [] => [(0, 0)]
  | c :: t => (s.cost (c :: t) false, s.cost (c :: t) true) :: s.costs t
theorem costs_len (s : Sh) : ∀ x : List Nat, (s.costs x).length = x.length + 1
  | [] => rfl
  | c :: t => congrArg (· + 1) (costs_len s t)
theorem costs_at (s : Sh) : ∀ (x : List Nat) (i : Nat), i ≤ x.length → (s.costs x)[i]? = some (s.cost (x.drop i) false, s.cost (x.drop i) true)
  | [], 0, _ => rfl
  | c :: t, 0, _ => rfl
  | c :: t, i + 1, h => costs_at s t i (by simpa using h)
end Sh
def rowGet (q : Nat × Nat) (b : Bool) : Nat := if b then q.2 else q.1
theorem rowGet_cost (s : Sh) (x : List Nat) (b : Bool) : rowGet (s.cost x false, s.cost x true) b = s.cost x b := by cases b <;> rfl
theorem r_ixRow {K : PySem.W.Frag} {H : Hp} {Q : VK} {a : Addr} {q : Nat × Nat} {b : Bool} (h : H a = some (.tup [.int (q.1 : Nat), .int (q.2 : Nat)])) (k : Q (.int (rowGet q b : Nat)) H) : uIx K (.ref a) (setV b) H Q := by
  refine r_ixU h (n := (b2n b : Nat)) ?_ k
  cases b <;> rfl
theorem daRowAt {H : Hp} {xs : List V} {l : List (Nat × Nat)} (h : DaAll H xs (l.map rowD)) {i : Nat} {q : Nat × Nat} (hq : l[i]? = some q) : ∃ a, xs[i]? = some (.ref a) ∧ H a = some (.tup [.int (q.1 : Nat), .int (q.2 : Nat)]) := by
  obtain ⟨v, e, d⟩ := daAll_at h i (rowD q) (by rw [List.getElem?_map, hq]; rfl)
  obtain ⟨a, rfl, ha⟩ := daRow d
  exact ⟨a, e, ha⟩
theorem drop_prev {x : List Nat} {i c : Nat} (h : x[i]? = some c) : x.drop i = c :: x.drop (i + 1) := by
  obtain ⟨hi, e⟩ := List.getElem?_eq_some_iff.mp h
  rw [← e, List.getElem_cons_drop]
theorem bool_of {i : Nat} (h : (i : Int) < 2) : ∃ b : Bool, V.int (i : Int) = setV b ∧ b2n b = i := by
  by_cases e : i = 1
  · exact ⟨true, by rw [e]; rfl, e.symm⟩
  · have : i = 0 := by omega
    exact ⟨false, by rw [this]; rfl, this.symm⟩
def spCostsOf : Sp := fun vs H Q E => ∃ (v : V) (sh : Sh) (x : List Nat), vs = [v, .str (mkS x)] ∧ (IsSh H v sh) ∧ (sh.Ok) ∧ (x.length ≤ 32) ∧ (∀ p xs H', H p = none → Same H H' → H' p = some (.lst xs) → DaAll H' xs ((sh.costs x).map rowD) → Q (.ref p) H')
theorem use_costs_of {H : Hp} {Q : VK} {E : XK} {v : V} {sh : Sh} {x : List Nat} (hv : IsSh H v sh) (ok : sh.Ok) (hl : x.length ≤ 32) (q : ∀ p xs H', H p = none → Same H H' → H' p = some (.lst xs) → DaAll H' xs ((sh.costs x).map rowD) → Q (.ref p) H') : spCostsOf [v, .str (mkS x)] H Q E := ⟨v, sh, x, rfl, hv, ok, hl, q⟩

theorem ok_costs_of {k : Nat} (T : TX mg) (F : Df K mg "costs_of" s_costs_of ["sheet", "text"]) (o_code_of : OkAt P w K mg base "code_of" k ["sheet", "sign", "number"] spCodeOf) (o_set_behind : OkAt P w K mg base "set_behind" k ["sheet", "code", "number"] spSetBehind) : OkAt P w K mg base "costs_of" (k + 1) ["sheet", "text"] spCostsOf := by
  refine F.ok sc_costs_of (fun vs H Q E h => ?_) (fun f cdv A outer s H vs Q E hr h => ?_)
  · obtain ⟨v, sh, x, rfl, _⟩ := h
    rfl
  obtain ⟨v, sh, x, rfl, hv, ok, hl, q⟩ := h
  refine ⟨_, (pss_cons (ps_set (i := 2) sc_costs_of.nd rfl (by first | exact Or.inl rfl | exact Or.inr rfl) (pe_lstN (pa_cons (pe_tupN (pa_cons pe_int (pa_cons pe_int pa_nil))) pa_nil))) (pss_cons (ps_for PassesOwn.never rfl (pi_revS (by rfl) T.b_reversed (pa_cons (pv 1) pa_nil)) (pg_name (i := 3) sc_costs_of.nd rfl (by first | exact Or.inl rfl | exact Or.inr rfl)) (pss_cons (ps_set (i := 4) sc_costs_of.nd rfl (by first | exact Or.inl rfl | exact Or.inr rfl) (pe_lstN pa_nil)) (pss_cons (ps_for PassesOwn.never rfl (pi_range1 (by rfl) T.b_range (pa_cons pe_int pa_nil)) (pg_name (i := 5) sc_costs_of.nd rfl (by first | exact Or.inl rfl | exact Or.inr rfl)) (pss_cons (ps_set (i := 6) sc_costs_of.nd rfl (by first | exact Or.inl rfl | exact Or.inr rfl) (pe_cl o_code_of hr (by rfl) (pa_cons (pv 0) (pa_cons (pv 3) (pa_cons (pv 5) pa_nil))))) (pss_one (ps_expr (pe_bmK K PySem.F.plainAttrs_list PySem.F.slot_list_append PySem.F.type_list_append mt_appendN (pv 4) (pa_cons (pe_ifExp (pt_cmpR op_uIsN (pv 6) pe_non (nomark _)) (pe_gInt (by rfl) T.c_NEVER) (pe_op (op_uAdd K) pe_int (pe_ix (ix_u K) (pe_ix (ix_u K) (pv 2) pe_int (fun _ _ => rfl)) (pe_cl o_set_behind hr (by rfl) (pa_cons (pv 0) (pa_cons (pv 6) (pa_cons (pv 5) pa_nil)))) (fun _ _ => rfl)))) pa_nil)))))) (pss_one (ps_expr (pe_bmK K PySem.F.plainAttrs_list PySem.F.slot_list_insert PySem.F.type_list_insert mt_insertN (pv 2) (pa_cons pe_int (pa_cons (pe_tupN (pa_cons (pe_callB cr_minI (by rfl) T.b_min (by decide +kernel) (pa_cons (pe_ix (ix_u K) (pv 4) pe_int (fun _ _ => rfl)) (pa_cons (pe_op (op_uAdd K) pe_int (pe_ix (ix_u K) (pv 4) pe_int (fun _ _ => rfl))) pa_nil))) (pa_cons (pe_callB cr_minI (by rfl) T.b_min (by decide +kernel) (pa_cons (pe_ix (ix_u K) (pv 4) pe_int (fun _ _ => rfl)) (pa_cons (pe_op (op_uAdd K) pe_int (pe_ix (ix_u K) (pv 4) pe_int (fun _ _ => rfl))) pa_nil))) pa_nil))) pa_nil)))))))) (pss_one (ps_ret (pv 2))))), ?_⟩
  obtain ⟨a, rfl, ha⟩ := id hv
  walk_at "r"
  intro p1 H1 n1 s1 e1
  walk_at "r"
  intro p2 H2 n2 s2 e2
  walk_at "r"
  have p2H : H p2 = none := s1.free n2
  refine f_revS (by rw [len_mkS]; omega) (fun i σ H' => ∃ y3 y4 y5 y6 xs, σ = [some (.ref a), some (.str (mkS x)), some (.ref p2), y3, y4, y5, y6] ∧ Same H H' ∧ H' p2 = some (.lst xs) ∧ DaAll H' xs ((sh.costs (x.drop (x.length - i))).map rowD)) ?_ ?_ ?_
  · refine ⟨_, _, _, _, [.ref p1], rfl, s1.trans s2, e2, ?_⟩
    rw [Nat.sub_zero, List.drop_length]
    exact .cons (.tup (s2 _ _ e1) (.cons (.int _) (.cons (.int _) .nil))) .nil
  · rintro i c σ H3 hi hx ⟨y3, y4, y5, y6, xs, rfl, s, g, d⟩
    rw [len_mkS] at hi hx
    rw [tl_mkS] at hx
    have hd : x.drop (x.length - (i + 1)) = c :: x.drop (x.length - i) := by
      rw [show x.length - (i + 1) = x.length - 1 - i by omega, drop_prev hx, show x.length - 1 - i + 1 = x.length - i by omega]
    generalize ht : x.drop (x.length - i) = t at d hd
    have tl : t.length ≤ 32 := by rw [← ht, List.length_drop]; omega
    obtain ⟨ra, hra, hrow⟩ := daRowAt d (i := 0) (sh.costs_at t 0 (Nat.zero_le _))
    rw [List.drop_zero] at hrow
    walk_at "r"
    intro p4 H4 n4 s4 e4
    walk_at "r"
    have sH4 := s.trans s4
    have p4H : H p4 = none := s.free n4
    refine f_range1 (by decide) (by decide) (fun j σ H' => ∃ y5 y6, σ = [some (.ref a), some (.str (mkS x)), some (.ref p2), some (.str (sing c)), some (.ref p4), y5, y6] ∧ Same H3 H' ∧
      H' p4 = some (.lst (([false, true].take j).map fun b => .int (sh.st c t b : Nat)))) ⟨_, _, rfl, s4, e4⟩ ?_ ?_
    · rintro j σ H5 hj ⟨y5, y6, rfl, s5, e5⟩
      obtain ⟨b, hb, hbj⟩ := bool_of hj
      have sH5 := s.trans s5
      have g5 := s5 _ _ g
      have hrow5 := s5 _ _ hrow
      have hj2 : j < 2 := by omega
      have app : ∀ (n : Nat) (Q' : VK), n = sh.st c t b → (∀ H', But p4 H5 H' → H' p4 = some (.lst (([false, true].take (j + 1)).map fun b => .int (sh.st c t b : Nat))) → Q' .non H') → mAppend (.ref p4) [.int (n : Nat)] H5 Q' := fun n Q' en k =>
        r_app e5 (by rw [List.length_map, List.length_take]; exact lt_size (by show min j 2 < _; omega)) fun H6 k6 e6 => k H6 k6 (by
          rw [e6, en]
          match j, hj2, hbj with
          | 0, _, hbj => cases b
                         · rfl
                         · cases hbj
          | 1, _, hbj => cases b
                         · cases hbj
                         · rfl)
      walk_at "r"
      rw [hb]
      refine use_code_of (same_sh sH5 hv) ok ?_
      walk_at "r"
      cases ec : sh.code c b with
      | none =>
        walk_at "r"
        rw [decide_eq_true (show hV none = V.non from rfl)]
        walk_at "r"
        exact app 1000000 _ (Sh.st_none ec).symm fun H6 k6 e6 => ⟨_, _, rfl, k6.same s5 n4, e6⟩
      | some k =>
        have hk := Sh.code_lt ok ec
        walk_at "r"
        rw [decide_eq_false (show ¬ hV (some k) = V.non from (fun z => nomatch z))]
        walk_at "r"
        refine r_ixL g5 (atI_nat hra) ?_
        walk_at "r"
        refine use_set_behind (same_sh sH5 hv) ok (by omega) ?_
        walk_at "r"
        refine r_ixRow hrow5 ?_
        rw [rowGet_cost]
        walk_at "r"
        rw [show (1 : Int) + ((sh.cost t (sh.behind k b) : Nat) : Int) = ((1 + sh.cost t (sh.behind k b) : Nat) : Int) by omega]
        exact app _ _ (Sh.st_some ec).symm fun H6 k6 e6 => ⟨_, _, rfl, k6.same s5 n4, e6⟩
    · rintro σ H5 ⟨y5, y6, rfl, s5, e5⟩
      have e5' : H5 p4 = some (.lst [.int (sh.st c t false : Nat), .int (sh.st c t true : Nat)]) := e5
      have hmin : ∀ m n : Nat, (if (n : Int) < (m : Int) then (n : Int) else (m : Int)) = ((min m n : Nat) : Int) := fun m n => by
        split <;> omega
      walk_at "r"
      rw [show ∀ n : Nat, (1 : Int) + (n : Int) = ((1 + n : Nat) : Int) from fun n => by omega, hmin]
      walk_at "r"
      rw [show ∀ n : Nat, (1 : Int) + (n : Int) = ((1 + n : Nat) : Int) from fun n => by omega, hmin]
      intro p6 H6 n6 s6 e6
      walk_at "r"
      have lx := daAll_len d
      rw [List.length_map, sh.costs_len] at lx
      have g6 := s6 _ _ (s5 _ _ g)
      refine r_ins0 g6 (lt_size (by omega)) fun H7 k7 e7 => ?_
      have ne := ne_of e6 g6 (fun z => nomatch z)
      refine ⟨_, _, _, _, _, rfl, k7.same ((s.trans s5).trans s6) p2H, e7, ?_⟩
      rw [hd]
      exact .cons (.tup (k7 _ _ ne e6) (.cons (.int _) (.cons (.int _) .nil))) (but_rows k7 g6 (same_daAll (s5.trans s6) _ _ d))
  · rintro σ H' ⟨y3, y4, y5, y6, xs, rfl, s, g, d⟩
    rw [len_mkS, Nat.sub_self, List.drop_zero] at d
    walk_at "r"
    exact q p2 xs H' p2H s g d

/-! ### the shortest tape -/
namespace Sh
def good (s : Sh) (c : Nat) (t : List Nat) (b : Bool) : Option Nat := match s.code c b with
  | none => none
  | some k => if 1 + s.cost t (s.behind k b) = s.cost (c :: t) b then some k else none
def short (s : Sh) : List Nat → Bool → List Nat
  | [], _ => []
  | c :: t, b => match s.good c t b with
    | some k => k :: s.short t (s.behind k b)
    | none => (s.n + b2n (!b)) :: (s.code c (!b)).getD 0 :: s.short t (s.behind ((s.code c (!b)).getD 0) (!b))
theorem good_some {s : Sh} {c : Nat} {t : List Nat} {b : Bool} {k : Nat} (h : s.good c t b = some k) : s.code c b = some k ∧ 1 + s.cost t (s.behind k b) = s.cost (c :: t) b := by
  unfold good at h
  cases e : s.code c b with
  | none => rw [e] at h; cases h
  | some j =>
    rw [e] at h
    dsimp only at h
    by_cases hh : 1 + s.cost t (s.behind j b) = s.cost (c :: t) b
    · rw [if_pos hh] at h
      cases h
      exact ⟨rfl, hh⟩
    · rw [if_neg hh] at h
      cases h
theorem good_none {s : Sh} {c : Nat} {t : List Nat} {b : Bool} (hc : s.Can (c :: t)) (hl : t.length ≤ 1000) (h : s.good c t b = none) :
    ∃ k, s.code c (!b) = some k ∧ s.good c t (!b) = some k ∧ s.cost (c :: t) b = 1 + s.cost (c :: t) (!b) := by
  have ht : s.Can t := fun d hd => hc d (List.mem_cons_of_mem _ hd)
  have cb := s.cost_cons c t b
  have cn := s.cost_cons c t (!b)
  rw [Bool.not_not] at cn
  have key : ∃ k, s.code c (!b) = some k ∧ s.st c t (!b) + 1 ≤ s.st c t b := by
    cases e : s.code c b with
    | none =>
      obtain ⟨k, hk⟩ := can_code hc List.mem_cons_self b e
      have := s.cost_le t (s.behind k (!b)) ht
      exact ⟨k, hk, by rw [st_none e, st_some hk]; omega⟩
    | some j =>
      unfold good at h
      rw [e] at h
      dsimp only at h
      have hne : ¬ 1 + s.cost t (s.behind j b) = s.cost (c :: t) b := fun z => by
        rw [if_pos z] at h
        cases h
      rw [← st_some e] at hne
      have := s.cost_le t (s.behind j b) ht
      have hj := st_some (t := t) e
      cases e2 : s.code c (!b) with
      | none =>
        have := st_none (t := t) e2
        omega
      | some k => exact ⟨k, rfl, by omega⟩
  obtain ⟨k, hk, hle⟩ := key
  have hn : s.cost (c :: t) (!b) = s.st c t (!b) := by omega
  refine ⟨k, hk, ?_, by omega⟩
  unfold good
  rw [hk]
  dsimp only
  rw [if_pos (by rw [hn, st_some hk])]
theorem short_good {s : Sh} {c : Nat} {t : List Nat} {b : Bool} {k : Nat} (h : s.good c t b = some k) : s.short (c :: t) b = k :: s.short t (s.behind k b) := by
  rw [short, h]
theorem short_wait {s : Sh} {c : Nat} {t : List Nat} {b : Bool} (hc : s.Can (c :: t)) (hl : t.length ≤ 1000) (h : s.good c t b = none) : s.short (c :: t) b = (s.n + b2n (!b)) :: s.short (c :: t) (!b) := by
  obtain ⟨k, hk, hg, _⟩ := good_none hc hl h
  rw [short_good hg, short, h, hk]
  rfl
theorem txt_code {s : Sh} (ok : s.Ok) {c : Nat} {t : List Nat} {b : Bool} {k : Nat} (h : s.code c b = some k) : s.txt (k :: t) b = c :: s.txt t (s.behind k b) := by
  have := code_lt ok h
  show (if s.n ≤ k then [] else [s.sign k b]) ++ _ = _
  rw [if_neg (by omega), code_sign h]
  rfl
theorem short_all {s : Sh} (ok : s.Ok) : ∀ (x : List Nat) (b : Bool), s.Can x → x.length ≤ 1000 → s.txt (s.short x b) b = x ∧ s.Codes (s.short x b) ∧ (s.short x b).length = s.cost x b
  | [], _, _, _ => ⟨rfl, fun c hc => (nomatch hc), rfl⟩
  | c :: t, b, hc, hl => by
    have ht : s.Can t := fun d hd => hc d (List.mem_cons_of_mem _ hd)
    rw [List.length_cons] at hl
    have go : ∀ (d : Bool) (k : Nat), s.good c t d = some k → s.txt (s.short (c :: t) d) d = c :: t ∧ s.Codes (s.short (c :: t) d) ∧ (s.short (c :: t) d).length = s.cost (c :: t) d := fun d k h => by
      obtain ⟨hk, hg⟩ := good_some h
      obtain ⟨h1, h2, h3⟩ := short_all ok t (s.behind k d) ht (by omega)
      have := code_lt ok hk
      rw [short_good h]
      refine ⟨by rw [txt_code ok hk, h1], fun e he => ?_, by rw [List.length_cons, h3]; omega⟩
      rcases List.mem_cons.mp he with z | z
      · omega
      · exact h2 e z
    cases e : s.good c t b with
    | some k => exact go b k e
    | none =>
      obtain ⟨k, hk, hg, hcost⟩ := good_none hc (by omega) e
      obtain ⟨h1, h2, h3⟩ := go (!b) k hg
      rw [short_wait hc (by omega) e]
      refine ⟨by rw [txt_shift, h1], fun e he => ?_, by rw [List.length_cons, h3]; omega⟩
      rcases List.mem_cons.mp he with z | z
      · have : b2n (!b) ≤ 1 := by cases b <;> decide
        omega
      · exact h2 e z
/-- a shift comes first -/
def wait (s : Sh) (x : List Nat) (b : Bool) : Nat := match x with
  | [] => 0
  | c :: t => if (s.good c t b).isSome then 0 else 1
theorem wait_le (s : Sh) (x : List Nat) (b : Bool) : s.wait x b ≤ 1 := by
  cases x with
  | nil => exact Nat.zero_le _
  | cons c t => unfold wait; dsimp only; split <;> decide
end Sh
def spShortest : Sp := fun vs H Q E => ∃ (v : V) (sh : Sh) (x : List Nat) (b : Bool), vs = [v, .str (mkS x), setV b] ∧ (IsSh H v sh) ∧ (sh.Ok) ∧ (sh.Can x) ∧ (x.length ≤ 32) ∧ (∀ p H', H p = none → Same H H' → H' p = some (.lst (tapeV (sh.short x b))) → Q (.ref p) H')
theorem use_shortest {H : Hp} {Q : VK} {E : XK} {v : V} {sh : Sh} {x : List Nat} {b : Bool} (hv : IsSh H v sh) (ok : sh.Ok) (hc : sh.Can x) (hl : x.length ≤ 32) (q : ∀ p H', H p = none → Same H H' → H' p = some (.lst (tapeV (sh.short x b))) → Q (.ref p) H') : spShortest [v, .str (mkS x), setV b] H Q E := ⟨v, sh, x, b, rfl, hv, ok, hc, hl, q⟩

theorem ok_shortest {k : Nat} (T : TX mg) (F : Df K mg "shortest" s_shortest ["sheet", "text", "begin"]) (o_need_sheet : OkAt P w K mg base "need_sheet" k ["sheet"] spNeedSheet) (o_need_text : OkAt P w K mg base "need_text" k ["sheet", "text"] spNeedText) (o_need_set : OkAt P w K mg base "need_set" k ["number"] spNeedSet) (o_costs_of : OkAt P w K mg base "costs_of" k ["sheet", "text"] spCostsOf) (o_code_of : OkAt P w K mg base "code_of" k ["sheet", "sign", "number"] spCodeOf) (o_set_behind : OkAt P w K mg base "set_behind" k ["sheet", "code", "number"] spSetBehind) (o_shift_to : OkAt P w K mg base "shift_to" k ["sheet", "number"] spShiftTo) : OkAt P w K mg base "shortest" (k + 1) ["sheet", "text", "begin"] spShortest := by
  refine F.ok sc_shortest (fun vs H Q E h => ?_) (fun f cdv A outer s H vs Q E hr h => ?_)
  · obtain ⟨v, sh, x, b, rfl, _⟩ := h
    rfl
  obtain ⟨v, sh, x, b, rfl, hv, ok, hc, hl, q⟩ := h
  refine ⟨_, (pss_cons (ps_expr (pe_cl o_need_sheet hr (by rfl) (pa_cons (pv 0) pa_nil))) (pss_cons (ps_expr (pe_cl o_need_text hr (by rfl) (pa_cons (pv 0) (pa_cons (pv 1) pa_nil)))) (pss_cons (ps_expr (pe_cl o_need_set hr (by rfl) (pa_cons (pv 2) pa_nil))) (pss_cons (ps_set (i := 3) sc_shortest.nd rfl (by first | exact Or.inl rfl | exact Or.inr rfl) (pe_cl o_costs_of hr (by rfl) (pa_cons (pv 0) (pa_cons (pv 1) pa_nil)))) (pss_cons (ps_set (i := 4) sc_shortest.nd rfl (by first | exact Or.inl rfl | exact Or.inr rfl) (pe_lstN pa_nil)) (pss_cons (ps_set (i := 5) sc_shortest.nd rfl (by first | exact Or.inl rfl | exact Or.inr rfl) (pv 2)) (pss_cons (ps_set (i := 6) sc_shortest.nd rfl (by first | exact Or.inl rfl | exact Or.inr rfl) pe_int) (pss_cons (ps_while PassesOwn.never (pt_cmpR op_uLt (pv 6) (pe_callB (cr_len K) (by rfl) T.b_len (by decide +kernel) (pa_cons (pv 1) pa_nil)) (nomark _)) (pss_cons (ps_set (i := 7) sc_shortest.nd rfl (by first | exact Or.inl rfl | exact Or.inr rfl) (pe_cl o_code_of hr (by rfl) (pa_cons (pv 0) (pa_cons (pe_ix (ix_u K) (pv 1) (pv 6) (fun _ _ => rfl)) (pa_cons (pv 5) pa_nil))))) (pss_cons (ps_if (PW.pt (pw_and (pt_cmpR op_uNotN (pv 7) pe_non (nomark _)) (pw_and1 (pt_cmpR (op_uEq K hr.units) (pe_op (op_uAdd K) pe_int (pe_ix (ix_u K) (pe_ix (ix_u K) (pv 3) (pe_op (op_uAdd K) (pv 6) pe_int) (fun _ _ => rfl)) (pe_cl o_set_behind hr (by rfl) (pa_cons (pv 0) (pa_cons (pv 7) (pa_cons (pv 5) pa_nil)))) (fun _ _ => rfl))) (pe_ix (ix_u K) (pe_ix (ix_u K) (pv 3) (pv 6) (fun _ _ => rfl)) (pv 5) (fun _ _ => rfl)) (nomark _))))) (pss_one (ps_set (i := 6) sc_shortest.nd rfl (by first | exact Or.inl rfl | exact Or.inr rfl) (pe_op (op_uAdd K) (pv 6) pe_int))) (pss_one (ps_set (i := 7) sc_shortest.nd rfl (by first | exact Or.inl rfl | exact Or.inr rfl) (pe_cl o_shift_to hr (by rfl) (pa_cons (pv 0) (pa_cons (pe_op op_uSub pe_int (pv 5)) pa_nil)))))) (pss_cons (ps_expr (pe_bmK K PySem.F.plainAttrs_list PySem.F.slot_list_append PySem.F.type_list_append mt_appendN (pv 4) (pa_cons (pv 7) pa_nil))) (pss_one (ps_set (i := 5) sc_shortest.nd rfl (by first | exact Or.inl rfl | exact Or.inr rfl) (pe_cl o_set_behind hr (by rfl) (pa_cons (pv 0) (pa_cons (pv 7) (pa_cons (pv 5) pa_nil)))))))))) (pss_one (ps_ret (pv 4))))))))))), ?_⟩
  obtain ⟨a, rfl, ha⟩ := id hv
  walk_at "r"
  refine use_need_sheet hv ok fun H1 s1 => ?_
  walk_at "r"
  refine use_need_text (same_sh s1 hv) ok hc hl fun H2 s2 => ?_
  walk_at "r"
  have s12 := s1.trans s2
  refine use_need_set fun H3 s3 => ?_
  walk_at "r"
  have s13 := s12.trans s3
  refine use_costs_of (same_sh s13 hv) ok hl fun pc xs H4 n4 s4 e4 d4 => ?_
  walk_at "r"
  intro pt H5 n5 s5 e5
  walk_at "r"
  have s15 := (s13.trans s4).trans s5
  have ptH : H pt = none := (s13.trans s4).free n5
  have e45 := s5 _ _ e4
  have d45 := same_daAll s5 _ _ d4
  refine r_while (fun m σ H' => ∃ (i : Nat) (d : Bool) (tp : List Nat) (y7 : Option V), i ≤ x.length ∧ σ = [some (.ref a), some (.str (mkS x)), some (setV b), some (.ref pc), some (.ref pt), some (setV d), some (.int (i : Int)), y7] ∧
    Same H H' ∧ H' pc = some (.lst xs) ∧ DaAll H' xs ((sh.costs x).map rowD) ∧ H' pt = some (.lst (tapeV tp)) ∧ tp ++ sh.short (x.drop i) d = sh.short x b ∧ m = 2 * (x.length - i) + sh.wait (x.drop i) d)
    (2 * x.length + sh.wait x b) ⟨0, b, [], none, Nat.zero_le _, rfl, s15, e45, d45, e5, rfl, rfl⟩ ?_
  rintro m σ H6 ⟨i, d, tp, y7, hi, rfl, s6, g1, g2, g3, he, hm⟩
  have cl := (Sh.short_all ok x b hc (by omega)).2.2
  have cl2 := sh.cost_le x b hc
  have tl : tp.length ≤ 64 := by
    have := congrArg List.length he
    rw [List.length_append] at this
    omega
  have hv6 := same_sh s6 hv
  walk_at "r"
  refine r_lenS (by rw [len_mkS]; exact le_size (by omega)) ?_
  rw [len_mkS]
  walk_at "r"
  refine w_dec (fun h => ?_) (fun h => ?_)
  · have hi2 : i < x.length := by omega
    have hx := getD_at hi2
    generalize x.getD i 0 = c at hx
    have hd := drop_prev hx
    have ct : sh.Can (c :: x.drop (i + 1)) := fun e hm => hc e (List.mem_of_mem_drop (i := i) (by rw [hd]; exact hm))
    have tl2 : (x.drop (i + 1)).length ≤ 32 := by rw [List.length_drop]; omega
    have hmem : c ∈ x := List.mem_of_getElem? hx
    rw [hd] at he hm
    refine ⟨fun σ H' => ∃ m', m' < m ∧ ∃ (i : Nat) (d : Bool) (tp : List Nat) (y7 : Option V), i ≤ x.length ∧ σ = [some (.ref a), some (.str (mkS x)), some (setV b), some (.ref pc), some (.ref pt), some (setV d), some (.int (i : Int)), y7] ∧
      Same H H' ∧ H' pc = some (.lst xs) ∧ DaAll H' xs ((sh.costs x).map rowD) ∧ H' pt = some (.lst (tapeV tp)) ∧ tp ++ sh.short (x.drop i) d = sh.short x b ∧ m' = 2 * (x.length - i) + sh.wait (x.drop i) d, fun _ _ h => h, ?_⟩
    have fin : ∀ (k : Nat) (i' : Nat) (d' : Bool), i' ≤ x.length → sh.short (c :: x.drop (i + 1)) d = k :: sh.short (x.drop i') d' → 2 * (x.length - i') + sh.wait (x.drop i') d' < m →
        ∀ (Q' : VK), (∀ H' : Hp, Same H H' → (∀ y7 : Option V, ∃ m', m' < m ∧ ∃ (i : Nat) (d : Bool) (tp : List Nat) (y7' : Option V), i ≤ x.length ∧ ([some (.ref a), some (.str (mkS x)), some (setV b), some (.ref pc), some (.ref pt), some (setV d'), some (.int (i' : Int)), y7] : List (Option V)) = [some (.ref a), some (.str (mkS x)), some (setV b), some (.ref pc), some (.ref pt), some (setV d), some (.int (i : Int)), y7'] ∧
      Same H H' ∧ H' pc = some (.lst xs) ∧ DaAll H' xs ((sh.costs x).map rowD) ∧ H' pt = some (.lst (tapeV tp)) ∧ tp ++ sh.short (x.drop i) d = sh.short x b ∧ m' = 2 * (x.length - i) + sh.wait (x.drop i) d) → Q' .non H') → mAppend (.ref pt) [.int (k : Nat)] H6 Q' := fun k i' d' hi' hs hlt Q' q' =>
      r_app g3 (by rw [tapeV_len]; exact lt_size (by omega)) fun H7 k7 e7 => q' H7 (k7.same s6 ptH) fun y7 => by
        refine ⟨_, hlt, i', d', tp ++ [k], y7, hi', rfl, k7.same s6 ptH, ?_, ?_, ?_, ?_, rfl⟩
        · exact k7 _ _ (ne_of_none e4 n5) g1
        · exact but_rows k7 g3 g2
        · rw [e7]
          exact congrArg (fun l => some (HO.lst l)) (tapeV_app tp [k])
        · rw [List.append_assoc, ← he, hs]
          rfl
    walk_at "r"
    refine r_ixC hx (by omega) ?_
    walk_at "r"
    refine use_code_of (c := c) hv6 ok ?_
    walk_at "r"
    -- what is sent: a sign or a shift
    have sendS : sh.good c (x.drop (i + 1)) d = none → ∀ (Q' : VK), (∀ H', Same H H' → (∀ y7 : Option V, ∃ m', m' < m ∧ ∃ (i_1 : Nat) (d_1 : Bool) (tp : List Nat) (y7' : Option V), i_1 ≤ x.length ∧ ([some (.ref a), some (.str (mkS x)), some (setV b), some (.ref pc), some (.ref pt), some (setV (!d)), some (.int (i : Int)), y7] : List (Option V)) = [some (.ref a), some (.str (mkS x)), some (setV b), some (.ref pc), some (.ref pt), some (setV d_1), some (.int (i_1 : Int)), y7'] ∧
      Same H H' ∧ H' pc = some (.lst xs) ∧ DaAll H' xs ((sh.costs x).map rowD) ∧ H' pt = some (.lst (tapeV tp)) ∧ tp ++ sh.short (x.drop i_1) d_1 = sh.short x b ∧ m' = 2 * (x.length - i_1) + sh.wait (x.drop i_1) d_1) → Q' .non H') → mAppend (.ref pt) [.int ((sh.n + b2n (!d) : Nat) : Int)] H6 Q' := fun hg Q' q' => by
      obtain ⟨k, hk, hg2, _⟩ := Sh.good_none ct (by omega) hg
      refine fin _ i (!d) hi (by rw [hd]; exact Sh.short_wait ct (by omega) hg) ?_ Q' q'
      rw [hd, hm]
      unfold Sh.wait
      dsimp only
      rw [hg, hg2]
      show _ + 0 < _ + 1
      omega
    have hb1 : b2n (!d) ≤ 1 := by cases d <;> decide
    have hbs : sh.behind (sh.n + b2n (!d)) d = !d := Sh.behind_shift sh (!d) d
    cases ec : sh.code c d with
    | none =>
      have hg : sh.good c (x.drop (i + 1)) d = none := by unfold Sh.good; rw [ec]
      rw [decide_eq_true (show hV none = V.non from rfl)]
      walk_at "r"
      refine r_flip ?_
      walk_at "r"
      refine use_shift_to hv6 ok ?_
      walk_at "r"
      refine sendS hg _ fun H7 s7 st7 => ?_
      walk_at "r"
      refine use_set_behind (same_sh s7 hv) ok (by omega) ?_
      rw [hbs]
      walk_at "r"
      exact st7 _
    | some k =>
      have hk := Sh.code_lt ok ec
      obtain ⟨ra, hra, hrow⟩ := daRowAt g2 (sh.costs_at x (i + 1) (by omega))
      obtain ⟨rb, hrb, hrow2⟩ := daRowAt g2 (sh.costs_at x i hi)
      rw [decide_eq_false (show ¬ hV (some k) = V.non from (fun z => nomatch z))]
      walk_at "r"
      rw [show (i : Int) + 1 = ((i + 1 : Nat) : Int) by omega]
      refine r_ixL g1 (atI_nat hra) ?_
      walk_at "r"
      refine use_set_behind hv6 ok (by omega) ?_
      walk_at "r"
      refine r_ixRow hrow ?_
      rw [rowGet_cost]
      walk_at "r"
      refine r_ixL g1 (atI_nat hrb) ?_
      walk_at "r"
      refine r_ixRow hrow2 ?_
      rw [rowGet_cost, hd]
      walk_at "r"
      refine w_dec (fun h2 => ?_) (fun h2 => ?_)
      · have hg : sh.good c (x.drop (i + 1)) d = some k := by
          unfold Sh.good
          rw [ec]
          dsimp only
          rw [if_pos (by omega)]
        walk_at "r"
        refine fin k (i + 1) (sh.behind k d) hi2 (Sh.short_good hg) (by have := sh.wait_le (x.drop (i + 1)) (sh.behind k d); omega) _ fun H7 s7 st7 => ?_
        walk_at "r"
        refine use_set_behind (same_sh s7 hv) ok (by omega) ?_
        walk_at "r"
        exact st7 _
      · have hg : sh.good c (x.drop (i + 1)) d = none := by
          unfold Sh.good
          rw [ec]
          dsimp only
          rw [if_neg (by omega)]
        walk_at "r"
        refine r_flip ?_
        walk_at "r"
        refine use_shift_to hv6 ok ?_
        walk_at "r"
        refine sendS hg _ fun H7 s7 st7 => ?_
        walk_at "r"
        refine use_set_behind (same_sh s7 hv) ok (by omega) ?_
        rw [hbs]
        walk_at "r"
        exact st7 _
  · have hi2 : i = x.length := by omega
    subst hi2
    rw [List.drop_length] at he
    have : tp = sh.short x b := by rw [← he]; exact (List.append_nil _).symm
    rw [this] at g3
    walk_at "r"
    exact q pt H6 ptH s6 g3

def spLawText : Sp := fun vs H Q E => ∃ (v u : V) (sh : Sh) (m : Nat), vs = [v, u, .int m] ∧ (Box H v) ∧ (IsSh H u sh) ∧ (sh.Ok) ∧ (m ≤ 100) ∧ (∀ x H', Same H H' → sh.Can x → x.length ≤ m → Q (.str (mkS x)) H')
theorem use_law_text {H : Hp} {Q : VK} {E : XK} {v u : V} {sh : Sh} {m : Nat} (hb : Box H v) (hs : IsSh H u sh) (ok : sh.Ok) (hm : m ≤ 100) (q : ∀ x H', Same H H' → sh.Can x → x.length ≤ m → Q (.str (mkS x)) H') : spLawText [v, u, .int m] H Q E := ⟨v, u, sh, m, rfl, hb, hs, ok, hm, q⟩

theorem can_app {s : Sh} {x : List Nat} {c : Nat} {b : Bool} (h : s.Can x) (hc : c ∈ s.signs b) : s.Can (x ++ [c]) := fun d hd => by
  rcases List.mem_append.mp hd with z | z
  · exact h d z
  · have : d = c := by simpa using z
    rw [this]
    cases b
    · exact .inl hc
    · exact .inr hc
theorem ok__law_text {k : Nat} (T : TX mg) (F : Df K mg "_law_text" s__law_text ["_law_box", "_law_sheet_here", "_law_most"]) (o__law_take : OkAt P w K mg base "_law_take" k ["_law_box", "_law_many"] spTake) : OkAt P w K mg base "_law_text" (k + 1) ["_law_box", "_law_sheet_here", "_law_most"] spLawText := by
  refine F.ok sc__law_text (fun vs H Q E h => ?_) (fun f cdv A outer s H vs Q E hr h => ?_)
  · obtain ⟨v, u, sh, m, rfl, _⟩ := h
    rfl
  obtain ⟨v, u, sh, m, rfl, hb, hs, ok, hm, q⟩ := h
  refine ⟨_, (pss_cons (ps_set (i := 3) sc__law_text.nd rfl (by first | exact Or.inl rfl | exact Or.inr rfl) pe_str) (pss_cons (ps_set (i := 4) sc__law_text.nd rfl (by first | exact Or.inl rfl | exact Or.inr rfl) pe_int) (pss_cons (ps_set (i := 5) sc__law_text.nd rfl (by first | exact Or.inl rfl | exact Or.inr rfl) (pe_op (op_uAdd K) pe_int (pe_cl o__law_take hr (by rfl) (pa_cons (pv 0) (pa_cons pe_int pa_nil))))) (pss_cons (ps_for PassesOwn.never rfl (pi_range1 (by rfl) T.b_range (pa_cons (pe_cl o__law_take hr (by rfl) (pa_cons (pv 0) (pa_cons (pe_op (op_uAdd K) (pv 2) pe_int) pa_nil))) pa_nil)) (pg_name (i := 6) sc__law_text.nd rfl (by first | exact Or.inl rfl | exact Or.inr rfl)) (pss_cons (ps_if (pt_cmpR (op_uEq K hr.units) (pe_cl o__law_take hr (by rfl) (pa_cons (pv 0) (pa_cons (pv 5) pa_nil))) pe_int (nomark _)) (pss_one (ps_set (i := 4) sc__law_text.nd rfl (by first | exact Or.inl rfl | exact Or.inr rfl) (pe_op op_uSub pe_int (pv 4)))) pss_nil) (pss_one (ps_set (i := 3) sc__law_text.nd rfl (by first | exact Or.inl rfl | exact Or.inr rfl) (pe_op (op_uAdd K) (pv 3) (pe_ix (ix_u K) (pe_ix (ix_u K) (pv 1) (pv 4) (fun _ _ => rfl)) (pe_cl o__law_take hr (by rfl) (pa_cons (pv 0) (pa_cons (pe_callB (cr_len K) (by rfl) T.b_len (by decide +kernel) (pa_cons (pe_ix (ix_u K) (pv 1) pe_int (fun _ _ => rfl)) pa_nil)) pa_nil))) (fun _ _ => rfl))))))) (pss_one (ps_ret (pv 3))))))), ?_⟩
  obtain ⟨a, rfl, ha⟩ := id hs
  have h26 := ok.most
  have h1 := ok.pos
  walk_at "r"
  refine use_take hb (by decide) (by decide) fun r1 H1 hr1 s1 => ?_
  walk_at "r"
  refine use_take (same_box s1 hb) (by omega) (by omega) fun r2 H2 hr2 s2 => ?_
  walk_at "r"
  have s12 := s1.trans s2
  refine f_range1 (by omega) (by omega) (fun i σ H' => ∃ x b y, σ = [some v, some (.ref a), some (.int m), some (.str (mkS x)), some (setV b), some (.int (2 + (r1 : Int))), y] ∧ Same H H' ∧ sh.Can x ∧ x.length = i) ⟨[], false, _, rfl, s12, fun c hc => (nomatch hc), rfl⟩ ?_ ?_
  · rintro i σ H3 hi ⟨x, b, y, rfl, s3, hc, hl⟩
    walk_at "r"
    refine use_take (same_box s3 hb) (by omega) (by omega) fun r4 H4 hr4 s4 => ?_
    walk_at "r"
    have s34 := s3.trans s4
    have ha4 := s34 _ _ ha
    refine w_dec (fun _ => ?_) (fun _ => ?_)
    walk_at "r"
    refine r_flip ?_
    generalize (!b) = b
    rotate_left
    all_goals
      walk_at "r"
      refine r_ixSh (same_sh s34 hs) ?_
      walk_at "r"
      refine r_lenS (by rw [len_mkS]; exact le_size (by omega)) ?_
      rw [len_mkS]
      walk_at "r"
      refine use_take (same_box s34 hb) (by omega) (by omega) fun r5 H5 hr5 s5 => ?_
      have hn : (sh.signs b).length = sh.n := Sh.signs_len ok b
      have hr : r5 < (sh.signs b).length := by rw [hn]; unfold Sh.n; omega
      walk_at "r"
      refine r_ixC (getD_at hr) (by rw [hn]; unfold Sh.n; omega) ?_
      walk_at "r"
      refine r_addS (by rw [len_mkS, len_mkS]; exact le_size (by show _ + 1 ≤ _; omega)) ?_
      rw [mkS_app]
      walk_at "r"
      refine ⟨_, b, _, rfl, s34.trans s5, can_app (b := b) hc ?_, by rw [List.length_append, hl]; rfl⟩
      exact List.mem_of_getElem? (getD_at hr)
  · rintro σ H' ⟨x, b, y, rfl, s, hc, hl⟩
    walk_at "r"
    exact q x H' s hc (by omega)

/-! ### either: none is the state of both sets -/
namespace Sh
def eCode (s : Sh) (c : Nat) : Option Bool → Option Nat
  | some b => s.code c b
  | none => if s.code c false = s.code c true then s.code c false else none
def eBehind (s : Sh) (k : Nat) : Option Bool → Option Bool
  | some b => some (s.behind k b)
  | none => if s.home = some k then some false else none
def eSt (s : Sh) (best : Option Bool → List Nat) (c : Nat) (q : Option Bool) : Option (List Nat) := (s.eCode c q).map fun k => k :: best (s.eBehind k q)
def eAll (s : Sh) (best : Option Bool → List Nat) (c : Nat) (q : Option Bool) : List (List Nat) :=
  (s.eSt best c q).toList ++ ((s.eSt best c (some false)).toList.map ((s.n + 0) :: ·) ++ (s.eSt best c (some true)).toList.map ((s.n + 1) :: ·))
def eBest (s : Sh) : List Nat → Option Bool → List Nat
  | [], _ => []
  | c :: t, q => (kMinL (s.eAll (s.eBest t) c q)).getD []
theorem eBest_cons (s : Sh) (c : Nat) (t : List Nat) (q : Option Bool) : s.eBest (c :: t) q = (kMinL (s.eAll (s.eBest t) c q)).getD [] := rfl
/-- read as x in all its sets -/
def Reads (s : Sh) (x : List Nat) (u : List Nat) : Option Bool → Prop
  | some b => s.txt u b = x
  | none => s.txt u false = x ∧ s.txt u true = x
theorem eCode_lt {s : Sh} (ok : s.Ok) {c k : Nat} {q : Option Bool} (h : s.eCode c q = some k) : k < s.n := by
  cases q with
  | some b => exact code_lt ok h
  | none =>
    have h : (if s.code c false = s.code c true then s.code c false else none) = some k := h
    by_cases e : s.code c false = s.code c true
    · rw [if_pos e] at h
      exact code_lt ok h
    · rw [if_neg e] at h
      cases h
theorem reads_sign {s : Sh} (ok : s.Ok) {c k : Nat} {q : Option Bool} (h : s.eCode c q = some k) (t u : List Nat) : s.Reads (c :: t) (k :: u) q ↔ s.Reads t u (s.eBehind k q) := by
  have hk := eCode_lt ok h
  have one : ∀ b, s.code c b = some k → (s.txt (k :: u) b = c :: t ↔ s.txt u (s.behind k b) = t) := fun b e => by
    show (if s.n ≤ k then [] else [s.sign k b]) ++ s.txt u (s.behind k b) = _ ↔ _
    rw [if_neg (by omega), code_sign e]
    exact ⟨fun z => (List.cons.inj z).2, fun z => by rw [z]; rfl⟩
  cases q with
  | some b => exact one b h
  | none =>
    have h : (if s.code c false = s.code c true then s.code c false else none) = some k := h
    by_cases e : s.code c false = s.code c true
    · rw [if_pos e] at h
      have h0 := one false h
      have h1 := one true (by rw [← e]; exact h)
      have bh : ∀ b, s.behind k b = if s.home = some k then false else b := fun b => by unfold behind; rw [if_neg (by omega)]
      rw [bh] at h0 h1
      unfold eBehind
      by_cases hh : s.home = some k
      · rw [if_pos hh] at h0 h1 ⊢
        exact ⟨fun z => h0.mp z.1, fun z => ⟨h0.mpr z, h1.mpr z⟩⟩
      · rw [if_neg hh] at h0 h1 ⊢
        exact ⟨fun z => ⟨h0.mp z.1, h1.mp z.2⟩, fun z => ⟨h0.mpr z.1, h1.mpr z.2⟩⟩
    · rw [if_neg e] at h
      cases h
theorem txt_to (s : Sh) (u : List Nat) (d b : Bool) : s.txt ((s.n + b2n d) :: u) b = s.txt u d := by
  show (if s.n ≤ s.n + b2n d then [] else _) ++ s.txt u (s.behind (s.n + b2n d) b) = _
  rw [if_pos (Nat.le_add_right _ _)]
  unfold behind
  rw [if_pos (Nat.le_add_right _ _)]
  cases d
  · rw [decide_eq_false (by show ¬ s.n + 0 = s.n + 1; omega)]; rfl
  · rw [decide_eq_true (by rfl)]; rfl
theorem reads_shift (s : Sh) (x u : List Nat) (d : Bool) (q : Option Bool) : s.Reads x ((s.n + b2n d) :: u) q ↔ s.Reads x u (some d) := by
  cases q with
  | some b =>
    show s.txt _ _ = _ ↔ s.txt _ _ = _
    rw [txt_to]
  | none =>
    show s.txt _ _ = _ ∧ s.txt _ _ = _ ↔ s.txt _ _ = _
    rw [txt_to, txt_to]
    exact ⟨fun z => z.1, fun z => ⟨z, z⟩⟩
/-- a tape that is read as c :: t begins with the sign's code or a shift -/
theorem reads_first {s : Sh} (ok : s.Ok) {c k : Nat} {t u : List Nat} {q : Option Bool} (h : s.Reads (c :: t) (k :: u) q) (hk : k < s.n) : s.eCode c q = some k := by
  have one : ∀ b, s.txt (k :: u) b = c :: t → s.code c b = some k := fun b e => by
    have e : (if s.n ≤ k then [] else [s.sign k b]) ++ s.txt u (s.behind k b) = c :: t := e
    rw [if_neg (by omega)] at e
    have e1 : s.sign k b = c := (List.cons.inj e).1
    exact code_of_at ok (by rw [← e1]; exact sign_at ok hk)
  cases q with
  | some b => exact one b h
  | none =>
    unfold eCode
    rw [one false h.1, one true h.2, if_pos rfl]
theorem mem_eAll {s : Sh} {best : Option Bool → List Nat} {c : Nat} {q : Option Bool} {u : List Nat} : u ∈ s.eAll best c q ↔ (∃ k, s.eCode c q = some k ∧ u = k :: best (s.eBehind k q)) ∨ ∃ d k, s.code c d = some k ∧ u = (s.n + b2n d) :: k :: best (some (s.behind k d)) := by
  have st : ∀ q (v : List Nat), v ∈ (s.eSt best c q).toList ↔ ∃ k, s.eCode c q = some k ∧ v = k :: best (s.eBehind k q) := fun q v => by
    unfold eSt
    rw [Option.mem_toList, Option.map_eq_some_iff]
    exact ⟨fun ⟨k, e1, e2⟩ => ⟨k, e1, e2.symm⟩, fun ⟨k, e1, e2⟩ => ⟨k, e1, e2.symm⟩⟩
  unfold eAll
  rw [List.mem_append, List.mem_append, st, List.mem_map, List.mem_map]
  refine or_congr Iff.rfl ⟨fun h => ?_, fun ⟨d, k, e1, e2⟩ => ?_⟩
  · rcases h with ⟨v, hv, rfl⟩ | ⟨v, hv, rfl⟩
    · obtain ⟨k, e1, e2⟩ := (st _ _).mp hv
      exact ⟨false, k, e1, by rw [e2]; rfl⟩
    · obtain ⟨k, e1, e2⟩ := (st _ _).mp hv
      exact ⟨true, k, e1, by rw [e2]; rfl⟩
  · cases d
    · exact .inl ⟨_, (st (some false) _).mpr ⟨k, e1, rfl⟩, e2.symm⟩
    · exact .inr ⟨_, (st (some true) _).mpr ⟨k, e1, rfl⟩, e2.symm⟩
theorem eAll_ne {s : Sh} {best : Option Bool → List Nat} {c : Nat} {t : List Nat} (h : s.Can (c :: t)) (q : Option Bool) : s.eAll best c q ≠ [] := by
  have : ∃ d k, s.code c d = some k := by
    cases e : s.code c false with
    | some k => exact ⟨false, k, e⟩
    | none =>
      obtain ⟨k, hk⟩ := can_code h List.mem_cons_self false e
      exact ⟨true, k, hk⟩
  obtain ⟨d, k, e⟩ := this
  intro z
  have := (mem_eAll (s := s) (best := best) (c := c) (q := q)).mpr (.inr ⟨d, k, e, rfl⟩)
  rw [z] at this
  cases this
theorem eBest_min {s : Sh} {c : Nat} {t : List Nat} (h : s.Can (c :: t)) (q : Option Bool) : s.eBest (c :: t) q ∈ s.eAll (s.eBest t) c q ∧ ∀ b ∈ s.eAll (s.eBest t) c q, kLe (s.eBest (c :: t) q) b := by
  obtain ⟨a, ha⟩ := kMinL_ne (eAll_ne (best := s.eBest t) h q)
  have : s.eBest (c :: t) q = a := by rw [eBest_cons, ha]; rfl
  rw [this]
  exact kMinL_some ha
theorem b2n_le1 (b : Bool) : b2n b ≤ 1 := by cases b <;> decide
theorem eBest_reads {s : Sh} (ok : s.Ok) : ∀ (x : List Nat) (q : Option Bool), s.Can x → s.Reads x (s.eBest x q) q ∧ s.Codes (s.eBest x q)
  | [], q, _ => ⟨by cases q <;> first | exact rfl | exact ⟨rfl, rfl⟩, fun c hc => (nomatch hc)⟩
  | c :: t, q, h => by
    have ht : s.Can t := fun d hd => h d (List.mem_cons_of_mem _ hd)
    rcases mem_eAll.mp (eBest_min h q).1 with ⟨k, hk, e⟩ | ⟨d, k, hk, e⟩
    · obtain ⟨h1, h2⟩ := eBest_reads ok t (s.eBehind k q) ht
      rw [e]
      refine ⟨(reads_sign ok hk _ _).mpr h1, fun e he => ?_⟩
      have := eCode_lt ok hk
      rcases List.mem_cons.mp he with z | z
      · omega
      · exact h2 e z
    · obtain ⟨h1, h2⟩ := eBest_reads ok t (some (s.behind k d)) ht
      rw [e]
      refine ⟨(reads_shift s _ _ d q).mpr ((reads_sign (q := some d) ok hk _ _).mpr h1), fun e he => ?_⟩
      have := code_lt ok hk
      have := b2n_le1 d
      rcases List.mem_cons.mp he with z | z
      · omega
      · rcases List.mem_cons.mp z with z | z
        · omega
        · exact h2 e z
/-- it is the first of all -/
theorem eBest_first {s : Sh} (ok : s.Ok) : ∀ (u x : List Nat) (q : Option Bool), s.Can x → s.Codes u → s.Reads x u q → kLe (s.eBest x q) u
  | [], x, q, h, _, hr => by
    have : x = [] := by
      cases q with
      | some b => exact hr.symm
      | none => exact hr.1.symm
    subst this
    exact kLe_refl _
  | k :: u, [], q, _, _, _ => kLe_lt (by rw [List.length_cons]; exact Nat.succ_pos _)
  | k :: u, c :: t, q, h, hc, hr => by
    have ht : s.Can t := fun d hd => h d (List.mem_cons_of_mem _ hd)
    have hu : s.Codes u := fun d hd => hc d (List.mem_cons_of_mem _ hd)
    have hk := hc k List.mem_cons_self
    obtain ⟨_, hmin⟩ := eBest_min h q
    by_cases e : k < s.n
    · have ek := reads_first ok hr e
      have ih := eBest_first ok u t (s.eBehind k q) ht hu ((reads_sign ok ek _ _).mp hr)
      exact kLe_trans (hmin _ (mem_eAll.mpr (.inl ⟨k, ek, rfl⟩))) (kLe_cons k ih)
    · obtain ⟨d, rfl⟩ : ∃ d, k = s.n + b2n d := by
        by_cases z : k = s.n
        · exact ⟨false, z⟩
        · exact ⟨true, by show k = s.n + 1; omega⟩
      have ih := eBest_first ok u (c :: t) (some d) h hu ((reads_shift s _ _ d q).mp hr)
      rcases mem_eAll.mp (eBest_min h (some d)).1 with ⟨j, ej, e2⟩ | ⟨d2, j, ej, e2⟩
      · rw [e2] at ih
        exact kLe_trans (hmin _ (mem_eAll.mpr (.inr ⟨d, j, ej, rfl⟩))) (kLe_cons _ ih)
      · rw [e2] at ih
        have h1 := kLe_len ih
        refine kLe_trans (hmin _ (mem_eAll.mpr (.inr ⟨d2, j, ej, rfl⟩))) (kLe_lt ?_)
        simp only [List.length_cons] at h1 ⊢
        omega
termination_by u x => u.length
/-! ### how long -/
def eC (s : Sh) : List Nat → Option Bool → Nat
  | [], _ => 0
  | c :: t, q => min (match s.eCode c q with | none => 1000 | some k => min 1000 (1 + s.eC t (s.eBehind k q)))
      (1 + min (match s.eCode c (some false) with | none => 1000 | some k => min 1000 (1 + s.eC t (s.eBehind k (some false)))) (match s.eCode c (some true) with | none => 1000 | some k => min 1000 (1 + s.eC t (s.eBehind k (some true)))))
def eS (s : Sh) (c : Nat) (t : List Nat) (q : Option Bool) : Nat := match s.eCode c q with | none => 1000 | some k => min 1000 (1 + s.eC t (s.eBehind k q))
theorem eC_cons (s : Sh) (c : Nat) (t : List Nat) (q : Option Bool) : s.eC (c :: t) q = min (s.eS c t q) (1 + min (s.eS c t (some false)) (s.eS c t (some true))) := rfl
theorem eS_none {s : Sh} {c : Nat} {t : List Nat} {q : Option Bool} (h : s.eCode c q = none) : s.eS c t q = 1000 := by unfold eS; rw [h]
theorem eS_some {s : Sh} {c : Nat} {t : List Nat} {q : Option Bool} {k : Nat} (h : s.eCode c q = some k) : s.eS c t q = min 1000 (1 + s.eC t (s.eBehind k q)) := by unfold eS; rw [h]
theorem eC_le (s : Sh) : ∀ (x : List Nat) (q : Option Bool), s.Can x → s.eC x q ≤ 2 * x.length
  | [], _, _ => Nat.zero_le _
  | c :: t, q, h => by
    have ht : s.Can t := fun d hd => h d (List.mem_cons_of_mem _ hd)
    rw [eC_cons, List.length_cons]
    have : ∃ d k, s.code c d = some k := by
      cases e : s.code c false with
      | some k => exact ⟨false, k, e⟩
      | none =>
        obtain ⟨k, hk⟩ := can_code h List.mem_cons_self false e
        exact ⟨true, k, hk⟩
    obtain ⟨d, k, e⟩ := this
    have h1 := eC_le s t (s.eBehind k (some d)) ht
    have h2 : s.eS c t (some d) ≤ 1 + 2 * t.length := by rw [eS_some (q := some d) e]; omega
    cases d
    · omega
    · omega
theorem eBest_len {s : Sh} : ∀ (x : List Nat) (q : Option Bool), s.Can x → x.length ≤ 300 → (s.eBest x q).length = s.eC x q
  | [], _, _, _ => rfl
  | c :: t, q, h, hl => by
    have ht : s.Can t := fun d hd => h d (List.mem_cons_of_mem _ hd)
    rw [List.length_cons] at hl
    have ih := fun q => eBest_len t q ht (by omega)
    have hle := fun q => s.eC_le t q ht
    have up := s.eC_le (c :: t) q h
    rw [List.length_cons] at up
    obtain ⟨hm, hmin⟩ := eBest_min h q
    have lo : s.eC (c :: t) q ≤ (s.eBest (c :: t) q).length := by
      rcases mem_eAll.mp hm with ⟨k, hk, e⟩ | ⟨d, k, hk, e⟩
      · rw [e, List.length_cons, ih, eC_cons, eS_some hk]
        omega
      · rw [e, List.length_cons, List.length_cons, ih, eC_cons]
        have hk' : s.eCode c (some d) = some k := hk
        have := eS_some (t := t) hk'
        have e2 : s.eBehind k (some d) = some (s.behind k d) := rfl
        rw [e2] at this
        cases d
        · omega
        · omega
    have hi : (s.eBest (c :: t) q).length ≤ s.eC (c :: t) q := by
      rw [eC_cons]
      have c1 : s.eS c t q < 1000 → (s.eBest (c :: t) q).length ≤ s.eS c t q := fun z => by
        cases e : s.eCode c q with
        | none => rw [eS_none e] at z; omega
        | some k =>
          have := kLe_len (hmin _ (mem_eAll.mpr (.inl ⟨k, e, rfl⟩)))
          rw [List.length_cons, ih] at this
          rw [eS_some e] at z ⊢
          omega
      have c2 : ∀ d, s.eS c t (some d) < 1000 → (s.eBest (c :: t) q).length ≤ 1 + s.eS c t (some d) := fun d z => by
        cases e : s.eCode c (some d) with
        | none => rw [eS_none e] at z; omega
        | some k =>
          have := kLe_len (hmin _ (mem_eAll.mpr (.inr ⟨d, k, e, rfl⟩)))
          rw [List.length_cons, List.length_cons, ih] at this
          rw [eS_some e] at z ⊢
          have e2 : s.eBehind k (some d) = some (s.behind k d) := rfl
          rw [e2] at z ⊢
          omega
      rw [eC_cons] at up
      have d0 := c2 false
      have d1 := c2 true
      omega
    omega
/-- no longer than the shortest and a shift -/
theorem eC_short (s : Sh) : ∀ (x : List Nat) (b : Bool), s.Can x → x.length ≤ 300 → s.eC x (some b) = s.cost x b
  | [], _, _, _ => rfl
  | c :: t, b, h, hl => by
    have ht : s.Can t := fun d hd => h d (List.mem_cons_of_mem _ hd)
    rw [List.length_cons] at hl
    have ss : ∀ d, (∃ k, s.code c d = some k ∧ s.eS c t (some d) = 1 + s.cost t (s.behind k d) ∧ s.st c t d = 1 + s.cost t (s.behind k d)) ∨ s.code c d = none ∧ s.eS c t (some d) = 1000 ∧ s.st c t d = 1000000 := fun d => by
      cases e : s.code c d with
      | none => exact .inr ⟨rfl, eS_none (q := some d) e, st_none e⟩
      | some k =>
        have h1 := eC_short s t (s.behind k d) ht (by omega)
        have h2 := s.cost_le t (s.behind k d) ht
        refine .inl ⟨k, rfl, ?_, st_some e⟩
        rw [eS_some (q := some d) e]
        show min 1000 (1 + s.eC t (some (s.behind k d))) = _
        omega
    have cl : ∀ d k, s.cost t (s.behind k d) ≤ 2 * t.length := fun d k => s.cost_le t _ ht
    rw [eC_cons, cost_cons]
    have hb := ss b
    have hn := ss (!b)
    have hex : s.code c b = none → s.code c (!b) ≠ none := fun e z => by
      obtain ⟨k, hk⟩ := can_code h List.mem_cons_self b e
      rw [hk] at z
      cases z
    have sym : min (s.eS c t (some false)) (s.eS c t (some true)) = min (s.eS c t (some b)) (s.eS c t (some (!b))) := by
      cases b
      · rfl
      · exact Nat.min_comm ..
    rw [sym]
    rcases hb with ⟨k, e1, e2, e3⟩ | ⟨e1, e2, e3⟩
    · have := cl b k
      rcases hn with ⟨j, f1, f2, f3⟩ | ⟨f1, f2, f3⟩
      · have := cl (!b) j
        omega
      · omega
    · rcases hn with ⟨j, f1, f2, f3⟩ | ⟨f1, f2, f3⟩
      · have := cl (!b) j
        omega
      · exact absurd f1 (hex e1)
theorem eC_both (s : Sh) {x : List Nat} (b : Bool) (h : s.Can x) (hl : x.length ≤ 300) : s.eC x none ≤ 1 + s.cost x b := by
  rw [← s.eC_short x b h hl]
  cases x with
  | nil => exact Nat.zero_le _
  | cons c t =>
    rw [eC_cons, eC_cons]
    cases b
    · omega
    · omega
end Sh

/-! ### either's table: a state is one set, or both -/
def stV : Option Bool → List V
  | some b => [setV b, setV b]
  | none => [setV false, setV true]
def kq : Option Bool → List Key
  | some b => [.inl (b2n b : Nat), .inl (b2n b : Nat)]
  | none => [.inl (b2n false : Nat), .inl (b2n true : Nat)]
def stK (p : Nat) (q : Option Bool) : List Key := .inl (p : Nat) :: kq q
theorem kq_V (q : Option Bool) : (kq q).map kV = stV q := by cases q <;> rfl
theorem stK_V (p : Nat) (q : Option Bool) : (stK p q).map kV = .int (p : Nat) :: stV q := by cases q <;> rfl
theorem kq_inj {q r : Option Bool} (h : kq q = kq r) : q = r := by
  revert h
  rcases q with _ | _ | _ <;> rcases r with _ | _ | _ <;> first | exact fun _ => rfl | (intro h; exact absurd h (by decide))
theorem stK_inj {p p' : Nat} {q q' : Option Bool} (h : stK p q = stK p' q') : p = p' ∧ q = q' := by
  unfold stK at h
  injection h with h1 h2
  injection h1 with h1
  exact ⟨by omega, kq_inj h2⟩
def qs : List (Option Bool) := [some false, some true, none]
theorem qs_all (q : Option Bool) : ∃ i : Nat, qs[i]? = some q := by
  cases q with
  | none => exact ⟨2, rfl⟩
  | some b => cases b
              · exact ⟨0, rfl⟩
              · exact ⟨1, rfl⟩
theorem qs_inj {i j : Nat} {q : Option Bool} (h1 : qs[i]? = some q) (h2 : qs[j]? = some q) : i = j := by
  have nd : qs.Nodup := by decide
  obtain ⟨a, e1⟩ := List.getElem?_eq_some_iff.mp h1
  obtain ⟨b, e2⟩ := List.getElem?_eq_some_iff.mp h2
  exact (List.getElem_inj nd).mp (e1.trans e2.symm)
/-- a value of the table: None, or a list of codes -/
def DV1 (N : Addr → Prop) (H : Hp) (v : V) : Option (List Nat) → Prop
  | none => v = .non
  | some t => ∃ a, v = .ref a ∧ H a = some (.lst (natsV t)) ∧ N a
def DV (N : Addr → Prop) (H : Hp) (kvs : KTs) (k : List Key) (o : Option (List Nat)) : Prop := ∃ v, valV kvs k = some v ∧ DV1 N H v o
theorem DV1.but {N : Addr → Prop} {H H' : Hp} {v : V} {o : Option (List Nat)} {l : List Addr} (h : DV1 N H v o) (k : ButL l H H') (hl : ∀ a xs, H a = some (.lst xs) → a ∉ l) : DV1 N H' v o := by
  cases o with
  | none => exact h
  | some t =>
    obtain ⟨a, e1, e2, e3⟩ := h
    exact ⟨a, e1, k.lst e2 (hl a _ e2), e3⟩
theorem DV1.same {N : Addr → Prop} {H H' : Hp} {v : V} {o : Option (List Nat)} (h : DV1 N H v o) (k : Same H H') : DV1 N H' v o := h.but (ButL.of_same (l := []) k) fun _ _ _ => by simp
theorem DV1.ext {N : Addr → Prop} {H H' : Hp} {v : V} {o : Option (List Nat)} (h : DV1 N H v o) (k : LamX.ExtN H H') : DV1 N H' v o := h.but (ButL.of_ext (l := []) k) fun _ _ _ => by simp
theorem DV1.dict {N : Addr → Prop} {H H' : Hp} {v : V} {o : Option (List Nat)} {d : Addr} {ob : HO} (h : DV1 N H v o) (k : But d H H') (hd : H d = some ob) (n : ∀ xs, ob ≠ .lst xs) : DV1 N H' v o := by
  cases o with
  | none => exact h
  | some t =>
    obtain ⟨a, e1, e2, e3⟩ := h
    exact ⟨a, e1, k _ _ (ne_of e2 hd (fun z => n _ z.symm)) e2, e3⟩
theorem DV1.list {N : Addr → Prop} {H0 H H' : Hp} {v : V} {o : Option (List Nat)} {d : Addr} (h : DV1 N H v o) (k : But d H H') (hN : ¬ N d) : DV1 N H' v o := by
  cases o with
  | none => exact h
  | some t =>
    obtain ⟨a, e1, e2, e3⟩ := h
    exact ⟨a, e1, k _ _ (fun z => hN (z ▸ e3)) e2, e3⟩
theorem put_next {i : Nat} {q : Option Bool} {vs : List V} (v : V) (hq : qs[i]? = some q) (hl : vs.length = i) : putK (((qs.take i).map kq).zip vs) (kq q) v = ((qs.take (i + 1)).map kq).zip (vs ++ [v]) := by
  match i, hq, vs, hl with
  | 0, hq, [], _ => cases hq; rfl
  | 1, hq, [a], _ => cases hq; exact putK_new _ (by rfl)
  | 2, hq, [a, b], _ => cases hq; exact putK_new _ (by rfl)
theorem known_at {vs : List V} {i : Nat} {k : List Key} {v : V} (h : ((qs.map kq).zip vs)[i]? = some (k, v)) : ∃ q, qs[i]? = some q ∧ k = kq q ∧ vs[i]? = some v := by
  rw [List.getElem?_zip_eq_some, List.getElem?_map] at h
  obtain ⟨h1, h2⟩ := h
  cases e : qs[i]? with
  | none => rw [e] at h1; cases h1
  | some q =>
    rw [e] at h1
    exact ⟨q, rfl, (Option.some.inj h1).symm, h2⟩
theorem known_val {vs : List V} {i : Nat} {q : Option Bool} {v : V} (hl : vs.length = 3) (hq : qs[i]? = some q) (hv : vs[i]? = some v) : valV ((qs.map kq).zip vs) (kq q) = some v := by
  match vs, hl with
  | [a, b, c], _ =>
    match i, hq, hv with
    | 0, hq, hv => cases hq; exact hv
    | 1, hq, hv => cases hq; exact hv
    | 2, hq, hv => cases hq; exact hv
namespace Sh
def allS (s : Sh) (st : Option Bool → Option (List Nat)) (q : Option Bool) : List (List Nat) := (st q).toList ++ ((st (some false)).toList.map ((s.n + b2n false) :: ·) ++ (st (some true)).toList.map ((s.n + b2n true) :: ·))
theorem allS_len {s : Sh} {st : Option Bool → Option (List Nat)} {q : Option Bool} (hl : ∀ q t, st q = some t → t.length ≤ 1000) : ∀ t ∈ s.allS st q, t.length ≤ 1001 := fun t ht => by
  have one : ∀ q t, t ∈ (st q).toList → t.length ≤ 1000 := fun q t h => hl q t (Option.mem_toList.mp h)
  unfold allS at ht
  rcases List.mem_append.mp ht with z | z
  · have := one q t z
    omega
  · rcases List.mem_append.mp z with z | z
    · obtain ⟨u, hu, rfl⟩ := List.mem_map.mp z
      have := one _ u hu
      rw [List.length_cons]
      omega
    · obtain ⟨u, hu, rfl⟩ := List.mem_map.mp z
      have := one _ u hu
      rw [List.length_cons]
      omega
theorem allS_ne {s : Sh} {st : Option Bool → Option (List Nat)} {q : Option Bool} (h : (st (some false)).isSome = true ∨ (st (some true)).isSome = true) : s.allS st q ≠ [] := fun z => by
  unfold allS at z
  rw [List.append_eq_nil_iff, List.append_eq_nil_iff, List.map_eq_nil_iff, List.map_eq_nil_iff] at z
  rcases h with h | h
  · cases e : st (some false) with
    | none => rw [e] at h; cases h
    | some t => rw [e] at z; exact absurd z.2.1 (by simp)
  · cases e : st (some true) with
    | none => rw [e] at h; cases h
    | some t => rw [e] at z; exact absurd z.2.2 (by simp)
end Sh
/-- lists among None -/
def someV (L : List (Option (Addr × List Nat))) : List V := L.map fun o => match o with | none => .non | some p => .ref p.1
theorem someV_snoc (L : List (Option (Addr × List Nat))) (o : Option (Addr × List Nat)) : someV (L ++ [o]) = someV L ++ [match o with | none => .non | some p => .ref p.1] := List.map_append ..
theorem someV_len (L : List (Option (Addr × List Nat))) : (someV L).length = L.length := List.length_map _
theorem someV_at {L : List (Option (Addr × List Nat))} {i : Nat} {x : V} (h : (someV L)[i]? = some x) : ∃ o, L[i]? = some o ∧ x = match o with | none => .non | some p => .ref p.1 := by
  unfold someV at h
  rw [List.getElem?_map] at h
  cases e : L[i]? with
  | none => rw [e] at h; cases h
  | some o => rw [e] at h; exact ⟨o, rfl, (Option.some.inj h).symm⟩
theorem fm_snoc (L : List (Option (Addr × List Nat))) (o : Option (Addr × List Nat)) : (L ++ [o]).filterMap id = L.filterMap id ++ o.toList := by
  rw [List.filterMap_append]
  cases o <;> rfl
/-- the candidates of a state, so far -/
def Sh.allP (s : Sh) (st : Option Bool → Option (List Nat)) (q : Option Bool) (i : Nat) : List (List Nat) := (st q).toList ++ (([false, true].take i).map fun b => (st (some b)).toList.map ((s.n + b2n b) :: ·)).flatten
theorem allP_next (s : Sh) (st : Option Bool → Option (List Nat)) (q : Option Bool) {i : Nat} {b : Bool} (h : [false, true][i]? = some b) : s.allP st q (i + 1) = s.allP st q i ++ (st (some b)).toList.map ((s.n + b2n b) :: ·) := by
  unfold Sh.allP
  rw [take_snoc h, List.map_append, List.flatten_append, List.append_assoc]
  simp
theorem allP_end (s : Sh) (st : Option Bool → Option (List Nat)) (q : Option Bool) : s.allP st q 2 = s.allS st q := by
  unfold Sh.allP Sh.allS
  simp
theorem bool_at {i : Nat} (h : (i : Int) < 2) : ∃ b : Bool, V.int (i : Int) = setV b ∧ b2n b = i ∧ [false, true][i]? = some b := by
  match i, h with
  | 0, _ => exact ⟨false, rfl, rfl, rfl⟩
  | 1, _ => exact ⟨true, rfl, rfl, rfl⟩
def spShifted (TTs : List (Addr × Str)) : Sp := fun vs H Q E => ∃ (v : V) (sh : Sh) (d : Addr) (kvs : KTs) (p : Nat) (N : Addr → Prop) (st : Option Bool → Option (List Nat)), vs = [v, .ref d, .int p] ∧ (IsSh H v sh) ∧ (sh.Ok) ∧ (H d = some (.dT kvs)) ∧ (kvs.length ≤ 1000) ∧ (∀ a, Fresh H a → N a) ∧ (∀ q, DV N H kvs (stK p q) (st q)) ∧ (∀ q t, st q = some t → t.length ≤ 1000) ∧ ((st (some false)).isSome = true ∨ (st (some true)).isSome = true) ∧ (LamX.Tabs TTs H) ∧ (∀ H' kvs', ButL [d] H H' → LamX.Tabs TTs H' → H' d = some (.dT kvs') → kvs'.length ≤ kvs.length + 3 → (∀ q, DV N H' kvs' (stK p q) (kMinL (sh.allS st q))) → (∀ k, (∀ q, k ≠ stK p q) → valV kvs' k = valV kvs k) → Q .non H')
theorem use_shifted {TTs : List (Addr × Str)} {H : Hp} {Q : VK} {E : XK} {v : V} {sh : Sh} {d : Addr} {kvs : KTs} {p : Nat} {N : Addr → Prop} {st : Option Bool → Option (List Nat)} (hv : IsSh H v sh) (ok : sh.Ok) (hd : H d = some (.dT kvs)) (hk : kvs.length ≤ 1000) (hN : ∀ a, Fresh H a → N a) (hst : ∀ q, DV N H kvs (stK p q) (st q)) (hl : ∀ q t, st q = some t → t.length ≤ 1000) (hne : (st (some false)).isSome = true ∨ (st (some true)).isSome = true) (hT : LamX.Tabs TTs H) (q : ∀ H' kvs', ButL [d] H H' → LamX.Tabs TTs H' → H' d = some (.dT kvs') → kvs'.length ≤ kvs.length + 3 → (∀ q, DV N H' kvs' (stK p q) (kMinL (sh.allS st q))) → (∀ k, (∀ q, k ≠ stK p q) → valV kvs' k = valV kvs k) → Q .non H') : spShifted TTs [v, .ref d, .int p] H Q E := ⟨v, sh, d, kvs, p, N, st, rfl, hv, ok, hd, hk, hN, hst, hl, hne, hT, q⟩

theorem ok_shifted {k : Nat} {PT : Addr} (T : TX mg) (F : DfT K mg base "shifted" s_shifted ["sheet", "best", "place"] PT) (hm : (PT, (Str.ofString "shifted" ++ ".<locals>.") ++ "<lambda>") ∈ TTs) (hu : ∀ p ∈ TTs, p.1 = PT → p.2 = (Str.ofString "shifted" ++ ".<locals>.") ++ "<lambda>") (o_shift_to : OkAt P w K mg base "shift_to" (k + 2) ["sheet", "number"] spShiftTo) : OkAt P w K mg base "shifted" (k + 2 + 1) ["sheet", "best", "place"] (spShifted TTs) := by
  refine F.ok sc_shifted (fun vs H Q E h => ?_) (fun f c A outer s H vs Q E TB hr h => ?_)
  · obtain ⟨v, sh, d, kvs, p, N, st, rfl, _⟩ := h
    rfl
  obtain ⟨v, sh, d, kvs, p, N, st, rfl, hv, ok, hd, hk, hN, hst, hl, hne, hT, q⟩ := h
  refine ⟨_, (pss_cons (ps_set (i := 3) sc_shifted.nd rfl (by first | exact Or.inl rfl | exact Or.inr rfl) pe_dnewT) (pss_cons (ps_for PassesOwn.never rfl (pi_listK K (pe_lstN (pa_cons (pe_tupN (pa_cons pe_int (pa_cons pe_int pa_nil))) (pa_cons (pe_tupN (pa_cons pe_int (pa_cons pe_int pa_nil))) (pa_cons (pe_tupN (pa_cons pe_int (pa_cons pe_int pa_nil))) pa_nil))))) (pg_name (i := 4) sc_shifted.nd rfl (by first | exact Or.inl rfl | exact Or.inr rfl)) (pss_cons (ps_set (i := 5) sc_shifted.nd rfl (by first | exact Or.inl rfl | exact Or.inr rfl) (pe_lstN (pa_cons (pe_dget (hu_of hr) (pv 1) (pe_op (op_uAdd K) (pe_tupN (pa_cons (pv 2) pa_nil)) (pv 4)) (fun _ _ => rfl)) pa_nil))) (pss_cons (ps_for PassesOwn.never rfl (pi_range1 (by rfl) T.b_range (pa_cons pe_int pa_nil)) (pg_name (i := 6) sc_shifted.nd rfl (by first | exact Or.inl rfl | exact Or.inr rfl)) (pss_cons (ps_set (i := 7) sc_shifted.nd rfl (by first | exact Or.inl rfl | exact Or.inr rfl) (pe_dget (hu_of hr) (pv 1) (pe_tupN (pa_cons (pv 2) (pa_cons (pv 6) (pa_cons (pv 6) pa_nil)))) (fun _ _ => rfl))) (pss_one (ps_if (pt_cmpR op_uNotN (pv 7) pe_non (nomark _)) (pss_one (ps_expr (pe_bmK K PySem.F.plainAttrs_list PySem.F.slot_list_append PySem.F.type_list_append mt_appendN (pv 5) (pa_cons (pe_op (op_uAdd K) (pe_lstN (pa_cons (pe_cl o_shift_to hr (by rfl) (pa_cons (pv 0) (pa_cons (pv 6) pa_nil))) pa_nil)) (pv 7)) pa_nil)))) pss_nil)))) (pss_one (ps_dput (hu_of hr) (pv 3) (pv 4) (pe_minK K (x := "tape") (pa_cons (pe_lc (own := [("tape", 8)]) (g := gName 8) rfl sc_shifted.nd (pi_listK K (pv 5)) (blkOk_by (own := [("tape", 8)]) (N := ["sheet", "best", "place", "known", "state", "some", "number", "straight", "tape"]) (sc := defScope s_shifted) (by decide +kernel)) (fun _ _ _ _ _ => (pg_name (i := 8) sc_shifted.nd rfl (by first | exact Or.inl rfl | exact Or.inr rfl))) (fun _ _ _ _ _ => (pts_one (pt_cmpR op_uNotN (pv 8) pe_non (nomark _)))) (fun _ _ _ _ _ => (pv 8))) pa_nil) (by rfl) T.b_min TB hm hu hr (by exact ⟨rfl, rfl, rfl, by decide +kernel, rfl, by decide +kernel, by decide +kernel⟩) (fun _ _ _ _ _ _ _ _ => pe_tupN (pa_cons (pe_callB (cr_len K) (by rfl) T.b_len (by decide +kernel) (pa_cons (pv 0) pa_nil)) (pa_cons (pv 0) pa_nil)))) rfl))))) (pss_one (ps_lock (ps_for PassesOwn.never rfl (pi_keys (pv 3)) (pg_name (i := 4) sc_shifted.nd rfl (by first | exact Or.inl rfl | exact Or.inr rfl)) (pss_one (ps_dput (hu_of hr) (pv 1) (pe_op (op_uAdd K) (pe_tupN (pa_cons (pv 2) pa_nil)) (pv 4)) (pe_dget (hu_of hr) (pv 3) (pv 4) (fun _ _ => rfl)) rfl))))))), ?_⟩
  obtain ⟨av, rfl, hav⟩ := id hv
  have dn : ∀ b xs, H b = some (.tup xs) → b ≠ d := fun b xs e => ne_of e hd (fun z => nomatch z)
  walk_at "r"
  intro kd H1 n1 s1 e1
  walk_at "r"
  intro t0 G0 m0 g0 f0
  walk_at "r"
  intro t1 G1 m1 g1 f1
  walk_at "r"
  intro t2 G2 m2 g2 f2
  walk_at "r"
  intro ls G3 m3 g3 f3
  have s13 : Same H1 G3 := ((g0.trans g1).trans g2).trans g3
  have sH3 : Same H G3 := s1.trans s13
  have hst3 : ∀ (i : Nat) x, [V.ref t0, V.ref t1, V.ref t2][i]? = some x → ∃ q a, qs[i]? = some q ∧ x = .ref a ∧ G3 a = some (.tup (stV q)) := fun i x hx => by
    match i, hx with
    | 0, hx => cases hx; exact ⟨_, t0, rfl, rfl, g3 _ _ (g2 _ _ (g1 _ _ f0))⟩
    | 1, hx => cases hx; exact ⟨_, t1, rfl, rfl, g3 _ _ (g2 _ _ f1)⟩
    | 2, hx => cases hx; exact ⟨_, t2, rfl, rfl, g3 _ _ f2⟩
  have kd3 := s13 _ _ e1
  have kdH : H kd = none := n1
  have dkd : d ≠ kd := ne_of_none hd n1
  refine f_list f3 (fun i σ H' => ∃ y4 y5 y6 y7 vs, σ = [some (.ref av), some (.ref d), some (.int (p : Nat)), some (.ref kd), y4, y5, y6, y7, none] ∧ ButL [kd] G3 H' ∧ LamX.Tabs TTs H' ∧ H' kd = some (.dT (((qs.take i).map kq).zip vs)) ∧ vs.length = i ∧
    ∀ (j : Nat) q v, qs[j]? = some q → vs[j]? = some v → DV1 N H' v (kMinL (sh.allS st q))) ⟨_, _, _, _, [], rfl, ButL.refl _ _, hT.ext sH3, kd3, rfl, fun j q v _ h => by simp at h⟩ (fun i σ H' _ ⟨_, _, _, _, _, _, b, _⟩ => b.lst f3 (by simpa using ne_of f3 kd3 (fun z => nomatch z))) (fun i x σ G hx => ?_) ?_
  · rintro ⟨y4, y5, y6, y7, vs, rfl, bG, tG, kG, lv, hvs⟩
    obtain ⟨q0, a, hq0, rfl, ha3⟩ := hst3 i x hx
    have ha := bG.tup ha3 (by simpa using ne_of ha3 kd3 (fun z => nomatch z))
    have hdG := bG.dT (sH3 _ _ hd) (by simpa using dkd)
    have hls := fun b xs (e : G b = some (HO.lst xs)) => ne_of e kG (fun z => nomatch z)
    have bHG : ButL [kd] H G := (ButL.of_same (l := [kd]) sH3).trans bG
    walk_at "r"
    intro tp G4 m4 g4 f4
    walk_at "r"
    refine r_addU f4 (g4 _ _ ha) (by simp) (by cases q0 <;> simp [stV]) (le_size (by cases q0 <;> simp [stV])) fun tk G5 m5 g5 f5 => ?_
    have f5k : G5 tk = some (.tup ((stK p q0).map kV)) := by rw [f5, stK_V]; rfl
    obtain ⟨v0, ev0, dv0⟩ := hst q0
    have g45 := g4.trans g5
    refine r_getT (.of (g45 _ _ hdG)) f5k ev0 ?_
    walk_at "r"
    intro sm G6 m6 g6 f6
    walk_at "r"
    have g46 := g45.trans g6
    have dvH : ∀ {v o}, DV1 N H v o → DV1 N G6 v o := fun h => (h.but bHG fun b xs e z => by
      have : b = kd := by simpa using z
      rw [this, n1] at e
      cases e).same g46
    have tab6 : LamX.Tabs TTs G6 := tabs_same tG g46
    have smG : G sm = none := g45.free m6
    have smF : Fresh H sm := fresh_of bHG smG fun c hc => by rw [List.mem_singleton.mp hc, kG]; exact fun z => nomatch z
    have kd6 := g46 _ _ kG
    have hd6 := g46 _ _ hdG
    have ha6 := g46 _ _ ha
    have hL0 : ∃ L, someV L = [v0] ∧ (L.filterMap id).map (·.2) = (st q0).toList ∧ L.length = 1 ∧ ∀ p, some p ∈ L → G6 p.1 = some (.lst (natsV p.2)) ∧ N p.1 ∧ p.1 ≠ sm := by
      have d6 := dvH dv0
      cases es : st q0 with
      | none =>
        rw [es] at d6
        have : v0 = .non := d6
        exact ⟨[none], by rw [this]; rfl, rfl, rfl, fun p hp => by simp at hp⟩
      | some t =>
        rw [es] at d6 dv0
        obtain ⟨a1, e1, e2, e3⟩ := d6
        obtain ⟨a2, e1', e2', _⟩ := dv0
        have ea : a1 = a2 := by rw [e1] at e1'; injection e1'
        refine ⟨[some (a1, t)], by rw [e1]; rfl, rfl, rfl, fun p hp => ?_⟩
        have hp : p = (a1, t) := Option.some.inj (List.mem_singleton.mp hp)
        rw [hp]
        refine ⟨e2, e3, ?_⟩
        rw [ea]
        exact ne_of_none (bHG.lst e2' (by simpa using fun z => by rw [z, n1] at e2'; cases e2')) smG
    refine f_range1 (by decide) (by decide) (fun i2 σ H' => ∃ y6 y7 L, σ = [some (.ref av), some (.ref d), some (.int (p : Nat)), some (.ref kd), some (.ref a), some (.ref sm), y6, y7, none] ∧ ButL [sm] G6 H' ∧ LamX.Tabs TTs H' ∧ H' sm = some (.lst (someV L)) ∧
      (L.filterMap id).map (·.2) = sh.allP st q0 i2 ∧ L.length ≤ 1 + i2 ∧ ∀ p, some p ∈ L → H' p.1 = some (.lst (natsV p.2)) ∧ N p.1 ∧ p.1 ≠ sm) ?_ ?_ ?_
    · obtain ⟨L, e1, e2, e3, e4⟩ := hL0
      exact ⟨_, _, L, rfl, ButL.refl _ _, tab6, by rw [e1]; exact f6, by rw [e2]; unfold Sh.allP; simp, by omega, e4⟩
    · rintro i2 σ G7 hi2 ⟨y6, y7, L, rfl, b7, t7, e7, ep, ll, hL⟩
      obtain ⟨b, hb, hbn, hbi⟩ := bool_at hi2
      have nsm : ∀ {b o}, G6 b = some o → (∀ xs, o ≠ .lst xs) → b ≠ sm := fun e n => ne_of e f6 (n _)
      have hd7 := b7.dT hd6 (by simpa using nsm hd6 (fun _ z => nomatch z))
      have kd7 := b7.dT kd6 (by simpa using nsm kd6 (fun _ z => nomatch z))
      have frs : ∀ b xs, H b = some (HO.lst xs) → b ∉ [kd, sm] := fun b xs e => by
        simp only [List.mem_cons, List.not_mem_nil, or_false, not_or]
        exact ⟨ne_of_none e n1, fresh_ne smF e fun _ z => nomatch z⟩
      have frt : ∀ b xs, H b = some (HO.tup xs) → b ∉ [kd, sm] := fun b xs e => by
        simp only [List.mem_cons, List.not_mem_nil, or_false, not_or]
        exact ⟨ne_of_none e n1, fresh_ne smF e fun _ z => nomatch z⟩
      have b17 : ButL [kd, sm] H G7 := ((bHG.same g46).mono (by simp)).trans (b7.mono (by simp))
      rw [hb]
      walk_at "r"
      intro tq G8 m8 g8 f8
      obtain ⟨v1, ev1, dv1⟩ := hst (some b)
      refine r_getT (k := stK p (some b)) (.of (g8 _ _ hd7)) f8 ev1 ?_
      walk_at "r"
      cases es : st (some b) with
      | none =>
        rw [es] at dv1
        have : v1 = .non := dv1
        subst this
        refine w_nno rfl ?_
        walk_at "r"
        refine ⟨_, _, L, rfl, b7.same g8, tabs_same t7 g8, g8 _ _ e7, by rw [ep, allP_next _ _ _ hbi, es]; simp, by omega, fun p hp => ?_⟩
        obtain ⟨h1, h2, h3⟩ := hL p hp
        exact ⟨g8 _ _ h1, h2, h3⟩
      | some t =>
        rw [es] at dv1
        have d8 := (dv1.but b17 frs).same g8
        obtain ⟨a1, rfl, ea1, na1⟩ := d8
        have hav8 := g8 _ _ (b17.tup hav (frt _ _ hav))
        refine w_nyes (fun z => nomatch z) ?_
        walk_at "r"
        refine use_shift_to ⟨av, rfl, hav8⟩ ok ?_
        walk_at "r"
        intro l1 G9 m9 g9 f9
        walk_at "r"
        have lt := hl _ _ es
        refine r_addL f9 (g9 _ _ ea1) (by unfold natsV; rw [List.length_map]; exact le_size (by show 1 + t.length ≤ _; omega)) fun l2 G10 m10 g10 f10 => ?_
        walk_at "r"
        have g89 := g8.trans g9
        have e9 := g89 _ _ e7
        have e10 := g10 _ _ e9
        refine r_app e10 (by rw [someV_len]; exact lt_size (by omega)) fun G11 k11 e11 => ?_
        have ne2 : l2 ≠ sm := (ne_of_none e9 m10).symm
        refine ⟨_, _, L ++ [some (l2, (sh.n + b2n b) :: t)], rfl, ((b7.same g89).same g10).but k11 (by simp), tabs_but (tabs_same t7 (g89.trans g10)) k11 e10 (fun _ z => nomatch z) (fun q z => by unfold LamX.CodeO at z; cases z), ?_, ?_, by rw [List.length_append]; show _ + 1 ≤ _; omega, fun p hp => ?_⟩
        · rw [e11, someV_snoc]
        · rw [fm_snoc, List.map_append, ep, allP_next _ _ _ hbi, es]
          rfl
        · rcases List.mem_append.mp hp with hp | hp
          · obtain ⟨h1, h2, h3⟩ := hL p hp
            exact ⟨k11 _ _ h3 (g10 _ _ (g89 _ _ h1)), h2, h3⟩
          · have hp : p = (l2, (sh.n + b2n b) :: t) := Option.some.inj (List.mem_singleton.mp hp)
            rw [hp]
            refine ⟨k11 _ _ ne2 f10, hN _ (fresh_of (b17.same g89) m10 fun c hc => ?_), ne2⟩
            rcases List.mem_cons.mp hc with z | z
            · rw [z, g89 _ _ kd7]; exact fun z => nomatch z
            · rw [List.mem_singleton.mp z, e9]; exact fun z => nomatch z
    · rintro σ G7 ⟨y6, y7, L, rfl, b7, t7, e7, ep, ll, hL⟩
      have ep : (L.filterMap id).map (·.2) = sh.allS st q0 := ep.trans (allP_end sh st q0)
      have ll : L.length ≤ 3 := ll
      have nsm : ∀ {b o}, G6 b = some o → (∀ xs, o ≠ .lst xs) → b ≠ sm := fun e n => ne_of e f6 (n _)
      walk_at "r"
      refine c_list (fun i => ((L.take i).filterMap id).map fun p => V.ref p.1) e7 (by rw [someV_len]; omega) rfl (fun i => ?_) (fun i x H' hx s Ky Kn hy hn => ?_) (fun D G8 m8 g8 f8 => ?_)
      · rw [List.length_map]
        exact Nat.le_trans (List.length_filterMap_le _ _) (by rw [List.length_take]; exact Nat.min_le_left _ _)
      · obtain ⟨o, ho, rfl⟩ := someV_at hx
        walk_at "r"
        refine ⟨rfl, ?_⟩
        walk_at "r"
        cases o with
        | none =>
          refine w_nno rfl ?_
          exact hn _ (Same.refl _) (by dsimp only; rw [take_snoc ho, fm_snoc]; simp)
        | some p =>
          refine w_nyes (fun z => nomatch z) ?_
          walk_at "r"
          exact hy _ _ (Same.refl _) (by dsimp only; rw [take_snoc ho, fm_snoc]; simp)
      · rw [someV_len, List.take_length] at f8
        have hmem : ∀ p ∈ L.filterMap id, some p ∈ L := fun p hp => by
          obtain ⟨o, ho, e⟩ := List.mem_filterMap.mp hp
          have e : o = some p := e
          rw [← e]
          exact ho
        refine ⟨D, L.filterMap id, rfl, fun z => ?_, f8, fun p hp => ?_, tabs_same t7 g8, fun pp hpp hk2 G9 x9 t9 => ?_⟩
        · rw [z] at ep
          exact Sh.allS_ne hne ep.symm
        · obtain ⟨h1, h2, h3⟩ := hL p (hmem p hp)
          have := Sh.allS_len (s := sh) (q := q0) hl p.2 (by rw [← ep]; exact List.mem_map.mpr ⟨p, hp, rfl⟩)
          exact ⟨g8 _ _ h1, by omega⟩
        · walk_at "r"
          have kd9 := ext_dT x9 (g8 _ _ (b7.dT kd6 (by simpa using nsm kd6 (fun _ z => nomatch z))))
          have ha9 := ext_tup x9 (g8 _ _ (b7.tup ha6 (by simpa using nsm ha6 (fun _ z => nomatch z))))
          rw [← kq_V] at ha9
          refine r_putT kd9 ha9 (by rw [List.length_zip, lv]; exact Nat.lt_of_le_of_lt (Nat.min_le_right _ _) (by have := (List.getElem?_eq_some_iff.mp hq0).1; unfold qs at this; simp at this; omega)) fun G10 k10 e10 => ?_
          obtain ⟨p1, p2, p3⟩ := hL pp (hmem pp hpp)
          have nk : ∀ b xs, G9 b = some (HO.lst xs) → b ≠ kd := fun b xs e => ne_of e kd9 (fun z => nomatch z)
          refine ⟨_, _, _, _, vs ++ [.ref pp.1], rfl, ?_, ?_, ?_, by rw [List.length_append, lv]; rfl, fun j q v hj hv => ?_⟩
          · exact (((bG.newL g46 b7 smG).same g8).ext x9).but k10 (by simp)
          · exact tabs_but t9 k10 kd9 (fun _ z => nomatch z) (fun q z => by unfold LamX.CodeO at z; cases z)
          · rw [e10, put_next _ hq0 lv]
          · by_cases hlt : j < i
            · rw [List.getElem?_append_left (by omega)] at hv
              have := hvs j q v hj hv
              have := this.but ((ButL.refl [] G).newL g46 b7 smG) fun b xs e => by simp
              exact ((this.same g8).ext x9).dict k10 kd9 (fun _ z => nomatch z)
            · have hj2 : j = i := by
                have := (List.getElem?_eq_some_iff.mp hv).1
                rw [List.length_append, lv] at this
                simp at this
                omega
              subst hj2
              rw [hq0] at hj
              cases hj
              rw [List.getElem?_append_right (by omega), lv, Nat.sub_self] at hv
              have : V.ref pp.1 = v := Option.some.inj hv
              subst this
              rw [← ep, hk2]
              exact ⟨pp.1, rfl, k10 _ _ (nk _ _ (ext_lst x9 (g8 _ _ p1))) (ext_lst x9 (g8 _ _ p1)), p2⟩
  · rintro σ G ⟨y4, y5, y6, y7, vs, rfl, bG, tG, kG, lv, hvs⟩
    have lv : vs.length = 3 := lv
    have kG : G kd = some (.dT ((qs.map kq).zip vs)) := kG
    have hdG := bG.dT (sH3 _ _ hd) (by simpa using dkd)
    have bHG : ButL [kd] H G := (ButL.of_same (l := [kd]) sH3).trans bG
    walk_at "r"
    refine f_keysT kG (fun H1 R r => ⟨_, rfl, r⟩) (fun i σ H' => ∃ y4 y5 y6 y7 kvi, σ = [some (.ref av), some (.ref d), some (.int (p : Nat)), some (.ref kd), y4, y5, y6, y7, none] ∧ ButL [d, kd] G H' ∧ LamX.Tabs TTs H' ∧ H' d = some (.dT kvi) ∧ kvi.length ≤ kvs.length + i ∧
      (∀ (j : Nat) q v, j < i → qs[j]? = some q → vs[j]? = some v → valV kvi (stK p q) = some v) ∧ ∀ k, (∀ q, k ≠ stK p q) → valV kvi k = valV kvs k) (fun od H1 k1 e1 => ?_) (fun od i k v b σ G1 rtE bkE hk2 hb hd1 hP => ?_) (fun od σ G1 G2 hd1 hP k2 e2 => ?_)
    · exact ⟨_, _, _, _, kvs, rfl, (ButL.refl _ _).but k1 (by simp), tabs_but tG k1 kG (fun _ z => nomatch z) (fun q z => by unfold LamX.CodeO at z; cases z), k1 _ _ dkd hdG, Nat.le_refl _, fun j q v hj => absurd hj (Nat.not_lt_zero _), fun k _ => rfl⟩
    · obtain ⟨y4, y5, y6, y7, kvi, rfl, b1, t1, d1, l1, hv1, ho1⟩ := hP
      obtain ⟨q, hq, rfl, hv⟩ := known_at hk2
      walk_at "r"
      refine r_getT (.inr ⟨od, hd1⟩) hb (known_val lv hq hv) ?_
      walk_at "r"
      intro tp G2 m2 g2 f2
      walk_at "r"
      rw [kq_V] at hb
      refine r_addU f2 (g2 _ _ hb) (by simp) (by cases q <;> simp [stV]) (le_size (by cases q <;> simp [stV])) fun tk G3 m3 g3 f3 => ?_
      have f3k : G3 tk = some (.tup ((stK p q).map kV)) := by rw [f3, stK_V]; rfl
      have g23 := g2.trans g3
      have d3 := g23 _ _ d1
      have hi : i < 3 := by
        have := (List.getElem?_eq_some_iff.mp hv).1
        omega
      refine r_putT d3 f3k (by omega) fun G4 k4 e4 => ?_
      refine ⟨k4 _ _ dkd.symm (g23 _ _ hd1), _, _, _, _, _, rfl, (b1.same g23).but k4 (by simp), tabs_but (tabs_same t1 g23) k4 d3 (fun _ z => nomatch z) (fun q z => by unfold LamX.CodeO at z; cases z), e4, ?_, fun j r w hj hr hw => ?_, fun k hk3 => ?_⟩
      · have := length_putK kvi (stK p q) v
        omega
      · rw [valV_put]
        by_cases e : stK p r = stK p q
        · obtain ⟨_, rfl⟩ := stK_inj e
          have := qs_inj hr hq
          subst this
          rw [if_pos rfl, ← hv, hw]
        · rw [if_neg e]
          refine hv1 j r w ?_ hr hw
          have : j ≠ i := fun z => by
            subst z
            rw [hq] at hr
            cases hr
            exact e rfl
          omega
      · rw [valV_put, if_neg (hk3 q)]
        exact ho1 k hk3
    · obtain ⟨y4, y5, y6, y7, kvi, rfl, b1, t1, d1, l1, hv1, ho1⟩ := hP
      have l3 : ((qs.map kq).zip vs).length = 3 := by rw [List.length_zip, List.length_map, lv]; rfl
      rw [l3] at l1 hv1
      refine q G2 kvi ?_ (tabs_but t1 k2 hd1 (fun _ z => nomatch z) (fun q z => by unfold LamX.CodeO at z; cases z)) (k2 _ _ dkd d1) l1 (fun r => ?_) ho1
      · intro b o hb e n
        have hb : b ≠ d := by simpa using hb
        have hbk : b ≠ kd := ne_of_none e n1
        exact k2 _ _ hbk (b1 b o (by simp [hb, hbk]) (bHG b o (by simpa using hbk) e n) n)
      · obtain ⟨j, hj⟩ := qs_all r
        have hj3 : j < 3 := (List.getElem?_eq_some_iff.mp hj).1
        obtain ⟨w, hw⟩ : ∃ w, vs[j]? = some w := ⟨_, List.getElem?_eq_getElem (by omega)⟩
        refine ⟨w, hv1 j r w hj3 hj hw, ((hvs j r w hj hw).but b1 fun b xs e => ?_).dict k2 hd1 (fun _ z => nomatch z)⟩
        simp only [List.mem_cons, List.not_mem_nil, or_false, not_or]
        exact ⟨ne_of e hdG (fun z => nomatch z), ne_of e kG (fun z => nomatch z)⟩

/-! ### either -/
def stB : Option Bool → List Bool
  | some b => [b, b]
  | none => [false, true]
theorem stV_B (q : Option Bool) : stV q = (stB q).map setV := by cases q <;> rfl
theorem stV_two (q : Option Bool) : ∃ b0 b1, stV q = [setV b0, setV b1] := by
  cases q with
  | some b => exact ⟨b, b, rfl⟩
  | none => exact ⟨false, true, rfl⟩
theorem eCode_iff {s : Sh} (ok : s.Ok) {k c : Nat} (hk : k < s.n) (q : Option Bool) : ((stB q).filter fun b => !decide (s.sign k b = c)) = [] ↔ s.eCode c q = some k := by
  have one : ∀ b, s.sign k b = c ↔ s.code c b = some k := fun b => ⟨fun h => Sh.code_of_at ok (by rw [Sh.sign_at ok hk, h]), fun h => Sh.code_sign h⟩
  rw [List.filter_eq_nil_iff]
  have nb : ∀ b, (¬ (!decide (s.sign k b = c)) = true) ↔ s.code c b = some k := fun b => by
    rw [← one b]
    by_cases h : s.sign k b = c
    · rw [decide_eq_true h]; simp [h]
    · rw [decide_eq_false h]; simp [h]
  cases q with
  | some b =>
    constructor
    · intro h
      exact (nb b).mp (h b List.mem_cons_self)
    · intro h d hd
      have : d = b := by
        rcases List.mem_cons.mp hd with z | z
        · exact z
        · exact List.mem_singleton.mp z
      rw [this]
      exact (nb b).mpr h
  | none =>
    constructor
    · intro h
      have h0 := (nb false).mp (h false List.mem_cons_self)
      have h1 := (nb true).mp (h true (List.mem_cons_of_mem _ List.mem_cons_self))
      show (if s.code c false = s.code c true then s.code c false else none) = some k
      rw [h0, h1, if_pos rfl]
    · intro h d hd
      have h : (if s.code c false = s.code c true then s.code c false else none) = some k := h
      by_cases e : s.code c false = s.code c true
      · rw [if_pos e] at h
        refine (nb d).mpr ?_
        cases d
        · exact h
        · rw [← e]; exact h
      · rw [if_neg e] at h
        cases h
theorem later_is {s : Sh} {k : Nat} (hk : k < s.n) (q : Option Bool) {ns : List Int} (p : ns.Perm ((stB q).map fun b => ((b2n (s.behind k b) : Nat) : Int))) (o : ns.Pairwise (· ≤ ·)) : ns.map V.int = stV (s.eBehind k q) := by
  have bh : ∀ b, s.behind k b = if s.home = some k then false else b := fun b => by unfold Sh.behind; rw [if_neg (by omega)]
  cases q with
  | some b =>
    rw [sorted_two (i := ((b2n (s.behind k b) : Nat) : Int)) (j := ((b2n (s.behind k b) : Nat) : Int)) p o (Int.le_refl _)]
    rfl
  | none =>
    have h : ((b2n (s.behind k false) : Nat) : Int) ≤ ((b2n (s.behind k true) : Nat) : Int) := by
      rw [bh, bh]
      split <;> decide
    rw [sorted_two (i := ((b2n (s.behind k false) : Nat) : Int)) (j := ((b2n (s.behind k true) : Nat) : Int)) p o h, bh, bh]
    show _ = stV (if s.home = some k then some false else none)
    by_cases e : s.home = some k
    · rw [if_pos e, if_pos e, if_pos e]; rfl
    · rw [if_neg e, if_neg e, if_neg e]; rfl
theorem DV.to {N : Addr → Prop} {H H' : Hp} {kvs kvs' : KTs} {k : List Key} {o : Option (List Nat)} {l : List Addr} (h : DV N H kvs k o) (b : ButL l H H') (hl : ∀ a xs, H a = some (.lst xs) → a ∉ l) (e : valV kvs' k = valV kvs k) : DV N H' kvs' k o := by
  obtain ⟨v, h1, h2⟩ := h
  exact ⟨v, e.trans h1, h2.but b hl⟩
def spEither (TTs : List (Addr × Str)) : Sp := fun vs H Q E => ∃ (v : V) (sh : Sh) (x : List Nat), vs = [v, .str (mkS x)] ∧ (IsSh H v sh) ∧ (sh.Ok) ∧ (sh.Can x) ∧ (x.length ≤ 32) ∧ (LamX.Tabs TTs H) ∧ (∀ p H', Fresh H p → LamX.ExtN H H' → LamX.Tabs TTs H' → H' p = some (.lst (tapeV (sh.eBest x none))) → Q (.ref p) H')
theorem use_either {TTs : List (Addr × Str)} {H : Hp} {Q : VK} {E : XK} {v : V} {sh : Sh} {x : List Nat} (hv : IsSh H v sh) (ok : sh.Ok) (hc : sh.Can x) (hl : x.length ≤ 32) (hT : LamX.Tabs TTs H) (q : ∀ p H', Fresh H p → LamX.ExtN H H' → LamX.Tabs TTs H' → H' p = some (.lst (tapeV (sh.eBest x none))) → Q (.ref p) H') : spEither TTs [v, .str (mkS x)] H Q E := ⟨v, sh, x, rfl, hv, ok, hc, hl, hT, q⟩

theorem ok_either {k : Nat} {PT : Addr} (T : TX mg) (F : DfT K mg base "either" s_either ["sheet", "text"] PT) (hm : (PT, (Str.ofString "either" ++ ".<locals>.") ++ "<lambda>") ∈ TTs) (hu : ∀ p ∈ TTs, p.1 = PT → p.2 = (Str.ofString "either" ++ ".<locals>.") ++ "<lambda>") (o_need_sheet : OkAt P w K mg base "need_sheet" (k + 2) ["sheet"] spNeedSheet) (o_need_text : OkAt P w K mg base "need_text" (k + 2) ["sheet", "text"] spNeedText) (o_shifted : OkAt P w K mg base "shifted" (k + 2) ["sheet", "best", "place"] (spShifted TTs)) (o_set_behind : OkAt P w K mg base "set_behind" (k + 2) ["sheet", "code", "number"] spSetBehind) : OkAt P w K mg base "either" (k + 2 + 1) ["sheet", "text"] (spEither TTs) := by
  refine F.ok sc_either (fun vs H Q E h => ?_) (fun f c A outer s H vs Q E TB hr h => ?_)
  · obtain ⟨v, sh, x, rfl, _⟩ := h
    rfl
  obtain ⟨v, sh, x, rfl, hv, ok, hc, hl, hT, q⟩ := h
  refine ⟨_, (pss_cons (ps_expr (pe_cl o_need_sheet hr (by rfl) (pa_cons (pv 0) pa_nil))) (pss_cons (ps_expr (pe_cl o_need_text hr (by rfl) (pa_cons (pv 0) (pa_cons (pv 1) pa_nil)))) (pss_cons (ps_set (i := 2) sc_either.nd rfl (by first | exact Or.inl rfl | exact Or.inr rfl) (pe_dispT (hu_of hr) (pps_cons (pe_tupN (pa_cons (pe_callB (cr_len K) (by rfl) T.b_len (by decide +kernel) (pa_cons (pv 1) pa_nil)) (pa_cons pe_int (pa_cons pe_int pa_nil)))) (pe_lstN pa_nil) (pps_cons (pe_tupN (pa_cons (pe_callB (cr_len K) (by rfl) T.b_len (by decide +kernel) (pa_cons (pv 1) pa_nil)) (pa_cons pe_int (pa_cons pe_int pa_nil)))) (pe_lstN pa_nil) (pps_cons (pe_tupN (pa_cons (pe_callB (cr_len K) (by rfl) T.b_len (by decide +kernel) (pa_cons (pv 1) pa_nil)) (pa_cons pe_int (pa_cons pe_int pa_nil)))) (pe_lstN pa_nil) pps_nil))) (by rfl) (by rfl) (by intro z; cases z) (by decide))) (pss_cons (ps_for PassesOwn.never rfl (pi_revR (by rfl) T.b_reversed (prg_1 (by rfl) T.b_range (pe_callB (cr_len K) (by rfl) T.b_len (by decide +kernel) (pa_cons (pv 1) pa_nil)))) (pg_name (i := 3) sc_either.nd rfl (by first | exact Or.inl rfl | exact Or.inr rfl)) (pss_cons (ps_for PassesOwn.never rfl (pi_listK K (pe_lstN (pa_cons (pe_tupN (pa_cons pe_int (pa_cons pe_int pa_nil))) (pa_cons (pe_tupN (pa_cons pe_int (pa_cons pe_int pa_nil))) (pa_cons (pe_tupN (pa_cons pe_int (pa_cons pe_int pa_nil))) pa_nil))))) (pg_name (i := 4) sc_either.nd rfl (by first | exact Or.inl rfl | exact Or.inr rfl)) (pss_cons (ps_set (i := 5) sc_either.nd rfl (by first | exact Or.inl rfl | exact Or.inr rfl) (pe_lstN pa_nil)) (pss_cons (ps_for PassesOwn.never rfl (pi_range1 (by rfl) T.b_range (pa_cons (pe_callB (cr_len K) (by rfl) T.b_len (by decide +kernel) (pa_cons (pe_ix (ix_u K) (pv 0) pe_int (fun _ _ => rfl)) pa_nil)) pa_nil)) (pg_name (i := 6) sc_either.nd rfl (by first | exact Or.inl rfl | exact Or.inr rfl)) (pss_one (ps_if (pt_cmpR (op_uEq K hr.units) (pe_lc (own := [("number", 7)]) (g := gName 7) rfl sc_either.nd (pi_tupK K (pv 4)) (blkOk_by (own := [("number", 7)]) (N := ["sheet", "text", "best", "place", "state", "some", "code", "number", "later"]) (sc := defScope s_either) (by decide +kernel)) (fun _ _ _ _ _ => (pg_name (i := 7) sc_either.nd rfl (by first | exact Or.inl rfl | exact Or.inr rfl))) (fun _ _ _ _ _ => (pts_one (pt_cmpR (op_uNe K hr.units) (pe_ix (ix_u K) (pe_ix (ix_u K) (pv 0) (pv 7) (fun _ _ => rfl)) (pv 6) (fun _ _ => rfl)) (pe_ix (ix_u K) (pv 1) (pv 3) (fun _ _ => rfl)) (nomark _)))) (fun _ _ _ _ _ => (pv 7))) (pe_lstN pa_nil) (nomark _)) (pss_cons (ps_set (i := 8) sc_either.nd rfl (by first | exact Or.inl rfl | exact Or.inr rfl) (pe_callB (cr_sortedN K) (by rfl) T.b_sorted (by decide +kernel) (pa_cons (pe_lc (own := [("number", 7)]) (g := gName 7) (tt := tYes) rfl sc_either.nd (pi_tupK K (pv 4)) (blkOk_by (own := [("number", 7)]) (N := ["sheet", "text", "best", "place", "state", "some", "code", "number", "later"]) (sc := defScope s_either) (by decide +kernel)) (fun _ _ _ _ _ => (pg_name (i := 7) sc_either.nd rfl (by first | exact Or.inl rfl | exact Or.inr rfl))) (fun _ _ _ _ _ => pts_nil) (fun _ _ _ _ _ => (pe_cl o_set_behind hr (by rfl) (pa_cons (pv 0) (pa_cons (pv 6) (pa_cons (pv 7) pa_nil)))))) pa_nil))) (pss_one (ps_expr (pe_bmK K PySem.F.plainAttrs_list PySem.F.slot_list_append PySem.F.type_list_append mt_appendN (pv 5) (pa_cons (pe_op (op_uAdd K) (pe_lstN (pa_cons (pv 6) pa_nil)) (pe_dget (hu_of hr) (pv 2) (pe_tupN (pa_cons (pe_op (op_uAdd K) (pv 3) pe_int) (pa_cons (pe_ix (ix_u K) (pv 8) pe_int (fun _ _ => rfl)) (pa_cons (pe_ix (ix_u K) (pv 8) pe_int (fun _ _ => rfl)) pa_nil)))) (fun _ _ => rfl))) pa_nil))))) pss_nil))) (pss_one (ps_dput (hu_of hr) (pv 2) (pe_op (op_uAdd K) (pe_tupN (pa_cons (pv 3) pa_nil)) (pv 4)) (pe_minKD K (x := "tape") (pa_cons (pv 5) pa_nil) (by rfl) T.b_min TB hm hu hr (by exact ⟨rfl, rfl, rfl, by decide +kernel, rfl, by decide +kernel, by decide +kernel⟩) (fun _ _ _ _ _ _ _ _ => pe_tupN (pa_cons (pe_callB (cr_len K) (by rfl) T.b_len (by decide +kernel) (pa_cons (pv 0) pa_nil)) (pa_cons (pv 0) pa_nil)))) rfl))))) (pss_one (ps_expr (pe_cl o_shifted hr (by rfl) (pa_cons (pv 0) (pa_cons (pv 2) (pa_cons (pv 3) pa_nil)))))))) (pss_one (ps_ret (pe_dget (hu_of hr) (pv 2) (pe_tupN (pa_cons pe_int (pa_cons pe_int (pa_cons pe_int pa_nil)))) (fun _ _ => rfl)))))))), ?_⟩
  obtain ⟨av, rfl, hav⟩ := id hv
  have h26 := ok.most
  have xl : (mkS x).length ≤ sizeLine := by rw [len_mkS]; exact le_size (by omega)
  walk_at "r"
  refine use_need_sheet hv ok fun H1 s1 => ?_
  walk_at "r"
  refine use_need_text (same_sh s1 hv) ok hc hl fun H2 s2 => ?_
  walk_at "r"
  intro d G0 m0 g0 f0
  walk_at "r"
  refine r_lenS xl ?_
  rw [len_mkS]
  walk_at "r"
  intro k0 G1 m1 g1 f1
  walk_at "r"
  intro l0 G2 m2 g2 f2
  walk_at "r"
  refine r_lenS xl ?_
  rw [len_mkS]
  walk_at "r"
  intro k1 G3 m3 g3 f3
  walk_at "r"
  intro l1 G4 m4 g4 f4
  walk_at "r"
  refine r_lenS xl ?_
  rw [len_mkS]
  walk_at "r"
  intro k2 G5 m5 g5 f5
  walk_at "r"
  intro l2 G6 m6 g6 f6
  walk_at "r"
  have g26 := (g3.trans g4).trans (g5.trans g6)
  have g06 := (g1.trans g2).trans g26
  have d6 := g06 _ _ f0
  refine ⟨d6, [(stK x.length (some false), k0, .ref l0), (stK x.length none, k1, .ref l1), (stK x.length (some true), k2, .ref l2)], rfl, fun r hr => ?_, by show 3 ≤ 15; decide, fun G7 c7 d7 => ?_⟩
  · rcases List.mem_cons.mp hr with z | hr
    · rw [z]; exact g26 _ _ (g2 _ _ f1)
    · rcases List.mem_cons.mp hr with z | hr
      · rw [z]; exact g6 _ _ (g5 _ _ (g4 _ _ f3))
      · rw [List.mem_singleton.mp hr]; exact g6 _ _ f5
  walk_at "r"
  have s02 : Same H G0 := (s1.trans s2).trans g0
  have s06 : Same H G6 := s02.trans g06
  have dH : H d = none := (s1.trans s2).free m0
  have b7 : ButL [d] H G7 := (ButL.of_same (l := [d]) s06).but c7 (by simp)
  have t7 : LamX.Tabs TTs G7 := tabs_but (tabs_same hT s06) c7 d6 (fun _ z => nomatch z) (fun q z => by unfold LamX.CodeO at z; cases z)
  have nl : ∀ {a xs}, G6 a = some (HO.lst xs) → a ≠ d := fun e => ne_of e d6 (fun z => nomatch z)
  have fr : ∀ {Gx : Hp} {a : Addr}, ButL [d] H Gx → Fresh Gx a → Fresh H a := fun {Gx a} b f o e => by
    refine Classical.byContradiction fun n => ?_
    refine n (f o (b a o ?_ e fun ps z => n ⟨ps, z⟩))
    simpa using ne_of_none e dH
  have fr0 : ∀ {Gx : Hp} {a : Addr}, ButL [d] H Gx → Gx a = none → Fresh H a := fun b e => fr b fun o z => by rw [e] at z; cases z
  have n0 : ∀ {Gx : Hp} {a : Addr}, Same H Gx → Gx a = none → Fresh H a := fun s e o z => by rw [s _ _ z] at e; cases e
  have n0l : Fresh H l0 := n0 (s02.trans g1) m2
  have n1l : Fresh H l1 := n0 (s02.trans (g1.trans (g2.trans g3))) m4
  have n2l : Fresh H l2 := n0 (s02.trans (g1.trans (g2.trans (g3.trans (g4.trans g5))))) m6
  have dv7 : ∀ q, DV (Fresh H) G7 (mergeT [] [(stK x.length (some false), V.ref l0), (stK x.length none, V.ref l1), (stK x.length (some true), V.ref l2)]) (stK x.length q) (some []) := fun q => by
    have hk : ∀ r s : Option Bool, stK x.length r = stK x.length s → r = s := fun r s z => (stK_inj z).2
    have e : ∀ k, valV (mergeT [] [(stK x.length (some false), V.ref l0), (stK x.length none, V.ref l1), (stK x.length (some true), V.ref l2)]) k = if k = stK x.length (some true) then some (V.ref l2) else if k = stK x.length none then some (V.ref l1) else if k = stK x.length (some false) then some (V.ref l0) else none := fun k => by
      show valV (putK (putK (putK [] _ _) _ _) _ _) k = _
      rw [valV_put, valV_put, valV_put]
      rfl
    match q with
    | some true => exact ⟨_, by rw [e, if_pos rfl], l2, rfl, c7 _ _ (nl f6) f6, n2l⟩
    | none => exact ⟨_, by rw [e, if_neg (fun z => by have h := hk _ _ z; cases h), if_pos rfl], l1, rfl, c7 _ _ (nl (g6 _ _ (g5 _ _ f4))) (g6 _ _ (g5 _ _ f4)), n1l⟩
    | some false => exact ⟨_, by rw [e, if_neg (fun z => by have := hk _ _ z; cases this), if_neg (fun z => by have h := hk _ _ z; cases h), if_pos rfl], l0, rfl, c7 _ _ (nl (g26 _ _ f2)) (g26 _ _ f2), n0l⟩
  refine r_lenS xl ?_
  rw [len_mkS]
  refine f_revR (n := x.length) (by omega) (fun j σ H' => ∃ y3 y4 y5 y6 y8 kvs, σ = [some (.ref av), some (.str (mkS x)), some (.ref d), y3, y4, y5, y6, none, y8] ∧ ButL [d] H H' ∧ LamX.Tabs TTs H' ∧ H' d = some (.dT kvs) ∧ kvs.length ≤ 3 + 6 * j ∧
    ∀ p, x.length ≤ p + j → p ≤ x.length → ∀ q, DV (Fresh H) H' kvs (stK p q) (some (sh.eBest (x.drop p) q))) ?_ ?_ ?_
  · refine ⟨_, _, _, _, _, _, rfl, b7, t7, d7, length_mergeT _ _, fun p h1 h2 q => ?_⟩
    have : p = x.length := by omega
    subst this
    rw [List.drop_length]
    exact dv7 q
  · rintro j p σ G hj hp ⟨y3, y4, y5, y6, y8, kvs, rfl, bG, tG, dG, lk, hdv⟩
    have hpl : p < x.length := by omega
    have hx := getD_at hpl
    generalize x.getD p 0 = c at hx
    have hd := drop_prev hx
    have ct : sh.Can (c :: x.drop (p + 1)) := fun e hm => hc e (List.mem_of_mem_drop (i := p) (by rw [hd]; exact hm))
    walk_at "r"
    intro t0 Ga ma ga fa
    walk_at "r"
    intro t1 Gb mb gb fb
    walk_at "r"
    intro t2 Gc mc gc fc
    walk_at "r"
    intro ls Gd md gd fd
    have sd : Same G Gd := (ga.trans gb).trans (gc.trans gd)
    have hst3 : ∀ (i : Nat) x, [V.ref t0, V.ref t1, V.ref t2][i]? = some x → ∃ q a, qs[i]? = some q ∧ x = .ref a ∧ Gd a = some (.tup (stV q)) := fun i x hx => by
      match i, hx with
      | 0, hx => cases hx; exact ⟨_, t0, rfl, rfl, gd _ _ (gc _ _ (gb _ _ fa))⟩
      | 1, hx => cases hx; exact ⟨_, t1, rfl, rfl, gd _ _ (gc _ _ fb)⟩
      | 2, hx => cases hx; exact ⟨_, t2, rfl, rfl, gd _ _ fc⟩
    have dd := sd _ _ dG
    refine f_list fd (fun i σ H' => ∃ y4 y5 y6 y8 kvs', σ = [some (.ref av), some (.str (mkS x)), some (.ref d), some (.int (p : Nat)), y4, y5, y6, none, y8] ∧ ButL [d] Gd H' ∧ LamX.Tabs TTs H' ∧ H' d = some (.dT kvs') ∧ kvs'.length ≤ kvs.length + i ∧
      (∀ (i' : Nat) q, i' < i → qs[i']? = some q → DV (Fresh H) H' kvs' (stK p q) (sh.eSt (sh.eBest (x.drop (p + 1))) c q)) ∧ ∀ k, (∀ q, k ≠ stK p q) → valV kvs' k = valV kvs k)
      ⟨_, _, _, _, kvs, rfl, ButL.refl _ _, tabs_same tG sd, dd, Nat.le_refl _, fun i' q h => absurd h (Nat.not_lt_zero _), fun k _ => rfl⟩ (fun i σ H' _ ⟨_, _, _, _, _, _, b, _⟩ => b.lst fd (by simpa using ne_of fd dd (fun z => nomatch z))) (fun i x' σ Ge hx' => ?_) ?_
    · rintro ⟨y4, y5, y6, y8, kvs', rfl, be, te, de, le, hdone, hrest⟩
      obtain ⟨q, a, hq, rfl, ha3⟩ := hst3 i x' hx'
      have hi3 : i < 3 := (List.getElem?_eq_some_iff.mp hx').1
      have ha := be.tup ha3 (by simpa using ne_of ha3 dd (fun z => nomatch z))
      have bHe : ButL [d] H Ge := (bG.same sd).trans be
      have have' : Ge av = some (.tup [.str (mkS sh.zero), .str (mkS sh.one), hV sh.home]) := bHe.tup hav (by simpa using ne_of_none hav dH)
      have nextdv : ∀ q, DV (Fresh H) Ge kvs' (stK (p + 1) q) (some (sh.eBest (x.drop (p + 1)) q)) := fun q' =>
        (hdv (p + 1) (by omega) (by omega) q').to (((ButL.of_same (l := [d]) sd)).trans be) (fun b xs e => by simpa using ne_of e dG (fun z => nomatch z)) (hrest _ fun q2 z => by have := (stK_inj z).1; omega)
      walk_at "r"
      intro sm Gf mf gf ff
      walk_at "r"
      refine r_lenS (by rw [len_mkS]; exact le_size (by omega)) ?_
      rw [len_mkS]
      have hlen : sh.zero.length = sh.n := rfl
      have de' : Gf d = some (.dT kvs') := gf _ _ de
      have smd : sm ≠ d := (ne_of_none de mf).symm
      refine f_range1 (by omega) (by omega) (fun k σ H' => ∃ y6 y8 L, σ = [some (.ref av), some (.str (mkS x)), some (.ref d), some (.int (p : Nat)), some (.ref a), some (.ref sm), y6, none, y8] ∧ ButL [sm] Gf H' ∧ LamX.Tabs TTs H' ∧ H' sm = some (.lst (L.map fun r : Addr × List Nat => V.ref r.1)) ∧
        L.map (·.2) = (match sh.eCode c q with | none => [] | some j => if j < k then [j :: sh.eBest (x.drop (p + 1)) (sh.eBehind j q)] else []) ∧ ∀ r ∈ L, H' r.1 = some (.lst (natsV r.2)) ∧ Fresh H r.1 ∧ r.1 ≠ sm) ⟨_, _, [], rfl, ButL.refl _ _, tabs_same te gf, ff, ?_, fun r hr => nomatch hr⟩ ?_ ?_
      · cases sh.eCode c q with
        | none => rfl
        | some j => exact (if_neg (Nat.not_lt_zero j)).symm
      · rintro k σ Gg hk ⟨y6, y8, L, rfl, bg, tg, eg, el, hL⟩
        have hkn : k < sh.n := by omega
        have avg := bg.tup (gf _ _ have') (by simpa using ne_of (gf _ _ have') ff (fun z => nomatch z))
        have ag := bg.tup (gf _ _ ha) (by simpa using ne_of (gf _ _ ha) ff (fun z => nomatch z))
        have dg := bg.dT de' (by simpa using smd.symm)
        have hsig : ∀ b : Bool, (sh.signs b).length ≤ 100000 := fun b => by rw [Sh.signs_len ok]; unfold Sh.n; omega
        walk_at "r"
        refine c_tup (fun i => ((stB q).take i |>.filter fun b => !decide (sh.sign k b = c)).map setV) ag (by rw [stV_B]; cases q <;> simp [stB]) rfl (fun i => by rw [List.length_map]; exact Nat.le_trans (List.length_filter_le _ _) (by rw [List.length_take]; exact Nat.min_le_left _ _)) (fun i y G' hy s Ky Kn hyes hno => ?_) (fun D Gh mh gh fh => ?_)
        · obtain ⟨b, hb, rfl⟩ : ∃ b, (stB q)[i]? = some b ∧ y = setV b := by
            rw [stV_B, List.getElem?_map] at hy
            cases e : (stB q)[i]? with
            | none => rw [e] at hy; cases hy
            | some b => rw [e] at hy; exact ⟨b, rfl, (Option.some.inj hy).symm⟩
          have av' := s _ _ avg
          walk_at "r"
          refine ⟨rfl, ?_⟩
          walk_at "r"
          refine r_ixSh ⟨av, rfl, av'⟩ ?_
          walk_at "r"
          refine r_ixC (Sh.sign_at ok hkn) (hsig b) ?_
          walk_at "r"
          refine r_ixC hx (by omega) ?_
          walk_at "r"
          rw [mkS_one]
          refine w_nd (fun h => ?_) (fun h => ?_)
          · walk_at "r"
            exact hyes _ _ (Same.refl _) (by dsimp only; rw [take_snoc hb, List.filter_append, List.map_append]; congr 1; rw [List.filter_cons, decide_eq_false h]; rfl)
          · exact hno _ (Same.refl _) (by dsimp only; rw [take_snoc hb, List.filter_append, List.map_append, List.filter_cons, decide_eq_true h]; simp)
        · have ltq : (stV q).length = 2 := by cases q <;> rfl
          have tkq : (stB q).take 2 = stB q := by cases q <;> rfl
          rw [ltq, tkq] at fh
          walk_at "r"
          intro D2 Gi mi gi fi
          have fh' : Gi D = some (.lst ((((stB q).filter fun b => !decide (sh.sign k b = c)).map fun b => ((b2n b : Nat) : Int)).map V.int)) := by
            rw [gi _ _ fh, List.map_map]
            rfl
          refine r_eqLI0 fh' fi ?_
          have ghi := gh.trans gi
          have eq0 : decide ((((stB q).filter fun b => !decide (sh.sign k b = c)).map fun b => ((b2n b : Nat) : Int)) = []) = decide (sh.eCode c q = some k) := by
            have := eCode_iff ok (c := c) hkn q
            by_cases h : sh.eCode c q = some k
            · rw [decide_eq_true h, decide_eq_true (by rw [this.mpr h]; rfl)]
            · rw [decide_eq_false h, decide_eq_false fun z => h (this.mp (List.map_eq_nil_iff.mp z))]
          rw [eq0]
          walk_at "r"
          refine w_dec (fun h => ?_) (fun h => ?_)
          · walk_at "r"
            refine c_tup (fun i => ((stB q).take i).map fun b => setV (sh.behind k b)) (ghi _ _ ag) (by rw [stV_B]; cases q <;> simp [stB]) rfl (fun i => by rw [List.length_map, List.length_take]; exact Nat.min_le_left _ _) (fun i y G' hy s Ky Kn hyes hno => ?_) (fun D3 Gj mj gj fj => ?_)
            · obtain ⟨b, hb, rfl⟩ : ∃ b, (stB q)[i]? = some b ∧ y = setV b := by
                rw [stV_B, List.getElem?_map] at hy
                cases e : (stB q)[i]? with
                | none => rw [e] at hy; cases hy
                | some b => rw [e] at hy; exact ⟨b, rfl, (Option.some.inj hy).symm⟩
              have av' := s _ _ (ghi _ _ avg)
              walk_at "r"
              refine ⟨rfl, ?_⟩
              walk_at "r"
              refine use_set_behind ⟨av, rfl, av'⟩ ok (by omega) ?_
              exact hyes _ _ (Same.refl _) (by dsimp only; rw [take_snoc hb, List.map_append]; rfl)
            · rw [ltq, tkq] at fj
              walk_at "r"
              have fj' : Gj D3 = some (.lst (((stB q).map fun b => ((b2n (sh.behind k b) : Nat) : Int)).map V.int)) := by
                rw [fj, List.map_map]
                rfl
              refine r_sorted fj' (by rw [List.length_map]; cases q <;> simp [stB]) fun ns' pns ons lt Gk mk gk fk => ?_
              rw [later_is hkn q pns ons] at fk
              obtain ⟨b0, b1, e01⟩ := stV_two (sh.eBehind k q)
              rw [e01] at fk
              walk_at "r"
              intro lc Gl ml gl fl
              walk_at "r"
              intro kn Gm mm gm fm
              have fm' : Gm kn = some (.tup ((stK (p + 1) (sh.eBehind k q)).map kV)) := by
                rw [fm, stK_V, e01, show ((p + 1 : Nat) : Int) = (p : Int) + 1 by omega]
              have ghl := ((ghi.trans gj).trans gk).trans gl
              have ghm := ghl.trans gm
              obtain ⟨v1, ev1, a1, rfl, ea1, fa1⟩ := nextdv (sh.eBehind k q)
              refine r_getT (.of (ghm _ _ dg)) fm' ev1 ?_
              have a1s : a1 ≠ sm := ne_of_none ea1 mf
              have ea1g := bg.lst (gf _ _ ea1) (by simpa using a1s)
              have cant : sh.Can (x.drop (p + 1)) := fun e hm => ct e (List.mem_cons_of_mem _ hm)
              have dl : (x.drop (p + 1)).length ≤ 32 := by rw [List.length_drop]; omega
              have bl := Sh.eBest_len (s := sh) (x.drop (p + 1)) (sh.eBehind k q) cant (by omega)
              have cl := sh.eC_le (x.drop (p + 1)) (sh.eBehind k q) cant
              refine r_addL (gm _ _ fl) (ghm _ _ ea1g) (by unfold natsV; rw [List.length_map]; exact le_size (by show 1 + _ ≤ _; omega)) fun l2 Gn mn gn fn => ?_
              walk_at "r"
              have em := ghm _ _ eg
              have en := gn _ _ em
              have le1 : L.length ≤ 1 := by
                have := congrArg List.length el
                rw [List.length_map] at this
                rw [this]
                repeat' split
                all_goals first | exact Nat.le_refl 1 | exact Nat.zero_le 1
              refine r_app en (by rw [List.length_map]; exact lt_size (by omega)) fun Go ko eo => ?_
              have ne2 : l2 ≠ sm := (ne_of_none em mn).symm
              refine ⟨_, _, L ++ [(l2, k :: sh.eBest (x.drop (p + 1)) (sh.eBehind k q))], rfl, ((bg.same ghm).same gn).but ko (by simp), tabs_but (tabs_same tg (ghm.trans gn)) ko en (fun _ z => nomatch z) (fun q z => by unfold LamX.CodeO at z; cases z), ?_, ?_, fun r hr => ?_⟩
              · rw [eo, List.map_append]
                rfl
              · rw [List.map_append, el, h]
                dsimp only
                rw [if_neg (Nat.lt_irrefl k), if_pos (Nat.lt_succ_self k)]
                rfl
              · rcases List.mem_append.mp hr with hr | hr
                · obtain ⟨h1, h2, h3⟩ := hL r hr
                  exact ⟨ko _ _ h3 (gn _ _ (ghm _ _ h1)), h2, h3⟩
                · rw [List.mem_singleton.mp hr]
                  refine ⟨ko _ _ ne2 fn, ?_, ne2⟩
                  refine fresh_of (l := [d, sm]) (((bHe.same gf).mono (by simp)).trans ((bg.mono (by simp)).same ghm)) mn fun c hc => ?_
                  rcases List.mem_cons.mp hc with z | z
                  · rw [z, ghm _ _ dg]; exact fun z => nomatch z
                  · rw [List.mem_singleton.mp z, em]; exact fun z => nomatch z
          · walk_at "r"
            refine ⟨_, _, L, rfl, bg.same ghi, tabs_same tg ghi, ghi _ _ eg, ?_, fun r hr => ?_⟩
            · rw [el]
              cases e : sh.eCode c q with
              | none => rfl
              | some j =>
                have hjk : j ≠ k := fun z => h (by rw [e, z])
                dsimp only
                by_cases hlt : j < k
                · rw [if_pos hlt, if_pos (by omega)]
                · rw [if_neg hlt, if_neg (by omega)]
            · obtain ⟨h1, h2, h3⟩ := hL r hr
              exact ⟨ghi _ _ h1, h2, h3⟩
      · rintro σ Gg ⟨y6, y8, L, rfl, bg, tg, eg, el, hL⟩
        have el2 : L.map (·.2) = (sh.eSt (sh.eBest (x.drop (p + 1))) c q).toList := by
          rw [el]
          unfold Sh.eSt
          cases e : sh.eCode c q with
          | none => rfl
          | some j =>
            have := Sh.eCode_lt ok e
            dsimp only
            rw [if_pos (by rw [Int.toNat_natCast]; exact this)]
            rfl
        have ag := bg.tup (gf _ _ ha) (by simpa using ne_of (gf _ _ ha) ff (fun z => nomatch z))
        have dg := bg.dT de' (by simpa using smd.symm)
        have cant : sh.Can (x.drop (p + 1)) := fun e hm => ct e (List.mem_cons_of_mem _ hm)
        have dl : (x.drop (p + 1)).length ≤ 32 := by rw [List.length_drop]; omega
        have stlen : ∀ t, sh.eSt (sh.eBest (x.drop (p + 1))) c q = some t → t.length ≤ 1000 := fun t e => by
          unfold Sh.eSt at e
          obtain ⟨j, _, rfl⟩ := Option.map_eq_some_iff.mp e
          have bl := Sh.eBest_len (s := sh) (x.drop (p + 1)) (sh.eBehind j q) cant (by omega)
          have cl := sh.eC_le (x.drop (p + 1)) (sh.eBehind j q) cant
          rw [List.length_cons]
          omega
        walk_at "r"
        refine ⟨sm, L, rfl, eg, fun r hr => ?_, tg, fun e G2 x2 tb2 => ?_, fun pp hpp hk2 G2 x2 tb2 => ?_⟩
        · obtain ⟨h1, h2, h3⟩ := hL r hr
          have hm : r.2 ∈ (sh.eSt (sh.eBest (x.drop (p + 1))) c q).toList := by rw [← el2]; exact List.mem_map.mpr ⟨r, hr, rfl⟩
          have := stlen r.2 (Option.mem_toList.mp hm)
          exact ⟨h1, by omega⟩
        · have dv : DV1 (Fresh H) G2 .non (sh.eSt (sh.eBest (x.drop (p + 1))) c q) := by
            rw [e] at el2
            cases es : sh.eSt (sh.eBest (x.drop (p + 1))) c q with
            | none => exact rfl
            | some t => rw [es] at el2; cases el2
          walk_at "r"
          intro tp G3 m3' g3' f3'
          walk_at "r"
          have a2 := ext_tup x2 ag
          refine r_addU f3' (g3' _ _ a2) (by simp) (by cases q <;> simp [stV]) (le_size (by cases q <;> simp [stV])) fun tk G4 m4' g4' f4' => ?_
          have f4k : G4 tk = some (.tup ((stK p q).map kV)) := by rw [f4', stK_V]; rfl
          have g34 := g3'.trans g4'
          have d4 := g34 _ _ (ext_dT x2 dg)
          refine r_putT d4 f4k (by omega) fun G5 k5 e5 => ?_
          have dv5 := (dv.same g34).dict k5 d4 (fun _ z => nomatch z)
          have b5 : ButL [d] Ge G5 := (((((ButL.refl [d] Ge).newL gf bg mf)).ext x2).same g34).but k5 (by simp)
          refine ⟨_, _, _, _, _, rfl, be.trans b5, tabs_but (tabs_same tb2 g34) k5 d4 (fun _ z => nomatch z) (fun q z => by unfold LamX.CodeO at z; cases z), e5, ?_, fun i' r hi' hr => ?_, fun k hk => ?_⟩
          · refine Nat.le_trans (length_putK _ _ _) ?_
            omega
          · by_cases e : i' = i
            · subst e
              rw [hq] at hr
              cases hr
              exact ⟨_, by rw [valV_put, if_pos rfl], dv5⟩
            · have hne : stK p r ≠ stK p q := fun z => by
                obtain ⟨_, rfl⟩ := stK_inj z
                exact e (qs_inj hr hq)
              exact (hdone i' r (by omega) hr).to b5 (fun b xs e => by simpa using ne_of e de (fun z => nomatch z)) (by rw [valV_put, if_neg hne])
          · rw [valV_put, if_neg (hk q)]
            exact hrest k hk
        · have dv : DV1 (Fresh H) G2 (.ref pp.1) (sh.eSt (sh.eBest (x.drop (p + 1))) c q) := by
            obtain ⟨h1, h2, h3⟩ := hL pp hpp
            cases es : sh.eSt (sh.eBest (x.drop (p + 1))) c q with
            | none =>
              rw [es] at el2
              have : L = [] := List.map_eq_nil_iff.mp el2
              rw [this] at hpp
              cases hpp
            | some t =>
              rw [es] at el2
              have : pp.2 = t := by
                have : pp.2 ∈ [t] := by rw [show [t] = L.map (·.2) from el2.symm]; exact List.mem_map.mpr ⟨pp, hpp, rfl⟩
                exact List.mem_singleton.mp this
              exact ⟨pp.1, rfl, by rw [← this]; exact ext_lst x2 h1, h2⟩
          walk_at "r"
          intro tp G3 m3' g3' f3'
          walk_at "r"
          have a2 := ext_tup x2 ag
          refine r_addU f3' (g3' _ _ a2) (by simp) (by cases q <;> simp [stV]) (le_size (by cases q <;> simp [stV])) fun tk G4 m4' g4' f4' => ?_
          have f4k : G4 tk = some (.tup ((stK p q).map kV)) := by rw [f4', stK_V]; rfl
          have g34 := g3'.trans g4'
          have d4 := g34 _ _ (ext_dT x2 dg)
          refine r_putT d4 f4k (by omega) fun G5 k5 e5 => ?_
          have dv5 := (dv.same g34).dict k5 d4 (fun _ z => nomatch z)
          have b5 : ButL [d] Ge G5 := (((((ButL.refl [d] Ge).newL gf bg mf)).ext x2).same g34).but k5 (by simp)
          refine ⟨_, _, _, _, _, rfl, be.trans b5, tabs_but (tabs_same tb2 g34) k5 d4 (fun _ z => nomatch z) (fun q z => by unfold LamX.CodeO at z; cases z), e5, ?_, fun i' r hi' hr => ?_, fun k hk => ?_⟩
          · refine Nat.le_trans (length_putK _ _ _) ?_
            omega
          · by_cases e : i' = i
            · subst e
              rw [hq] at hr
              cases hr
              exact ⟨_, by rw [valV_put, if_pos rfl], dv5⟩
            · have hne : stK p r ≠ stK p q := fun z => by
                obtain ⟨_, rfl⟩ := stK_inj z
                exact e (qs_inj hr hq)
              exact (hdone i' r (by omega) hr).to b5 (fun b xs e => by simpa using ne_of e de (fun z => nomatch z)) (by rw [valV_put, if_neg hne])
          · rw [valV_put, if_neg (hk q)]
            exact hrest k hk
    · rintro σ Ge ⟨y4, y5, y6, y8, kvs', rfl, be, te, de, le, hdone, hrest⟩
      have bHe : ButL [d] H Ge := (bG.same sd).trans be
      have have' : Ge av = some (.tup [.str (mkS sh.zero), .str (mkS sh.one), hV sh.home]) := bHe.tup hav (by simpa using ne_of_none hav dH)
      have cant : sh.Can (x.drop (p + 1)) := fun e hm => ct e (List.mem_cons_of_mem _ hm)
      have dl : (x.drop (p + 1)).length ≤ 32 := by rw [List.length_drop]; omega
      have le : kvs'.length ≤ kvs.length + 3 := le
      walk_at "r"
      refine use_shifted (sh := sh) (N := Fresh H) (st := fun q => sh.eSt (sh.eBest (x.drop (p + 1))) c q) ⟨av, rfl, have'⟩ ok de (by omega) (fun a fa => fr bHe fa) (fun q => ?_) (fun q t e => ?_) ?_ te fun Gf kvs2 b2 t2 d2 l2 h2 hr2 => ?_
      · obtain ⟨i', hi'⟩ := qs_all q
        exact hdone i' q (List.getElem?_eq_some_iff.mp hi').1 hi'
      · unfold Sh.eSt at e
        obtain ⟨j, _, rfl⟩ := Option.map_eq_some_iff.mp e
        have bl := Sh.eBest_len (s := sh) (x.drop (p + 1)) (sh.eBehind j q) cant (by omega)
        have cl := sh.eC_le (x.drop (p + 1)) (sh.eBehind j q) cant
        rw [List.length_cons]
        omega
      · unfold Sh.eSt
        rw [Option.isSome_map, Option.isSome_map]
        cases e : sh.code c false with
        | some k => exact .inl (by show (sh.code c false).isSome = true; rw [e]; rfl)
        | none =>
          obtain ⟨k, hk⟩ := Sh.can_code ct List.mem_cons_self false e
          exact .inr (by show (sh.code c true).isSome = true; rw [show sh.code c true = some k from hk]; rfl)
      · walk_at "r"
        refine ⟨_, _, _, _, _, kvs2, rfl, bHe.trans b2, t2, d2, by omega, fun p' hp1 hp2 q => ?_⟩
        by_cases hpp : p' = p
        · subst hpp
          rw [hd, Sh.eBest_cons]
          have := h2 q
          have ea : sh.allS (fun q => sh.eSt (sh.eBest (x.drop (p' + 1))) c q) q = sh.eAll (sh.eBest (x.drop (p' + 1))) c q := rfl
          rw [ea] at this
          obtain ⟨a, ha⟩ := kMinL_ne (Sh.eAll_ne (best := sh.eBest (x.drop (p' + 1))) ct q)
          rw [ha] at this ⊢
          exact this
        · have ne : ∀ q2, stK p' q ≠ stK p q2 := fun q2 z => hpp (stK_inj z).1
          refine (hdv p' (by omega) hp2 q).to ((((ButL.of_same (l := [d]) sd)).trans be).trans b2) (fun b xs e => by simpa using ne_of e dG (fun z => nomatch z)) ?_
          rw [hr2 _ ne, hrest _ ne]
  · rintro σ G ⟨y3, y4, y5, y6, y8, kvs, rfl, bG, tG, dG, lk, hdv⟩
    walk_at "r"
    intro k9 G9 m9 g9 f9
    obtain ⟨v, hv1, a, rfl, ha, hf⟩ := hdv 0 (by omega) (by omega) none
    refine r_getT (k := stK 0 none) (.of (g9 _ _ dG)) f9 hv1 ?_
    refine q a G9 hf (ext_of_nil fun b o hb e n => g9 _ _ (bG b o (by simpa using ne_of_none e dH) e n)) (tabs_same tG g9) (g9 _ _ ha)

namespace Sh
/-- the shortest is the first of all -/
theorem short_best {s : Sh} (ok : s.Ok) : ∀ (x : List Nat) (b : Bool), s.Can x → x.length ≤ 300 → s.eBest x (some b) = s.short x b
  | [], _, _, _ => rfl
  | c :: t, b, h, hl => by
    have ht : s.Can t := fun d hd => h d (List.mem_cons_of_mem _ hd)
    rw [List.length_cons] at hl
    have ih := fun d => short_best ok t d ht (by omega)
    have len : ∀ d, (s.eBest t (some d)).length = s.cost t d := fun d => by rw [ih]; exact (short_all ok t d ht (by omega)).2.2
    have key : s.short (c :: t) b ∈ s.eAll (s.eBest t) c (some b) ∧ ∀ u ∈ s.eAll (s.eBest t) c (some b), kLe (s.short (c :: t) b) u := by
      have cc := s.cost_cons c t b
      cases e : s.good c t b with
      | some k =>
        obtain ⟨ek, hg⟩ := good_some e
        have hk := code_lt ok ek
        rw [short_good e, ← ih]
        refine ⟨mem_eAll.mpr (.inl ⟨k, ek, rfl⟩), fun u hu => ?_⟩
        rcases mem_eAll.mp hu with ⟨j, ej, rfl⟩ | ⟨d, j, ej, rfl⟩
        · have ej : s.code c b = some j := ej
          rw [ek] at ej
          cases ej
          exact kLe_refl _
        · refine kLe_first ?_ (by omega)
          rw [List.length_cons, len, len]
          by_cases hd : d = b
          · subst hd
            rw [ek] at ej
            cases ej
            omega
          · have : d = (!b) := by cases d <;> cases b <;> first | rfl | exact absurd rfl hd
            subst this
            rw [st_some ej] at cc
            omega
      | none =>
        obtain ⟨k, hk, hg, hc⟩ := good_none h (by omega) e
        have hg2 := (good_some hg).2
        rw [short_wait h (by omega) e, short_good hg, ← ih]
        refine ⟨mem_eAll.mpr (.inr ⟨!b, k, hk, rfl⟩), fun u hu => ?_⟩
        have far : ∀ j, s.code c b = some j → s.cost (c :: t) b < 1 + s.cost t (s.behind j b) := fun j ej => by
          have h1 : s.cost (c :: t) b ≤ 1 + s.cost t (s.behind j b) := by rw [st_some ej] at cc; omega
          have h2 : ¬ 1 + s.cost t (s.behind j b) = s.cost (c :: t) b := fun z => by
            unfold good at e
            rw [ej] at e
            dsimp only at e
            rw [if_pos z] at e
            cases e
          omega
        rcases mem_eAll.mp hu with ⟨j, ej, rfl⟩ | ⟨d, j, ej, rfl⟩
        · have := far j ej
          refine kLe_lt ?_
          show (s.eBest t (some (s.behind k (!b)))).length + 1 + 1 < (s.eBest t (some (s.behind j b))).length + 1
          rw [len, len]
          omega
        · by_cases hd : d = b
          · subst hd
            have := far j ej
            refine kLe_lt ?_
            show (s.eBest t (some (s.behind k (!d)))).length + 1 + 1 < (s.eBest t (some (s.behind j d))).length + 1 + 1
            rw [len, len]
            omega
          · have : d = (!b) := by cases d <;> cases b <;> first | rfl | exact absurd rfl hd
            subst this
            rw [hk] at ej
            cases ej
            exact kLe_refl _
    rw [eBest_cons, kMinL_is key.1 key.2]
    rfl
/-! ### all tapes gone through by their length, then as lists ascend -/
def ends (s : Sh) (bs : List Bool) (u : List Nat) : List (List Nat × Bool) := bs.map fun b => (s.txt u b, s.last u b)
def Fits (s : Sh) (x : List Nat) (bs : List Bool) (u : List Nat) : Prop := ∀ b ∈ bs, s.txt u b <+: x
def Whole (s : Sh) (x : List Nat) (bs : List Bool) (u : List Nat) : Prop := ∀ b ∈ bs, s.txt u b = x
/-- the ends behind one code more -/
def endN (s : Sh) (c : Nat) (e : List Nat × Bool) : List Nat × Bool := (e.1 ++ (if s.n ≤ c then [] else [s.sign c e.2]), s.behind c e.2)
theorem ends_snoc (s : Sh) (bs : List Bool) (u : List Nat) (c : Nat) : s.ends bs (u ++ [c]) = (s.ends bs u).map (s.endN c) := by
  unfold ends
  rw [List.map_map]
  refine List.map_congr_left fun b _ => ?_
  show (s.txt (u ++ [c]) b, s.last (u ++ [c]) b) = _
  rw [txt_app, last_app]
  show (_ ++ ((if s.n ≤ c then [] else [s.sign c _]) ++ []), _) = _
  rw [List.append_nil]
  rfl
theorem ends_fits {s : Sh} {x : List Nat} {bs : List Bool} {u v : List Nat} (h : s.ends bs u = s.ends bs v) : s.Fits x bs u ↔ s.Fits x bs v := by
  have h' := fun b hb => List.map_inj_left.mp h b hb
  unfold Fits
  exact ⟨fun z b hb => by rw [← (Prod.mk.inj (h' b hb)).1]; exact z b hb, fun z b hb => by rw [(Prod.mk.inj (h' b hb)).1]; exact z b hb⟩
theorem ends_whole {s : Sh} {x : List Nat} {bs : List Bool} {u v : List Nat} (h : s.ends bs u = s.ends bs v) : s.Whole x bs u ↔ s.Whole x bs v := by
  have h' := fun b hb => List.map_inj_left.mp h b hb
  unfold Whole
  exact ⟨fun z b hb => by rw [← (Prod.mk.inj (h' b hb)).1]; exact z b hb, fun z b hb => by rw [(Prod.mk.inj (h' b hb)).1]; exact z b hb⟩
theorem fits_front {s : Sh} {x : List Nat} {bs : List Bool} {u : List Nat} {c : Nat} (h : s.Fits x bs (u ++ [c])) : s.Fits x bs u := fun b hb => by
  have := h b hb
  rw [txt_app] at this
  exact List.IsPrefix.trans (List.prefix_append _ _) this
theorem whole_fits {s : Sh} {x : List Nat} {bs : List Bool} {u : List Nat} (h : s.Whole x bs u) : s.Fits x bs u := fun b hb => by rw [h b hb]; exact List.prefix_refl _
/-- a level -/
structure Lev (s : Sh) (x : List Nat) (bs : List Bool) (k : Nat) (L : List (List Nat)) : Prop where
  len : ∀ t ∈ L, t.length = k ∧ s.Codes t ∧ s.Fits x bs t
  all : ∀ u, u.length = k → s.Codes u → s.Fits x bs u → ∃ t ∈ L, s.ends bs t = s.ends bs u ∧ lexN u t = false
  ord : L.Pairwise fun a b => lexN a b = true
theorem lev0 (s : Sh) (x : List Nat) (bs : List Bool) : s.Lev x bs 0 [[]] :=
  ⟨fun t ht => by rw [List.mem_singleton.mp ht]; exact ⟨rfl, fun c hc => (nomatch hc), fun b _ => List.nil_prefix⟩, fun u hu _ _ => ⟨[], List.mem_singleton.mpr rfl, by rw [List.length_eq_zero_iff.mp hu], by rw [List.length_eq_zero_iff.mp hu]; rfl⟩, List.pairwise_singleton _ _⟩
end Sh
theorem lexN_app : ∀ {a b : List Nat} (c d : Nat), a.length = b.length → lexN a b = true → lexN (a ++ [c]) (b ++ [d]) = true
  | [], [], _, _, _, h => by cases h
  | x :: a, y :: b, c, d, hl, h => by
    rw [lexN] at h
    show lexN (x :: (a ++ [c])) (y :: (b ++ [d])) = true
    rw [lexN]
    by_cases e : x = y
    · rw [if_pos e] at h ⊢
      exact lexN_app c d (by simpa using hl) h
    · rw [if_neg e] at h ⊢
      exact h
theorem lexN_app2 : ∀ {a b : List Nat} (c : Nat), a.length = b.length → lexN a b = false → lexN (a ++ [c]) (b ++ [c]) = false
  | [], [], c, _, _ => by rw [List.nil_append]; exact lexN_irr _
  | x :: a, y :: b, c, hl, h => by
    rw [lexN] at h
    show lexN (x :: (a ++ [c])) (y :: (b ++ [c])) = false
    rw [lexN]
    by_cases e : x = y
    · rw [if_pos e] at h ⊢
      exact lexN_app2 c (by simpa using hl) h
    · rw [if_neg e] at h ⊢
      exact h
theorem lexN_last : ∀ (a : List Nat) {c d : Nat}, c < d → lexN (a ++ [c]) (a ++ [d]) = true
  | [], c, d, h => by
    show lexN [c] [d] = true
    rw [lexN, if_neg (by omega)]
    exact decide_eq_true h
  | x :: a, c, d, h => by
    show lexN (x :: (a ++ [c])) (x :: (a ++ [d])) = true
    rw [lexN, if_pos rfl]
    exact lexN_last a h
/-- the first of each kind -/
def dedup {α β : Type} [DecidableEq β] (f : α → β) : List α → List α → List α
  | acc, [] => acc
  | acc, a :: l => dedup f (if acc.any (fun b => decide (f b = f a)) = true then acc else acc ++ [a]) l
theorem dedup_sub {α β : Type} [DecidableEq β] (f : α → β) : ∀ (l acc : List α), (dedup f acc l).Sublist (acc ++ l)
  | [], acc => by rw [dedup, List.append_nil]; exact List.Sublist.refl _
  | a :: l, acc => by
    rw [dedup]
    split
    · exact (dedup_sub f l acc).trans (List.Sublist.append (List.Sublist.refl _) (List.sublist_cons_self _ _))
    · have := dedup_sub f l (acc ++ [a])
      rwa [List.append_assoc] at this
theorem dedup_acc {α β : Type} [DecidableEq β] (f : α → β) : ∀ (l acc : List α), ∃ r, dedup f acc l = acc ++ r
  | [], acc => ⟨[], (List.append_nil _).symm⟩
  | a :: l, acc => by
    rw [dedup]
    split
    · exact dedup_acc f l acc
    · obtain ⟨r, hr⟩ := dedup_acc f l (acc ++ [a])
      exact ⟨a :: r, by rw [hr, List.append_assoc]; rfl⟩
/-- each has one of its kind that stands no later -/
theorem dedup_has {α β : Type} [DecidableEq β] (f : α → β) (R : α → α → Prop) (refl : ∀ a, R a a) : ∀ (l acc : List α), (acc ++ l).Pairwise (fun a b => R a b) → ∀ a ∈ acc ++ l, (∀ b ∈ acc, True) → ∃ b ∈ dedup f acc l, f b = f a ∧ R b a ∨ (∃ b ∈ acc, b = a) ∧ a ∈ dedup f acc l
  | l, acc, h, a, ha, _ => by
    by_cases hm : a ∈ acc
    · obtain ⟨r, hr⟩ := dedup_acc f l acc
      exact ⟨a, by rw [hr]; exact List.mem_append_left _ hm, .inl ⟨rfl, refl a⟩⟩
    · induction l generalizing acc with
      | nil => rw [List.append_nil] at ha; exact absurd ha hm
      | cons x l ih =>
        rw [dedup]
        by_cases hx : acc.any (fun b => decide (f b = f x)) = true
        · rw [if_pos hx]
          by_cases e : a = x
          · subst e
            obtain ⟨b, hb, hf⟩ := List.any_eq_true.mp hx
            have hf := of_decide_eq_true hf
            obtain ⟨r, hr⟩ := dedup_acc f l acc
            refine ⟨b, by rw [hr]; exact List.mem_append_left _ hb, .inl ⟨hf, ?_⟩⟩
            exact (List.pairwise_append.mp h).2.2 b hb a List.mem_cons_self
          · have h' : (acc ++ l).Pairwise (fun a b => R a b) := h.sublist (List.Sublist.append (List.Sublist.refl _) (List.sublist_cons_self _ _))
            refine ih acc h' ?_ (fun _ _ => True.intro) hm
            rcases List.mem_append.mp ha with z | z
            · exact absurd z hm
            · rcases List.mem_cons.mp z with z | z
              · exact absurd z e
              · exact List.mem_append_right _ z
        · rw [if_neg hx]
          by_cases e : a = x
          · subst e
            obtain ⟨r, hr⟩ := dedup_acc f l (acc ++ [a])
            exact ⟨a, by rw [hr]; exact List.mem_append_left _ (List.mem_append_right _ List.mem_cons_self), .inl ⟨rfl, refl a⟩⟩
          · have ea : (acc ++ [x]) ++ l = acc ++ x :: l := by rw [List.append_assoc]; rfl
            have := ih (acc ++ [x]) (by rw [ea]; exact h) (by rw [ea]; exact ha) (fun _ _ => True.intro) (fun z => by
              rcases List.mem_append.mp z with z | z
              · exact hm z
              · exact e (List.mem_singleton.mp z))
            obtain ⟨b, hb, z⟩ := this
            rcases z with z | ⟨⟨c, hc, rfl⟩, z2⟩
            · exact ⟨b, hb, .inl z⟩
            · exact ⟨c, z2, .inl ⟨rfl, refl c⟩⟩
theorem dedup_nodup {α β : Type} [DecidableEq β] (f : α → β) : ∀ (l acc : List α), (acc.map f).Nodup → ((dedup f acc l).map f).Nodup
  | [], acc, h => h
  | a :: l, acc, h => by
    rw [dedup]
    split
    · exact dedup_nodup f l acc h
    · rename_i hx
      refine dedup_nodup f l _ ?_
      rw [List.map_append, List.nodup_append]
      refine ⟨h, (by simp), fun y hy z hz => ?_⟩
      rintro rfl
      obtain ⟨b, hb, hf⟩ := List.mem_map.mp hy
      have hz : y = f a := List.mem_singleton.mp hz
      exact hx (List.any_eq_true.mpr ⟨b, hb, decide_eq_true (hf.trans hz)⟩)
namespace Sh
instance (s : Sh) (x : List Nat) (bs : List Bool) (u : List Nat) : Decidable (s.Fits x bs u) := by unfold Fits; infer_instance
def grow (s : Sh) (x : List Nat) (bs : List Bool) (L : List (List Nat)) : List (List Nat) := L.flatMap fun t => ((List.range (s.n + 2)).map fun c => t ++ [c]).filter fun u => decide (s.Fits x bs u)
def next (s : Sh) (x : List Nat) (bs : List Bool) (L : List (List Nat)) : List (List Nat) := dedup (s.ends bs) [] (s.grow x bs L)
theorem mem_grow {s : Sh} {x : List Nat} {bs : List Bool} {L : List (List Nat)} {u : List Nat} : u ∈ s.grow x bs L ↔ ∃ t ∈ L, ∃ c, c < s.n + 2 ∧ u = t ++ [c] ∧ s.Fits x bs u := by
  unfold grow
  rw [List.mem_flatMap]
  refine exists_congr fun t => and_congr Iff.rfl ?_
  rw [List.mem_filter, List.mem_map, decide_eq_true_iff]
  exact ⟨fun ⟨⟨c, h1, h2⟩, h3⟩ => ⟨c, List.mem_range.mp h1, h2.symm, h3⟩, fun ⟨c, h1, h2, h3⟩ => ⟨⟨c, List.mem_range.mpr h1, h2.symm⟩, h3⟩⟩
theorem grow_ord {s : Sh} {x : List Nat} {bs : List Bool} {k : Nat} : ∀ {L : List (List Nat)}, (∀ t ∈ L, t.length = k) → (L.Pairwise fun a b => lexN a b = true) → (s.grow x bs L).Pairwise fun a b => lexN a b = true
  | [], _, _ => List.Pairwise.nil
  | t :: L, hl, h => by
    obtain ⟨h1, h2⟩ := List.pairwise_cons.mp h
    have ih := grow_ord (s := s) (x := x) (bs := bs) (fun u hu => hl u (List.mem_cons_of_mem _ hu)) h2
    show (((List.range (s.n + 2)).map fun c => t ++ [c]).filter _ ++ s.grow x bs L).Pairwise _
    refine List.pairwise_append.mpr ⟨?_, ih, fun a ha b hb => ?_⟩
    · refine List.Pairwise.filter _ ?_
      rw [List.pairwise_map]
      exact List.pairwise_lt_range.imp fun {c d} hcd => lexN_last t hcd
    · obtain ⟨c, _, rfl⟩ := List.mem_map.mp (List.mem_filter.mp ha).1
      obtain ⟨t', ht', d, _, rfl, _⟩ := mem_grow.mp hb
      exact lexN_app c d ((hl t List.mem_cons_self).trans (hl t' (List.mem_cons_of_mem _ ht')).symm) (h1 t' ht')
theorem Lev.next {s : Sh} {x : List Nat} {bs : List Bool} {k : Nat} {L : List (List Nat)} (V : s.Lev x bs k L) : s.Lev x bs (k + 1) (s.next x bs L) := by
  have go := grow_ord (s := s) (x := x) (bs := bs) (fun t ht => (V.len t ht).1) V.ord
  have sub := dedup_sub (s.ends bs) (s.grow x bs L) []
  rw [List.nil_append] at sub
  refine ⟨fun t ht => ?_, fun u hu hc hf => ?_, go.sublist sub⟩
  · obtain ⟨v, hv, c, hc, rfl, hf⟩ := mem_grow.mp (sub.subset ht)
    obtain ⟨h1, h2, _⟩ := V.len v hv
    refine ⟨by rw [List.length_append, h1]; rfl, fun d hd => ?_, hf⟩
    rcases List.mem_append.mp hd with z | z
    · exact h2 d z
    · rw [List.mem_singleton.mp z]; exact hc
  · obtain ⟨v, c, rfl⟩ : ∃ v c, u = v ++ [c] := by
      have : u ≠ [] := fun z => by rw [z] at hu; cases hu
      exact ⟨_, _, (List.dropLast_concat_getLast this).symm⟩
    have hv : v.length = k := by
      rw [List.length_append] at hu
      simpa using hu
    obtain ⟨t, ht, he, hlex⟩ := V.all v hv (fun d hd => hc d (List.mem_append_left _ hd)) (fits_front hf)
    have hcn : c < s.n + 2 := hc c (List.mem_append_right _ List.mem_cons_self)
    have ee : s.ends bs (t ++ [c]) = s.ends bs (v ++ [c]) := by rw [ends_snoc, ends_snoc, he]
    have hg : t ++ [c] ∈ s.grow x bs L := mem_grow.mpr ⟨t, ht, c, hcn, rfl, (ends_fits ee).mpr hf⟩
    have lt := (V.len t ht).1
    obtain ⟨b, hb, z⟩ := dedup_has (s.ends bs) (fun a b => lexN b a = false) (fun a => lexN_irr a) (s.grow x bs L) [] (go.imp fun {a b} h => lexN_asym h) (t ++ [c]) hg (fun _ _ => True.intro)
    rcases z with ⟨z1, z2⟩ | ⟨⟨_, h, _⟩, _⟩
    · exact ⟨b, hb, z1.trans ee, lexN_trans z2 (lexN_app2 c (by omega) hlex)⟩
    · cases h
/-- the first whole one of a level, where no level ahead had one -/
theorem Lev.found {s : Sh} {x : List Nat} {bs : List Bool} {k : Nat} {L A B : List (List Nat)} {t : List Nat} (V : s.Lev x bs k L) (none : ∀ u, u.length < k → s.Codes u → ¬ s.Whole x bs u) (hL : L = A ++ t :: B) (hA : ∀ u ∈ A, ¬ s.Whole x bs u) :
    ∀ u, s.Codes u → s.Whole x bs u → kLe t u := by
  intro u hc hw
  have lt : t.length = k := (V.len t (by rw [hL]; exact List.mem_append_right _ List.mem_cons_self)).1
  by_cases h1 : u.length < k
  · exact absurd hw (none u h1 hc)
  · by_cases h2 : u.length = k
    · obtain ⟨v, hv, he, hlex⟩ := V.all u h2 hc (whole_fits hw)
      have hvw := (ends_whole he).mpr hw
      have lv := (V.len v hv).1
      have o := V.ord
      rw [hL] at hv o
      have tv : lexN v t = false := by
        rcases List.mem_append.mp hv with z | z
        · exact absurd hvw (hA v z)
        · rcases List.mem_cons.mp z with z | z
          · rw [z]; exact lexN_irr t
          · exact lexN_asym ((List.pairwise_cons.mp (List.pairwise_append.mp o).2.1).1 v z)
      unfold kLe kLt
      rw [if_pos (by omega)]
      exact lexN_trans tv hlex
    · exact kLe_lt (by omega)
/-- .. where it has none, none is so long -/
theorem Lev.none {s : Sh} {x : List Nat} {bs : List Bool} {k : Nat} {L : List (List Nat)} (V : s.Lev x bs k L) (none : ∀ u, u.length < k → s.Codes u → ¬ s.Whole x bs u) (hL : ∀ u ∈ L, ¬ s.Whole x bs u) : ∀ u, u.length < k + 1 → s.Codes u → ¬ s.Whole x bs u := fun u hu hc hw => by
  by_cases h1 : u.length < k
  · exact none u h1 hc hw
  · obtain ⟨v, hv, he, _⟩ := V.all u (by omega) hc (whole_fits hw)
    exact hL v hv ((ends_whole he).mpr hw)
end Sh

/-! ### levels of tapes as they stand -/
def EndAt (H : Hp) (c : Addr) (e : List Nat × Bool) : Prop := H c = some (.tup [.str (mkS e.1), setV e.2])
def EndsL (H : Hp) (a : Addr) (es : List (List Nat × Bool)) : Prop := ∃ l : List (Addr × (List Nat × Bool)), H a = some (.lst (l.map fun q => V.ref q.1)) ∧ l.map (·.2) = es ∧ ∀ q ∈ l, EndAt H q.1 q.2
abbrev TapE := List Nat × List (List Nat × Bool)
def ItemAt (H : Hp) (q : Addr) (u : TapE) : Prop := ∃ a b, H q = some (.tup [.ref a, .ref b]) ∧ H a = some (.lst (tapeV u.1)) ∧ EndsL H b u.2
def LevAt (H : Hp) (p : Addr) (L : List TapE) : Prop := ∃ l : List (Addr × TapE), H p = some (.lst (l.map fun q => V.ref q.1)) ∧ l.map (·.2) = L ∧ ∀ q ∈ l, ItemAt H q.1 q.2
theorem same_ends {H H' : Hp} {a : Addr} {es : List (List Nat × Bool)} (s : Same H H') (h : EndsL H a es) : EndsL H' a es := by
  obtain ⟨l, h1, h2, h3⟩ := h
  exact ⟨l, s _ _ h1, h2, fun q hq => s _ _ (h3 q hq)⟩
theorem same_item {H H' : Hp} {q : Addr} {u : TapE} (s : Same H H') (h : ItemAt H q u) : ItemAt H' q u := by
  obtain ⟨a, b, h1, h2, h3⟩ := h
  exact ⟨a, b, s _ _ h1, s _ _ h2, same_ends s h3⟩
theorem same_lev {H H' : Hp} {p : Addr} {L : List TapE} (s : Same H H') (h : LevAt H p L) : LevAt H' p L := by
  obtain ⟨l, h1, h2, h3⟩ := h
  exact ⟨l, s _ _ h1, h2, fun q hq => same_item s (h3 q hq)⟩
/-- the heap without the thing at D -/
def hid (D : Addr) (H : Hp) : Hp := fun b => if b = D then none else H b
theorem hid_out {D : Addr} {H : Hp} : Same (hid D H) H := fun b o h => by
  unfold hid at h
  split at h
  · cases h
  · exact h
theorem hid_in {D b : Addr} {H : Hp} {o : HO} (h : H b = some o) (n : b ≠ D) : hid D H b = some o := by
  unfold hid
  rw [if_neg n]
  exact h
theorem hid_new {D : Addr} {H : Hp} (n : H D = none) : Same H (hid D H) := fun b o h => hid_in h (ne_of_none h n)
theorem hid_same {D : Addr} {H H' : Hp} (s : Same H H') : Same (hid D H) (hid D H') := fun b o h => by
  unfold hid at h ⊢
  split at h
  · cases h
  · rename_i n
    rw [if_neg n]
    exact s _ _ h
theorem hid_but {D : Addr} {H H' : Hp} (s : But D H H') : Same (hid D H) (hid D H') := fun b o h => by
  unfold hid at h ⊢
  split at h
  · cases h
  · rename_i n
    rw [if_neg n]
    exact s _ _ n h
theorem endAt_but {D c : Addr} {H H' : Hp} {xs : List V} {e : List Nat × Bool} (s : But D H H') (h : H D = some (.lst xs)) (q : EndAt H c e) : EndAt H' c e := s _ _ (ne_of q h fun z => nomatch z) q
/-- ends that are picked -/
def pickE (p : List Nat × Bool → Bool) (l : List (Addr × (List Nat × Bool))) : List V := (l.filter fun q => p q.2).map fun q => V.ref q.1
def endD (e : List Nat × Bool) : PyData := .tuple [.str (mkS e.1), .int (b2n e.2 : Nat)]
theorem pickE_snoc {p : List Nat × Bool → Bool} {l : List (Addr × (List Nat × Bool))} {q : Addr × (List Nat × Bool)} : pickE p (l ++ [q]) = pickE p l ++ if p q.2 = true then [V.ref q.1] else [] := by
  unfold pickE
  rw [List.filter_append, List.map_append]
  cases h : p q.2 <;> simp [List.filter_cons, h]
theorem pickE_len {p : List Nat × Bool → Bool} {l : List (Addr × (List Nat × Bool))} {i : Nat} : (pickE p (l.take i)).length ≤ i := by
  unfold pickE
  rw [List.length_map]
  refine Nat.le_trans (List.length_filter_le _ _) ?_
  rw [List.length_take]
  exact Nat.min_le_left _ _
theorem pickE_da {H : Hp} {p : List Nat × Bool → Bool} : ∀ {l : List (Addr × (List Nat × Bool))}, (∀ q ∈ l, EndAt H q.1 q.2) → DaAll H (pickE p l) ((l.filter fun q => p q.2).map fun q => endD q.2)
  | [], _ => .nil
  | q :: l, h => by
    have ih := pickE_da (p := p) (l := l) fun q hq => h q (List.mem_cons_of_mem _ hq)
    unfold pickE at ih ⊢
    rw [List.filter_cons]
    cases e : p q.2
    · rw [if_neg (by decide)]
      exact ih
    · rw [if_pos rfl]
      exact .cons (.tup (h q List.mem_cons_self) (.cons (.str _) (.cons (.int _) .nil))) ih
theorem Sh.sign_le {s : Sh} (ok : s.Ok) (c : Nat) (b : Bool) : s.sign c b ≤ 126 := by
  unfold Sh.sign
  have all : ∀ d ∈ s.signs b, d ≤ 126 := fun d hd => by
    cases b
    · exact (ok.ok0 d hd).2
    · exact (ok.ok1 d hd).2
  rw [List.getD_eq_getElem?_getD]
  cases e : (s.signs b)[c]? with
  | none => exact Nat.zero_le _
  | some d => exact all d (List.mem_of_getElem? e)
theorem Sh.txt_le {s : Sh} (ok : s.Ok) : ∀ (t : List Nat) (b : Bool), ∀ c ∈ s.txt t b, c ≤ 126
  | [], _, c, h => nomatch h
  | d :: t, b, c, h => by
    have h : c ∈ (if s.n ≤ d then [] else [s.sign d b]) ++ s.txt t (s.behind d b) := h
    rcases List.mem_append.mp h with z | z
    · split at z
      · cases z
      · rw [List.mem_singleton.mp z]
        exact Sh.sign_le ok d b
    · exact Sh.txt_le ok t _ c z
theorem endD_lay {e : List Nat × Bool} (h : ∀ c ∈ e.1, c ≤ 126) : (endD e).canLay0 = true ∧ (endD e).depth ≤ 1 := by
  have h1 : (PyData.str (mkS e.1)).canLay0 = true := by
    show (mkS e.1).cps.all (· < 0x110000) = true
    rw [← Array.all_toList]
    refine List.all_eq_true.mpr fun c hc => ?_
    have := h c hc
    exact decide_eq_true (by omega)
  refine ⟨?_, Nat.le_refl _⟩
  show PyData.canLayAll0 [.str (mkS e.1), .int (b2n e.2 : Nat)] = true
  rw [PyData.canLayAll0, h1]
  rfl
theorem endD_flat {l : List (Addr × (List Nat × Bool))} {p : List Nat × Bool → Bool} (h : ∀ q ∈ l, ∀ c ∈ q.2.1, c ≤ 126) : ∀ d ∈ (l.filter fun q => p q.2).map fun q => endD q.2, d.canLay0 = true ∧ d.depth ≤ 1 := fun d hd => by
  obtain ⟨q, hq, rfl⟩ := List.mem_map.mp hd
  exact endD_lay (h q (List.mem_filter.mp hq).1)
theorem pick_nil {l : List (Addr × (List Nat × Bool))} {p : List Nat × Bool → Bool} : ((l.filter fun q => p q.2).map fun q => endD q.2) = [] ↔ ∀ e ∈ l.map (·.2), p e = false := by
  rw [List.map_eq_nil_iff, List.filter_eq_nil_iff]
  constructor
  · intro h e he
    obtain ⟨q, hq, rfl⟩ := List.mem_map.mp he
    cases z : p q.2
    · rfl
    · exact absurd z (h q hq)
  · intro h q hq z
    rw [h _ (List.mem_map.mpr ⟨q, hq, rfl⟩)] at z
    cases z
/-- where the refs of a list stand -/
theorem refs_at {α : Type} {l : List (Addr × α)} {i : Nat} {z : V} (h : (l.map fun q => V.ref q.1)[i]? = some z) : ∃ q, l[i]? = some q ∧ z = .ref q.1 := by
  rw [List.getElem?_map] at h
  obtain ⟨q, h1, h2⟩ := Option.map_eq_some_iff.mp h
  exact ⟨q, h1, h2.symm⟩
theorem snd_at {α β : Type} {l : List (Addr × α)} {f : β → α} {L : List β} (h : l.map (·.2) = L.map f) {i : Nat} {q : Addr × α} (hq : l[i]? = some q) : ∃ u, L[i]? = some u ∧ q.2 = f u := by
  have e : (l.map (·.2))[i]? = some q.2 := by rw [List.getElem?_map, hq]; rfl
  rw [h, List.getElem?_map] at e
  obtain ⟨u, h1, h2⟩ := Option.map_eq_some_iff.mp e
  exact ⟨u, h1, h2.symm⟩
theorem snd_len {α β : Type} {l : List (Addr × α)} {f : β → α} {L : List β} (h : l.map (·.2) = L.map f) : l.length = L.length := by
  have := congrArg List.length h
  rwa [List.length_map, List.length_map] at this
namespace Sh
def lvl (s : Sh) (bs : List Bool) (L : List (List Nat)) : List TapE := L.map fun u => (u, s.ends bs u)
def growAt (s : Sh) (x : List Nat) (bs : List Bool) (u : List Nat) (c : Nat) : List (List Nat) := ((List.range c).map fun c => u ++ [c]).filter fun u => decide (s.Fits x bs u)
theorem growAt_succ {s : Sh} {x : List Nat} {bs : List Bool} {u : List Nat} {c : Nat} : s.growAt x bs u (c + 1) = s.growAt x bs u c ++ if s.Fits x bs (u ++ [c]) then [u ++ [c]] else [] := by
  unfold growAt
  rw [List.range_succ, List.map_append, List.filter_append]
  by_cases h : s.Fits x bs (u ++ [c])
  · simp [List.filter_cons, h]
  · simp [List.filter_cons, h]
theorem grow_snoc {s : Sh} {x : List Nat} {bs : List Bool} {u : List Nat} {L : List (List Nat)} : s.grow x bs (L ++ [u]) = s.grow x bs L ++ s.growAt x bs u (s.n + 2) := by
  unfold grow growAt
  rw [List.flatMap_append]
  simp
theorem growAt_len {s : Sh} {x : List Nat} {bs : List Bool} {u : List Nat} {c : Nat} : (s.growAt x bs u c).length ≤ c := by
  unfold growAt
  refine Nat.le_trans (List.length_filter_le _ _) ?_
  rw [List.length_map, List.length_range]
  exact Nat.le_refl _
theorem grow_len {s : Sh} {x : List Nat} {bs : List Bool} : ∀ {L : List (List Nat)}, (s.grow x bs L).length ≤ L.length * (s.n + 2)
  | [] => Nat.zero_le _
  | u :: L => by
    have ih := grow_len (s := s) (x := x) (bs := bs) (L := L)
    have h := growAt_len (s := s) (x := x) (bs := bs) (u := u) (c := s.n + 2)
    show (s.growAt x bs u (s.n + 2) ++ s.grow x bs L).length ≤ _
    rw [List.length_append, List.length_cons, Nat.add_mul]
    omega
theorem fits_iff {s : Sh} {x : List Nat} {bs : List Bool} {u : List Nat} : s.Fits x bs u ↔ ∀ e ∈ s.ends bs u, (!decide (e.1 <+: x)) = false := by
  unfold Fits ends
  constructor
  · intro h e he
    obtain ⟨b, hb, rfl⟩ := List.mem_map.mp he
    rw [decide_eq_true (h b hb)]
    rfl
  · intro h b hb
    have := h _ (List.mem_map.mpr ⟨b, hb, rfl⟩)
    exact of_decide_eq_true (by simpa using this)
end Sh
def spLawGrown : Sp := fun vs H Q E => ∃ (v : V) (p : Addr) (sh : Sh) (x : List Nat) (bs : List Bool) (L : List (List Nat)), vs = [v, .str (mkS x), .ref p] ∧ (IsSh H v sh) ∧ (sh.Ok) ∧ (x.length ≤ 32) ∧ (LevAt H p (sh.lvl bs L)) ∧ (∀ u ∈ L, u.length ≤ 1000 ∧ sh.Fits x bs u) ∧ (bs.length ≤ 2) ∧ (L.length ≤ 5000) ∧ (∀ g H', H g = none → Same H H' → LevAt H' g (sh.lvl bs (sh.grow x bs L)) → Q (.ref g) H')
theorem use_law_grown {H : Hp} {Q : VK} {E : XK} {v : V} {p : Addr} {sh : Sh} {x : List Nat} {bs : List Bool} {L : List (List Nat)} (hv : IsSh H v sh) (ok : sh.Ok) (hx : x.length ≤ 32) (hL : LevAt H p (sh.lvl bs L)) (hc : ∀ u ∈ L, u.length ≤ 1000 ∧ sh.Fits x bs u) (hb : bs.length ≤ 2) (hz : L.length ≤ 5000) (q : ∀ g H', H g = none → Same H H' → LevAt H' g (sh.lvl bs (sh.grow x bs L)) → Q (.ref g) H') : spLawGrown [v, .str (mkS x), .ref p] H Q E := ⟨v, p, sh, x, bs, L, rfl, hv, ok, hx, hL, hc, hb, hz, q⟩

theorem ok__law_grown {k : Nat} (T : TX mg) (F : Df K mg "_law_grown" s__law_grown ["_law_sheet_here", "_law_text_here", "_law_tapes"]) (o__law_read : OkAt P w K mg base "_law_read" k ["_law_sheet_here", "_law_tape_here", "_law_begin"] spLawRead) : OkAt P w K mg base "_law_grown" (k + 1) ["_law_sheet_here", "_law_text_here", "_law_tapes"] spLawGrown := by
  refine F.ok sc__law_grown (fun vs H Q E h => ?_) (fun f cdv A outer s H vs Q E hr h => ?_)
  · obtain ⟨v, p, sh, x, bs, L, rfl, _⟩ := h
    rfl
  obtain ⟨v, p, sh, x, bs, L, rfl, hv, ok, hx, hL, hc, hb, hz, q⟩ := h
  refine ⟨_, (pss_cons (ps_set (i := 3) sc__law_grown.nd rfl (by first | exact Or.inl rfl | exact Or.inr rfl) (pe_lstN pa_nil)) (pss_cons (ps_for PassesOwn.never rfl (pi_listK K (pv 2)) (pg_tupK K (n := 2) rfl (pgs_cons (pg_name (i := 4) sc__law_grown.nd rfl (by first | exact Or.inl rfl | exact Or.inr rfl)) (pgs_cons (pg_name (i := 5) sc__law_grown.nd rfl (by first | exact Or.inl rfl | exact Or.inr rfl)) pgs_nil))) (pss_one (ps_for PassesOwn.never rfl (pi_range1 (by rfl) T.b_range (pa_cons (pe_op (op_uAdd K) (pe_callB (cr_len K) (by rfl) T.b_len (by decide +kernel) (pa_cons (pe_ix (ix_u K) (pv 0) pe_int (fun _ _ => rfl)) pa_nil)) pe_int) pa_nil)) (pg_name (i := 6) sc__law_grown.nd rfl (by first | exact Or.inl rfl | exact Or.inr rfl)) (pss_cons (ps_set (i := 7) sc__law_grown.nd rfl (by first | exact Or.inl rfl | exact Or.inr rfl) (pe_lstN pa_nil)) (pss_cons (ps_for PassesOwn.never rfl (pi_listK K (pv 5)) (pg_tupK K (n := 2) rfl (pgs_cons (pg_name (i := 8) sc__law_grown.nd rfl (by first | exact Or.inl rfl | exact Or.inr rfl)) (pgs_cons (pg_name (i := 9) sc__law_grown.nd rfl (by first | exact Or.inl rfl | exact Or.inr rfl)) pgs_nil))) (pss_cons (ps_asg (pe_cl o__law_read hr (by rfl) (pa_cons (pv 0) (pa_cons (pe_lstN (pa_cons (pv 6) pa_nil)) (pa_cons (pv 9) pa_nil)))) (pg_tupK K (n := 2) rfl (pgs_cons (pg_name (i := 10) sc__law_grown.nd rfl (by first | exact Or.inl rfl | exact Or.inr rfl)) (pgs_cons (pg_name (i := 9) sc__law_grown.nd rfl (by first | exact Or.inl rfl | exact Or.inr rfl)) pgs_nil)))) (pss_one (ps_expr (pe_bmK K PySem.F.plainAttrs_list PySem.F.slot_list_append PySem.F.type_list_append mt_appendN (pv 7) (pa_cons (pe_tupN (pa_cons (pe_op (op_uAdd K) (pv 8) (pv 10)) (pa_cons (pv 9) pa_nil))) pa_nil)))))) (pss_one (ps_if (pt_cmpR (op_uEq K hr.units) (pe_lc (own := [("_law_one", 11)]) (g := gName 11) rfl sc__law_grown.nd (pi_listK K (pv 7)) (blkOk_by (own := [("_law_one", 11)]) (N := ["_law_sheet_here", "_law_text_here", "_law_tapes", "_law_found", "_law_tape_here", "_law_ends", "_law_code", "_law_told", "_law_some", "_law_number", "_law_more", "_law_one"]) (sc := defScope s__law_grown) (by decide +kernel)) (fun _ _ _ _ _ => (pg_name (i := 11) sc__law_grown.nd rfl (by first | exact Or.inl rfl | exact Or.inr rfl))) (fun _ _ _ _ _ => (pts_one (pt_cmpR (op_uNe K hr.units) (pe_slice (sl_u K) (pv 1) po_none (po_some (pe_callB (cr_len K) (by rfl) T.b_len (by decide +kernel) (pa_cons (pe_ix (ix_u K) (pv 11) pe_int (fun _ _ => rfl)) pa_nil)))) (pe_ix (ix_u K) (pv 11) pe_int (fun _ _ => rfl)) (nomark _)))) (fun _ _ _ _ _ => (pv 11))) (pe_lstN pa_nil) (nomark _)) (pss_one (ps_expr (pe_bmK K PySem.F.plainAttrs_list PySem.F.slot_list_append PySem.F.type_list_append mt_appendN (pv 3) (pa_cons (pe_tupN (pa_cons (pe_op (op_uAdd K) (pv 4) (pe_lstN (pa_cons (pv 6) pa_nil))) (pa_cons (pv 7) pa_nil))) pa_nil)))) pss_nil))))))) (pss_one (ps_ret (pv 3))))), ?_⟩
  obtain ⟨av, rfl, hav⟩ := id hv
  obtain ⟨l, hp, hl, hi⟩ := id hL
  have h26 := ok.most
  walk_at "r"
  intro p1 H1 n1 s1 e1
  walk_at "r"
  refine f_list (s1 _ _ hp) (fun i σ H' => ∃ y4 y5 y6 y7 y8 y9 y10 y11, ∃ l' : List (Addr × TapE), σ = [some (.ref av), some (.str (mkS x)), some (.ref p), some (.ref p1), y4, y5, y6, y7, y8, y9, y10, y11] ∧ Same H H' ∧ H' p1 = some (.lst (l'.map fun q => V.ref q.1)) ∧
    l'.map (·.2) = sh.lvl bs (sh.grow x bs (L.take i)) ∧ ∀ q ∈ l', ItemAt (hid p1 H') q.1 q.2) ⟨_, _, _, _, _, _, _, _, [], rfl, s1, e1, rfl, fun q hq => nomatch hq⟩ (fun i σ H' _ ⟨_, _, _, _, _, _, _, _, _, _, s, _⟩ => s _ _ hp) ?_ ?_
  · rintro i z σ G hz' ⟨y4, y5, y6, y7, y8, y9, y10, y11, l', rfl, s, e, el, it⟩
    obtain ⟨q, hq, rfl⟩ := refs_at hz'
    obtain ⟨u, hu, eu⟩ := snd_at hl hq
    have itq := hi q (List.mem_of_getElem? hq)
    rw [eu] at itq
    obtain ⟨a, b, i1, i2, cs, i3, i4, i5⟩ := itq
    have i2 : H a = some (.lst (tapeV u)) := i2
    have i4 : cs.map (·.2) = sh.ends bs u := i4
    obtain ⟨hul, huf⟩ := hc u (List.mem_of_getElem? hu)
    have j1 := s _ _ i1
    have jav := s _ _ hav
    walk_at "r"
    refine r_lenS (by rw [len_mkS]; exact le_size (by omega)) ?_
    rw [len_mkS]
    walk_at "r"
    have gl0 : (sh.grow x bs (L.take i)).length ≤ 5000 * 28 := by
      refine Nat.le_trans Sh.grow_len (Nat.mul_le_mul ?_ ?_)
      · rw [List.length_take]; omega
      · unfold Sh.n; omega
    refine f_range1 (by omega) (by omega) (fun c σ H' => ∃ y6 y7 y8 y9 y10 y11, ∃ l2 : List (Addr × TapE), σ = [some (.ref av), some (.str (mkS x)), some (.ref p), some (.ref p1), some (.ref a), some (.ref b), y6, y7, y8, y9, y10, y11] ∧ Same H H' ∧ H' p1 = some (.lst (l2.map fun q => V.ref q.1)) ∧
      l2.map (·.2) = sh.lvl bs (sh.grow x bs (L.take i) ++ sh.growAt x bs u c) ∧ ∀ q ∈ l2, ItemAt (hid p1 H') q.1 q.2) ⟨_, _, _, _, _, _, l', rfl, s, e, by rw [el]; unfold Sh.growAt; simp, it⟩ ?_ ?_
    · rintro c σ G2 hcn ⟨y6, y7, y8, y9, y10, y11, l2, rfl, s2, e2, el2, it2⟩
      have hcn2 : c < sh.n + 2 := by unfold Sh.n; omega
      walk_at "r"
      intro p5 G3 n5 s3 e3
      walk_at "r"
      refine f_list (s3 _ _ (s2 _ _ i3)) (fun j σ H' => ∃ y8 y9 y10, ∃ ds : List (Addr × (List Nat × Bool)), σ = [some (.ref av), some (.str (mkS x)), some (.ref p), some (.ref p1), some (.ref a), some (.ref b), some (.int (c : Int)), some (.ref p5), y8, y9, y10, y11] ∧ Same G2 H' ∧
        H' p5 = some (.lst (ds.map fun q => V.ref q.1)) ∧ ds.map (·.2) = ((sh.ends bs u).take j).map (sh.endN c) ∧ ∀ q ∈ ds, EndAt H' q.1 q.2) ⟨_, _, _, [], rfl, s3, e3, rfl, fun q hq => nomatch hq⟩ (fun j σ H' _ ⟨_, _, _, _, _, s, _⟩ => s _ _ (s2 _ _ i3)) ?_ ?_
      · rintro j z σ G4 hz2 ⟨y8, y9, y10, ds, rfl, s4, e4, ed, hd⟩
        obtain ⟨w1, hw1, rfl⟩ := refs_at hz2
        have hew : (sh.ends bs u)[j]? = some w1.2 := by rw [← i4, List.getElem?_map, hw1]; rfl
        have ea := i5 w1 (List.mem_of_getElem? hw1)
        have ea4 := s4 _ _ (s2 _ _ ea)
        generalize hw2 : w1.2 = e0 at hew ea4
        have fl : e0.1.length ≤ 32 := by
          obtain ⟨b0, hb0, rfl⟩ := List.mem_map.mp (List.mem_of_getElem? hew)
          have := (huf b0 hb0).length_le
          show (sh.txt u b0).length ≤ 32
          omega
        have dl : ds.length ≤ 2 := by
          rw [snd_len ed, List.length_take]
          have : (sh.ends bs u).length = bs.length := List.length_map _
          omega
        walk_at "r"
        intro p6 G6 n6 s6 e6
        walk_at "r"
        refine use_law_read (t := [c]) (same_sh ((s2.trans s4).trans s6) hv) ok ⟨p6, rfl, e6⟩ (fun d hd => by rw [List.mem_singleton.mp hd]; exact hcn2) (by show 1 ≤ 10000; decide) fun p7 G7 s7 e7 => ?_
        walk_at "r"
        refine r_addS (by rw [len_mkS, len_mkS]; have := sh.txt_len [c] e0.2; exact le_size (by simp at this; omega)) ?_
        rw [mkS_app]
        walk_at "r"
        intro p8 G8 n8 s8 e8
        walk_at "r"
        have s48 := (s6.trans s7).trans s8
        have e58 := s48 _ _ e4
        refine r_app e58 (by rw [List.length_map]; exact lt_size (by omega)) fun G9 k9 e9 => ?_
        have et : (sh.ends bs u).take (j + 1) = (sh.ends bs u).take j ++ [e0] := take_snoc hew
        have n5G : G2 p5 = none := n5
        refine ⟨_, _, _, ds ++ [(p8, (e0.1 ++ sh.txt [c] e0.2, sh.last [c] e0.2))], rfl, k9.same (s4.trans s48) n5G, by rw [e9, List.map_append]; rfl, ?_, fun q hq => ?_⟩
        · rw [List.map_append, ed, et, List.map_append]
          have : sh.endN c e0 = (e0.1 ++ sh.txt [c] e0.2, sh.last [c] e0.2) := by
            show (e0.1 ++ _, _) = (e0.1 ++ ((if sh.n ≤ c then [] else [sh.sign c e0.2]) ++ []), _)
            rw [List.append_nil]
            rfl
          show _ ++ [_] = _ ++ [sh.endN c e0]
          rw [this]
        · rcases List.mem_append.mp hq with z | z
          · exact endAt_but k9 e58 (s48 _ _ (hd q z))
          · rw [List.mem_singleton.mp z]
            exact endAt_but k9 e58 e8
      · rintro σ G4 ⟨y8, y9, y10, ds, rfl, s4, e4, ed, hd⟩
        rw [List.length_map, show cs.length = (sh.ends bs u).length by rw [← i4, List.length_map], List.take_length, ← Sh.ends_snoc] at ed
        have dl : ds.length ≤ 2 := by
          have := congrArg List.length ed
          rw [List.length_map] at this
          have h2 : (sh.ends bs (u ++ [c])).length = bs.length := List.length_map _
          omega
        walk_at "r"
        refine c_list (fun i => pickE (fun e => !decide (e.1 <+: x)) (ds.take i)) e4 (by rw [List.length_map]; omega) rfl (fun i => pickE_len) (fun m z H' hz3 s5 Ky Kn hyes hno => ?_) (fun D G5 nD s5 e5 => ?_)
        · obtain ⟨q1, hq1, rfl⟩ := refs_at hz3
          have eq1 := s5 _ _ (hd q1 (List.mem_of_getElem? hq1))
          have ql : q1.2.1.length ≤ 100 := by
            have : q1.2 ∈ ds.map (·.2) := List.mem_map.mpr ⟨q1, List.mem_of_getElem? hq1, rfl⟩
            rw [ed] at this
            obtain ⟨b0, hb0, hh⟩ := List.mem_map.mp this
            rw [← hh]
            show (sh.txt (u ++ [c]) b0).length ≤ 100
            rw [sh.txt_app, List.length_append]
            have h1 := (huf b0 hb0).length_le
            have h2 := sh.txt_len [c] (sh.last u b0)
            simp at h2
            omega
          walk_at "r"
          refine ⟨rfl, ?_⟩
          walk_at "r"
          refine r_lenS (by rw [len_mkS]; exact le_size (by omega)) ?_
          rw [len_mkS]
          walk_at "r"
          refine r_slS (by rw [len_mkS]; exact le_size (by omega)) ?_
          rw [cutS_to]
          walk_at "r"
          rw [mkS_eq]
          have pz : decide (x.take q1.2.1.length = q1.2.1) = decide (q1.2.1 <+: x) := by
            by_cases h : q1.2.1 <+: x
            · rw [decide_eq_true h, decide_eq_true (List.prefix_iff_eq_take.mp h).symm]
            · rw [decide_eq_false h, decide_eq_false fun z => h (List.prefix_iff_eq_take.mpr z.symm)]
          rw [pz]
          have tk : ds.take (m + 1) = ds.take m ++ [q1] := take_snoc hq1
          cases hz : decide (q1.2.1 <+: x)
          · rw [if_pos (by decide)]
            walk_at "r"
            exact hyes _ _ (Same.refl _) (by dsimp only; rw [tk, pickE_snoc, if_pos (by rw [hz]; rfl)])
          · rw [if_neg (by decide)]
            exact hno _ (Same.refl _) (by dsimp only; rw [tk, pickE_snoc, if_neg (by rw [hz]; decide), List.append_nil])
        · rw [List.length_map, List.take_length] at e5
          walk_at "r"
          intro D2 G6 nD2 s6 e6
          have hd6 : ∀ q ∈ ds, EndAt G6 q.1 q.2 := fun q hq => s6 _ _ (s5 _ _ (hd q hq))
          have le : ∀ q ∈ ds, ∀ d ∈ q.2.1, d ≤ 126 := fun q hq d hdd => by
            have : q.2 ∈ ds.map (·.2) := List.mem_map.mpr ⟨q, hq, rfl⟩
            rw [ed] at this
            obtain ⟨b0, _, hh⟩ := List.mem_map.mp this
            rw [← hh] at hdd
            exact Sh.txt_le ok _ _ d hdd
          refine r_eqNil (s6 _ _ e5) (pickE_da hd6) (n := 1) (by decide) (endD_flat (p := fun e => !decide (e.1 <+: x)) le) e6 ?_
          walk_at "r"
          have g := (s4.trans s5).trans s6
          have l2l : l2.length ≤ 5000 * 28 + 28 := by
            rw [snd_len el2, List.length_append]
            have h1 := Sh.growAt_len (s := sh) (x := x) (bs := bs) (u := u) (c := c)
            have h2 : sh.n ≤ 26 := h26
            omega
          refine w_dec (fun hF => ?_) (fun hF => ?_)
          · have hfit : sh.Fits x bs (u ++ [c]) := Sh.fits_iff.mpr (by rw [← ed]; exact (pick_nil (p := fun e => !decide (e.1 <+: x))).mp hF)
            walk_at "r"
            intro p7 G7 n7 s7 e7
            walk_at "r"
            have g7 := g.trans s7
            refine r_addL (g7 _ _ (s2 _ _ i2)) e7 (by rw [tapeV_len]; exact le_size (by show u.length + 1 ≤ 100000; omega)) fun p8 G8 n8 s8 e8 => ?_
            walk_at "r"
            intro p9 G9 n9 s9 e9
            walk_at "r"
            have g9 := (g7.trans s8).trans s9
            refine r_app (g9 _ _ e2) (by rw [List.length_map, sizeLine_eq]; omega) fun G10 k10 e10 => ?_
            refine ⟨_, _, _, _, _, _, l2 ++ [(p9, (u ++ [c], sh.ends bs (u ++ [c])))], rfl, k10.same (s2.trans g9) n1, by rw [e10, List.map_append]; rfl, ?_, fun q hq => ?_⟩
            · rw [List.map_append, el2, Sh.growAt_succ, if_pos hfit, ← List.append_assoc]
              unfold Sh.lvl
              rw [List.map_append (l₁ := _ ++ _)]
              rfl
            · rcases List.mem_append.mp hq with z | z
              · exact same_item ((hid_same g9).trans (hid_but k10)) (it2 q z)
              · rw [List.mem_singleton.mp z]
                refine same_item (hid_but k10) ?_
                have e2G := g9 _ _ e2
                have g49 : Same G4 G9 := (((s5.trans s6).trans s7).trans s8).trans s9
                have e8' : G9 p8 = some (.lst (tapeV (u ++ [c]))) := by
                  rw [s9 _ _ e8]
                  unfold tapeV
                  rw [List.map_append]
                  rfl
                refine ⟨p8, p5, hid_in e9 (ne_of e9 e2G fun z => nomatch z), hid_in e8' (ne_of_none (g7 _ _ e2) n8).symm, ds, hid_in (g49 _ _ e4) (ne_of_none e2 n5).symm, ed, fun q hq => ?_⟩
                exact hid_in (g49 _ _ (hd q hq)) (ne_of (g49 _ _ (hd q hq)) e2G fun z => nomatch z)
          · have hnf : ¬ sh.Fits x bs (u ++ [c]) := fun z => hF ((pick_nil (p := fun e => !decide (e.1 <+: x))).mpr (by rw [ed]; exact Sh.fits_iff.mp z))
            walk_at "r"
            exact ⟨_, _, _, _, _, _, l2, rfl, s2.trans g, g _ _ e2, by rw [el2, Sh.growAt_succ, if_neg hnf, List.append_nil], fun q hq => same_item (hid_same g) (it2 q hq)⟩
    · rintro σ G2 ⟨y6, y7, y8, y9, y10, y11, l2, rfl, s2, e2, el2, it2⟩
      refine ⟨_, _, _, _, _, _, _, _, l2, rfl, s2, e2, ?_, it2⟩
      rw [el2, take_snoc hu, Sh.grow_snoc, show ((sh.zero.length : Int) + 2).toNat = sh.n + 2 by unfold Sh.n; omega]
  · rintro σ G ⟨y4, y5, y6, y7, y8, y9, y10, y11, l', rfl, s, e, el, it⟩
    rw [List.length_map, snd_len hl, List.take_length] at el
    walk_at "r"
    exact q p1 G n1 s ⟨l', e, el, fun q hq => same_item hid_out (it q hq)⟩

/-! ### how many ends there are -/
theorem nodup_le : ∀ (n : Nat) (l : List Nat), l.Nodup → (∀ a ∈ l, a < n) → l.length ≤ n
  | 0, [], _, _ => Nat.le_refl _
  | 0, a :: l, _, h => absurd (h a List.mem_cons_self) (Nat.not_lt_zero _)
  | n + 1, l, nd, h => by
    have h2 := nodup_le n (l.erase n) (nd.erase n) fun a ha => by
      have h1 := nd.mem_erase_iff.mp ha
      have := h a h1.2
      omega
    have h3 := List.length_erase (a := n) (l := l)
    split at h3 <;> omega
def codeE : List (List Nat × Bool) → Nat
  | [] => 0
  | e :: es => 2 * e.1.length + b2n e.2 + 66 * codeE es
theorem b2n_le (b : Bool) : b2n b ≤ 1 := by cases b <;> decide
theorem b2n_inj {a b : Bool} (h : b2n a = b2n b) : a = b := by cases a <;> cases b <;> first | rfl | exact absurd h (by decide)
theorem codeE_lt : ∀ es : List (List Nat × Bool), (∀ e ∈ es, e.1.length ≤ 32) → codeE es < 66 ^ es.length
  | [], _ => by decide
  | e :: es, h => by
    have ih := codeE_lt es fun e he => h e (List.mem_cons_of_mem _ he)
    have h1 := h e List.mem_cons_self
    have h2 := b2n_le e.2
    rw [codeE, List.length_cons, Nat.pow_succ]
    omega
theorem codeE_inj {x : List Nat} (hx : x.length ≤ 32) : ∀ {es fs : List (List Nat × Bool)}, es.length = fs.length → (∀ e ∈ es, e.1 <+: x) → (∀ e ∈ fs, e.1 <+: x) → codeE es = codeE fs → es = fs
  | [], [], _, _, _, _ => rfl
  | e :: es, f :: fs, hl, h1, h2, hc => by
    rw [codeE, codeE] at hc
    have p1 := h1 e List.mem_cons_self
    have p2 := h2 f List.mem_cons_self
    have l1 := p1.length_le
    have l2 := p2.length_le
    have b1 := b2n_le e.2
    have b2 := b2n_le f.2
    have hb : b2n e.2 = b2n f.2 := by omega
    have hlen : e.1.length = f.1.length := by omega
    have e1 : e.1 = f.1 := by rw [List.prefix_iff_eq_take.mp p1, List.prefix_iff_eq_take.mp p2, hlen]
    have ee : e = f := by
      obtain ⟨e1', e2'⟩ := e
      obtain ⟨f1', f2'⟩ := f
      cases e1
      cases b2n_inj hb
      rfl
    rw [ee, codeE_inj hx (by simpa using hl) (fun e he => h1 e (List.mem_cons_of_mem _ he)) (fun e he => h2 e (List.mem_cons_of_mem _ he)) (by rw [ee] at hc; omega)]
theorem dedup_snoc {α β : Type} [DecidableEq β] (f : α → β) (a : α) : ∀ (l acc : List α), dedup f acc (l ++ [a]) = if (dedup f acc l).any (fun b => decide (f b = f a)) = true then dedup f acc l else dedup f acc l ++ [a]
  | [], acc => rfl
  | c :: l, acc => by
    rw [List.cons_append, dedup, dedup]
    exact dedup_snoc f a l _
namespace Sh
theorem ends_len (s : Sh) (bs : List Bool) (u : List Nat) : (s.ends bs u).length = bs.length := List.length_map _
theorem ends_pre {s : Sh} {x : List Nat} {bs : List Bool} {u : List Nat} (h : s.Fits x bs u) : ∀ e ∈ s.ends bs u, e.1 <+: x := fun e he => by
  obtain ⟨b, hb, rfl⟩ := List.mem_map.mp he
  exact h b hb
theorem level_len {s : Sh} {x : List Nat} {bs : List Bool} {L : List (List Nat)} (hx : x.length ≤ 32) (hb : bs.length ≤ 2) (nd : (L.map (s.ends bs)).Nodup) (hf : ∀ u ∈ L, s.Fits x bs u) : L.length ≤ 4356 := by
  have h := nodup_le 4356 (L.map fun u => codeE (s.ends bs u)) ?_ ?_
  · rwa [List.length_map] at h
  · have nd : L.Pairwise fun a b => s.ends bs a ≠ s.ends bs b := List.pairwise_map.mp nd
    refine List.pairwise_map.mpr (nd.imp_of_mem fun {a b} ha hb n z => n ?_)
    exact codeE_inj hx (by rw [ends_len, ends_len]) (ends_pre (hf a ha)) (ends_pre (hf b hb)) z
  · intro a ha
    obtain ⟨u, hu, rfl⟩ := List.mem_map.mp ha
    have h := codeE_lt (s.ends bs u) fun e he => by
      have := (ends_pre (hf u hu) e he).length_le
      omega
    rw [ends_len] at h
    have : 66 ^ bs.length ≤ 66 ^ 2 := Nat.pow_le_pow_right (by decide) hb
    omega
end Sh
/-! ### the dict of a level -/
def keyE (e : List Nat × Bool) : List Key := [.inr (mkS e.1), .inl (b2n e.2 : Nat)]
theorem keyE_inj {e f : List Nat × Bool} (h : keyE e = keyE f) : e = f := by
  obtain ⟨e1, e2⟩ := e
  obtain ⟨f1, f2⟩ := f
  injection h with h1 h2
  injection h1 with h1
  injection h2 with h2 _
  injection h2 with h2
  have h1' : e1 = f1 := congrArg (fun z : Str => z.cps.toList) h1
  have h2' : ((b2n e2 : Nat) : Int) = ((b2n f2 : Nat) : Int) := h2
  rw [h1', b2n_inj (by omega : b2n e2 = b2n f2)]
theorem keyEs_inj {es fs : List (List Nat × Bool)} (h : es.map keyE = fs.map keyE) : es = fs := (List.map_inj_right fun _ _ => keyE_inj).mp h
def KeyT (H : Hp) (b : Addr) (es : List (List Nat × Bool)) : Prop := ∃ l : List (Addr × (List Nat × Bool)), H b = some (.tup (l.map fun q => V.ref q.1)) ∧ l.map (·.2) = es ∧ ∀ q ∈ l, EndAt H q.1 q.2
theorem same_keyT {H H' : Hp} {b : Addr} {es : List (List Nat × Bool)} (s : Same H H') (h : KeyT H b es) : KeyT H' b es := by
  obtain ⟨l, h1, h2, h3⟩ := h
  exact ⟨l, s _ _ h1, h2, fun q hq => s _ _ (h3 q hq)⟩
theorem paired_list {α β γ : Type} {F : β → γ → Prop} {f : α → β} {g : α → γ} : ∀ {l : List α}, (∀ q ∈ l, F (f q) (g q)) → Paired F (l.map f) (l.map g)
  | [], _ => .nil
  | q :: l, h => .cons (h q List.mem_cons_self) (paired_list fun q hq => h q (List.mem_cons_of_mem _ hq))
theorem KeyT.key {H : Hp} {b : Addr} {es : List (List Nat × Bool)} (h : KeyT H b es) : Key2 H b (es.map keyE) := by
  obtain ⟨l, h1, h2, h3⟩ := h
  refine ⟨l.map (·.1), by rw [h1, List.map_map]; rfl, ?_⟩
  rw [← h2, List.map_map]
  exact paired_list fun q hq => h3 q hq
/-- a thing that is neither a list nor a tuple -/
def Other (o : HO) : Prop := (∀ xs, o ≠ .lst xs) ∧ ∀ xs, o ≠ .tup xs
theorem other_dn {w : World} {a : Addr} {E : NEs} : Other (DN w a E) := ⟨(fun _ z => nomatch z), (fun _ z => nomatch z)⟩
theorem other_frz {o : Obj} {u : HO} : Other (.frz o u) := ⟨(fun _ z => nomatch z), (fun _ z => nomatch z)⟩
section
variable {H H' : Hp} {d : Addr} {o : HO} (k : But d H H') (h : H d = some o) (n : Other o)
include k h n
theorem but_lst {a : Addr} {xs : List V} (e : H a = some (.lst xs)) : H' a = some (.lst xs) := k _ _ (ne_of e h fun z => n.1 xs z.symm) e
theorem but_tup {a : Addr} {xs : List V} (e : H a = some (.tup xs)) : H' a = some (.tup xs) := k _ _ (ne_of e h fun z => n.2 xs z.symm) e
theorem but_keyT {b : Addr} {es : List (List Nat × Bool)} (q : KeyT H b es) : KeyT H' b es := by
  obtain ⟨l, h1, h2, h3⟩ := q
  exact ⟨l, but_tup k h n h1, h2, fun q hq => but_tup k h n (h3 q hq)⟩
theorem but_item {q : Addr} {u : TapE} (z : ItemAt H q u) : ItemAt H' q u := by
  obtain ⟨a, b, h1, h2, l, h3, h4, h5⟩ := z
  exact ⟨a, b, but_tup k h n h1, but_lst k h n h2, l, but_lst k h n h3, h4, fun q hq => but_tup k h n (h5 q hq)⟩
theorem but_lev {p : Addr} {L : List TapE} (z : LevAt H p L) : LevAt H' p L := by
  obtain ⟨l, h1, h2, h3⟩ := z
  exact ⟨l, but_lst k h n h1, h2, fun q hq => but_item k h n (h3 q hq)⟩
end
/-- a tape, its key's tuple, its list -/
abbrev Row := List Nat × Addr × Addr
def rowsE (s : Sh) (bs : List Bool) (l : List Row) : NEs := l.map fun r => ((s.ends bs r.1).map keyE, r.2.1, V.ref r.2.2)
def RowAt (s : Sh) (bs : List Bool) (H : Hp) (r : Row) : Prop := KeyT H r.2.1 (s.ends bs r.1) ∧ H r.2.2 = some (.lst (tapeV r.1))
theorem rows_k2 {s : Sh} {bs : List Bool} {H : Hp} {l : List Row} (h : ∀ r ∈ l, RowAt s bs H r) : K2s H (rowsE s bs l) := fun e he => by
  obtain ⟨r, hr, rfl⟩ := List.mem_map.mp he
  exact (h r hr).1.key
theorem rows_any {s : Sh} {bs : List Bool} {u : List Nat} : ∀ l : List Row, (valN (rowsE s bs l) ((s.ends bs u).map keyE)).isSome = (l.map (·.1)).any fun b => decide (s.ends bs b = s.ends bs u)
  | [] => rfl
  | r :: l => by
    have ih := rows_any (s := s) (bs := bs) (u := u) l
    unfold valN rowsE at ih ⊢
    rw [List.map_cons, List.map_cons, List.map_cons, List.any_cons]
    by_cases e : s.ends bs r.1 = s.ends bs u
    · rw [valV_pos (p := ((s.ends bs r.1).map keyE, V.ref r.2.2)) (by rw [e]), decide_eq_true e]
      rfl
    · rw [valV_neg (p := ((s.ends bs r.1).map keyE, V.ref r.2.2)) (fun z => e (keyEs_inj z)), ih, decide_eq_false e, Bool.false_or]
theorem rows_val {s : Sh} {bs : List Bool} : ∀ {l : List Row}, ((l.map (·.1)).map (s.ends bs)).Nodup → ∀ r ∈ l, valN (rowsE s bs l) ((s.ends bs r.1).map keyE) = some (.ref r.2.2)
  | r0 :: l, nd, r, hr => by
    rw [List.map_cons, List.map_cons, List.nodup_cons] at nd
    unfold valN rowsE
    rw [List.map_cons, List.map_cons]
    rcases List.mem_cons.mp hr with z | z
    · rw [z]
      exact valV_pos (p := ((s.ends bs r0.1).map keyE, V.ref r0.2.2)) rfl
    · rw [valV_neg (p := ((s.ends bs r0.1).map keyE, V.ref r0.2.2)) (fun e => nd.1 (by
        rw [keyEs_inj e]
        exact List.mem_map.mpr ⟨r.1, List.mem_map.mpr ⟨r, z, rfl⟩, rfl⟩))]
      exact rows_val nd.2 r z
theorem r_iKeysN {w : World} {σ : L2.St} {H : Hp} {td : TE} {R : It → Hp → Prop} (q : td σ H fun x H1 => ∃ d o E, x = .ref d ∧ H1 d = some (.frz o (DN w d E)) ∧ R (ItN w d o E) H1) : iKeysN w td σ H R := q
section
variable {X : Cx} {w : World} {o i e value tg : Expr} {pos pos' : Pos} {td ty tv : TE}
theorem pe_ngetW (hu : X.A.units + 9 < cLine) (ho : PE X o td) (hi : PE X i ty) (hs : NoSl i) (hw : X.w = w := by rfl) : PE X (.Subscript o i pos) (tNGet w td ty) := hw ▸ pe_nget hu ho hi hs
theorem pe_nnewW (hw : X.w = w := by rfl) : PE X (.Dict [] [] pos) (tNNew w) := hw ▸ pe_nnew
theorem pc_nnotinW (hu : X.A.units + 9 < cLine) (hi : PE X i ty) (ho : PE X o td) (hw : X.w = w := by rfl) : PC X .NotIn i o (tNNotIn w ty td) := hw ▸ pc_nnotin hu hi ho
theorem ps_nputW (hu : X.A.units + 9 < cLine) (ho : PE X o td) (hi : PE X i ty) (hv : PE X value tv) (hs : swapsWith value (some (.Subscript o i pos')) pos.line X.env = pure false) (hw : X.w = w := by rfl) :
    PS X (.Assign [.Subscript o i pos'] value pos) (sNPut w td ty tv) := hw ▸ ps_nput hu ho hi hv hs
theorem pi_nkeysW (he : PE X e td) (hw : X.w = w := by rfl) : PI X tg e (iKeysN w td) := hw ▸ pi_nkeys he
theorem pe_tupleOfK (K : PySem.W.Frag) {a : Expr} {ta : TE} {p : Pos} (hg : Gl X "tuple") (hm : X.mg "tuple" = none) (ha : PE X a ta) (na : starEach [a] X.env = (false, eval a X.env) :: starEach [] X.env := by rfl) (hk : X.K = K := by rfl) :
    PE X (.Call (.Name "tuple" p) [a] [] pos) (tThen ta (kTup K)) := hk ▸ pe_tupleOf hg hm ha na
end
def spLawFirst : Sp := fun vs H Q E => ∃ (v : V) (a : Addr) (sh : Sh) (x t : List Nat) (bs : List Bool), vs = [v, .str (mkS x), .ref a] ∧ (IsSh H v sh) ∧ (sh.Ok) ∧ (x.length ≤ 32) ∧ (H a = some (.lst (bs.map setV))) ∧ (bs.length ≤ 2) ∧ (sh.Codes t ∧ sh.Whole x bs t) ∧ (∀ u, sh.Codes u → sh.Whole x bs u → kLe t u) ∧ (t.length ≤ 100) ∧ (∀ p H', Same H H' → H' p = some (.lst (tapeV t)) → Q (.ref p) H')
theorem use_law_first {H : Hp} {Q : VK} {E : XK} {v : V} {a : Addr} {sh : Sh} {x t : List Nat} {bs : List Bool} (hv : IsSh H v sh) (ok : sh.Ok) (hx : x.length ≤ 32) (ha : H a = some (.lst (bs.map setV))) (hb : bs.length ≤ 2) (ht : sh.Codes t ∧ sh.Whole x bs t) (hm : ∀ u, sh.Codes u → sh.Whole x bs u → kLe t u) (hl : t.length ≤ 100) (q : ∀ p H', Same H H' → H' p = some (.lst (tapeV t)) → Q (.ref p) H') : spLawFirst [v, .str (mkS x), .ref a] H Q E := ⟨v, a, sh, x, t, bs, rfl, hv, ok, hx, ha, hb, ht, hm, hl, q⟩

theorem ok__law_first {k : Nat} (T : TX mg) (F : Df K mg "_law_first" s__law_first ["_law_sheet_here", "_law_text_here", "_law_begins"]) (o__law_grown : OkAt P w K mg base "_law_grown" k ["_law_sheet_here", "_law_text_here", "_law_tapes"] spLawGrown) : OkAt P w K mg base "_law_first" (k + 1) ["_law_sheet_here", "_law_text_here", "_law_begins"] spLawFirst := by
  refine F.ok sc__law_first (fun vs H Q E h => ?_) (fun f cdv A outer s H vs Q E hr h => ?_)
  · obtain ⟨v, a, sh, x, t, bs, rfl, _⟩ := h
    rfl
  obtain ⟨v, a, sh, x, t, bs, rfl, hv, ok, hx, ha, hb, ht, hm, hl, q⟩ := h
  refine ⟨_, (pss_cons (ps_set (i := 3) sc__law_first.nd rfl (by first | exact Or.inl rfl | exact Or.inr rfl) (pe_lstN (pa_cons (pe_tupN (pa_cons (pe_lstN pa_nil) (pa_cons (pe_lc (own := [("_law_begin", 4)]) (g := gName 4) (tt := tYes) rfl sc__law_first.nd (pi_listK K (pv 2)) (blkOk_by (own := [("_law_begin", 4)]) (N := ["_law_sheet_here", "_law_text_here", "_law_begins", "_law_tapes", "_law_begin", "_law_tape_here", "_law_ends", "_law_one", "_law_known"]) (sc := defScope s__law_first) (by decide +kernel)) (fun _ _ _ _ _ => (pg_name (i := 4) sc__law_first.nd rfl (by first | exact Or.inl rfl | exact Or.inr rfl))) (fun _ _ _ _ _ => pts_nil) (fun _ _ _ _ _ => (pe_tupN (pa_cons pe_str (pa_cons (pv 4) pa_nil))))) pa_nil))) pa_nil))) (pss_one (ps_while PassesOwn.never (pt_val pe_bl) (pss_cons (ps_for PassesOwn.never rfl (pi_listK K (pv 3)) (pg_tupK K (n := 2) rfl (pgs_cons (pg_name (i := 5) sc__law_first.nd rfl (by first | exact Or.inl rfl | exact Or.inr rfl)) (pgs_cons (pg_name (i := 6) sc__law_first.nd rfl (by first | exact Or.inl rfl | exact Or.inr rfl)) pgs_nil))) (pss_one (ps_if (pt_cmpR (op_uEq K hr.units) (pe_lc (own := [("_law_one", 7)]) (g := gName 7) rfl sc__law_first.nd (pi_listK K (pv 6)) (blkOk_by (own := [("_law_one", 7)]) (N := ["_law_sheet_here", "_law_text_here", "_law_begins", "_law_tapes", "_law_begin", "_law_tape_here", "_law_ends", "_law_one", "_law_known"]) (sc := defScope s__law_first) (by decide +kernel)) (fun _ _ _ _ _ => (pg_name (i := 7) sc__law_first.nd rfl (by first | exact Or.inl rfl | exact Or.inr rfl))) (fun _ _ _ _ _ => (pts_one (pt_cmpR (op_uNe K hr.units) (pe_ix (ix_u K) (pv 7) pe_int (fun _ _ => rfl)) (pv 1) (nomark _)))) (fun _ _ _ _ _ => (pv 7))) (pe_lstN pa_nil) (nomark _)) (pss_one (ps_ret (pv 5))) pss_nil))) (pss_cons (ps_set (i := 8) sc__law_first.nd rfl (by first | exact Or.inl rfl | exact Or.inr rfl) (pe_nnewW (w := w))) (pss_cons (ps_for PassesOwn.never rfl (pi_listK K (pe_cl o__law_grown hr (by rfl) (pa_cons (pv 0) (pa_cons (pv 1) (pa_cons (pv 3) pa_nil))))) (pg_tupK K (n := 2) rfl (pgs_cons (pg_name (i := 5) sc__law_first.nd rfl (by first | exact Or.inl rfl | exact Or.inr rfl)) (pgs_cons (pg_name (i := 6) sc__law_first.nd rfl (by first | exact Or.inl rfl | exact Or.inr rfl)) pgs_nil))) (pss_one (ps_if (pt_cmp (pc_nnotinW (w := w) (huN_of hr) (pe_tupleOfK K (by rfl) T.b_tuple (pv 6)) (pv 8))) (pss_one (ps_nputW (w := w) (huN_of hr) (pv 8) (pe_tupleOfK K (by rfl) T.b_tuple (pv 6)) (pv 5) rfl)) pss_nil))) (pss_one (ps_lock (ps_setLc (i := 3) (own := [("_law_ends", 6)]) (g := gName 6) (tt := tYes) rfl sc__law_first.nd rfl rfl (sw_true rfl rfl rfl (by decide +kernel)) (pi_nkeysW (w := w) (pv 8)) (blkOk_by (own := [("_law_ends", 6)]) (N := ["_law_sheet_here", "_law_text_here", "_law_begins", "_law_tapes", "_law_begin", "_law_tape_here", "_law_ends", "_law_one", "_law_known"]) (sc := defScope s__law_first) (by decide +kernel)) (fun _ _ _ _ _ => (pg_name (i := 6) sc__law_first.nd rfl (by first | exact Or.inl rfl | exact Or.inr rfl))) (fun _ _ _ _ _ => pts_nil) (fun _ _ _ _ _ => (pe_tupN (pa_cons (pe_ngetW (w := w) (huN_of hr) (pv 8) (pv 6) (fun _ _ => rfl)) (pa_cons (pe_callTy (cr_listN K) (by rfl) T.b_list (by decide +kernel) (pa_cons (pv 6) pa_nil)) pa_nil))))))))))))), ?_⟩
  obtain ⟨av, rfl, hav⟩ := id hv
  have h26 := ok.most
  walk_at "r"
  intro p1 H1 n1 s1 e1
  walk_at "r"
  refine c_listE (s1 _ _ ha) (by rw [List.length_map]; omega) (fun D G i y => ∃ c b, y = .ref c ∧ c ≠ D ∧ bs[i]? = some b ∧ EndAt G c ([], b)) (fun D G G' i y k ⟨c, b, h1, h2, h3, h4⟩ => ⟨c, b, h1, h2, h3, k _ _ h2 h4⟩) (fun D acc i z G hz nD s eD Ky Kn hy => ?_) (fun p2 ys H2 n2 s2 e2 l2 pe2 => ?_)
  · rw [List.getElem?_map] at hz
    obtain ⟨b, hb1, rfl⟩ := Option.map_eq_some_iff.mp hz
    walk_at "r"
    refine ⟨rfl, ?_⟩
    walk_at "r"
    intro p3 H3 n3 s3 e3
    exact hy _ _ s3 ⟨p3, b, rfl, (ne_of_none eD n3).symm, hb1, e3⟩
  walk_at "r"
  intro p3 H3 n3 s3 e3
  walk_at "r"
  intro p4 H4 n4 s4 e4
  walk_at "r"
  have s14 := ((s1.trans s2).trans s3).trans s4
  have lev : LevAt H4 p4 (sh.lvl bs [[]]) := by
    refine ⟨[(p3, ([], sh.ends bs []))], e4, rfl, fun q hq => ?_⟩
    rw [List.mem_singleton.mp hq]
    have s34 := s3.trans s4
    refine ⟨p1, p2, s4 _ _ e3, s34 _ _ (s2 _ _ e1), ?_⟩
    rw [List.length_map] at l2
    have at_ : ∀ (n : Nat) (bs' : List Bool) (ys' : List V), ys'.length = bs'.length → (∀ (i : Nat) (y : V), ys'[i]? = some y → ∃ c b, y = V.ref c ∧ c ≠ p2 ∧ bs'[i]? = some b ∧ EndAt H2 c ([], b)) → ∃ cs : List (Addr × (List Nat × Bool)), ys' = cs.map (fun q => V.ref q.1) ∧ cs.map (·.2) = bs'.map (fun b => ([], b)) ∧ ∀ q ∈ cs, EndAt H2 q.1 q.2 := by
      intro n bs'
      induction bs' with
      | nil =>
        intro ys' hl _
        rw [List.length_eq_zero_iff.mp hl]
        exact ⟨[], rfl, rfl, fun q hq => nomatch hq⟩
      | cons b0 bs' ih =>
        intro ys' hl hh
        cases ys' with
        | nil => cases hl
        | cons y ys' =>
          obtain ⟨c, b, h1, _, h3, h4⟩ := hh 0 y rfl
          have h3 : b0 = b := Option.some.inj h3
          obtain ⟨cs, k1, k2, k3⟩ := ih ys' (by simpa using hl) (fun i z hz => hh (i + 1) z hz)
          refine ⟨(c, ([], b)) :: cs, by rw [h1, k1]; rfl, by rw [List.map_cons, k2, ← h3]; rfl, fun q hq => ?_⟩
          rcases List.mem_cons.mp hq with z | z
          · rw [z]; exact h4
          · exact k3 q z
    obtain ⟨cs, k1, k2, k3⟩ := at_ 0 bs ys l2 pe2
    exact ⟨cs, by rw [← k1]; exact s34 _ _ e2, k2, fun q hq => s34 _ _ (k3 q hq)⟩
  refine r_while (fun m σ H' => ∃ k L p y4 y5 y6 y7 y8, m + k = t.length ∧ σ = [some (.ref av), some (.str (mkS x)), some (.ref a), some (.ref p), y4, y5, y6, y7, y8] ∧ Same H H' ∧ sh.Lev x bs k L ∧ (L.map (sh.ends bs)).Nodup ∧ (∀ u, u.length < k → sh.Codes u → ¬ sh.Whole x bs u) ∧
    LevAt H' p (sh.lvl bs L)) t.length ⟨0, [[]], p4, _, _, _, _, _, Nat.add_zero _, rfl, s14, sh.lev0 x bs, (List.nodup_cons.mpr ⟨(fun z => nomatch z), List.nodup_nil⟩), (fun u hu => absurd hu (Nat.not_lt_zero _)), lev⟩ ?_
  rintro m σ G ⟨k, L, p, y4, y5, y6, y7, y8, hmk, rfl, s, lv, nd, nn, hL⟩
  have fitL : ∀ u ∈ L, sh.Fits x bs u := fun u hu => (lv.len u hu).2.2
  have lenL := Sh.level_len hx hb nd fitL
  obtain ⟨l, hp, hl2, hi⟩ := id hL
  walk_at "r"
  refine ⟨_, fun σ' H' z => z, ?_⟩
  walk_at "r"
  refine f_list hp (fun i σ H' => ∃ y5 y6 y7, σ = [some (.ref av), some (.str (mkS x)), some (.ref a), some (.ref p), y4, y5, y6, y7, y8] ∧ Same G H' ∧ ∀ u ∈ L.take i, ¬ sh.Whole x bs u) ⟨_, _, _, rfl, Same.refl _, fun u hu => nomatch hu⟩ (fun i σ H' _ ⟨_, _, _, _, s, _⟩ => s _ _ hp) ?_ ?_
  · rintro i z σ G2 hz ⟨y5, y6, y7, rfl, s2, none⟩
    obtain ⟨q1, hq1, rfl⟩ := refs_at hz
    obtain ⟨u, hu, eu⟩ := snd_at hl2 hq1
    have itq := hi q1 (List.mem_of_getElem? hq1)
    rw [eu] at itq
    obtain ⟨ta, tb, i1, i2, cs, i3, i4, i5⟩ := itq
    have i2 : G ta = some (.lst (tapeV u)) := i2
    have i4 : cs.map (·.2) = sh.ends bs u := i4
    have j1 := s2 _ _ i1
    walk_at "r"
    have dl : cs.length ≤ 2 := by rw [← List.length_map (f := (·.2)) , i4, Sh.ends_len]; exact hb
    refine c_list (fun i => pickE (fun e => !decide (e.1 = x)) (cs.take i)) (s2 _ _ i3) (by rw [List.length_map]; omega) rfl (fun i => pickE_len) (fun j z H' hz3 s5 Ky Kn hyes hno => ?_) (fun D G5 nD s5 e5 => ?_)
    · obtain ⟨q2, hq2, rfl⟩ := refs_at hz3
      have eq2 := s5 _ _ (s2 _ _ (i5 q2 (List.mem_of_getElem? hq2)))
      walk_at "r"
      refine ⟨rfl, ?_⟩
      walk_at "r"
      rw [mkS_eq]
      have tk : cs.take (j + 1) = cs.take j ++ [q2] := take_snoc hq2
      cases hz : decide (q2.2.1 = x)
      · rw [if_pos (by decide)]
        walk_at "r"
        exact hyes _ _ (Same.refl _) (by dsimp only; rw [tk, pickE_snoc, if_pos (by rw [hz]; rfl)])
      · rw [if_neg (by decide)]
        exact hno _ (Same.refl _) (by dsimp only; rw [tk, pickE_snoc, if_neg (by rw [hz]; decide), List.append_nil])
    · rw [List.length_map, List.take_length] at e5
      walk_at "r"
      intro D2 G6 nD2 s6 e6
      have hd6 : ∀ q ∈ cs, EndAt G6 q.1 q.2 := fun q hq => s6 _ _ (s5 _ _ (s2 _ _ (i5 q hq)))
      have le : ∀ q ∈ cs, ∀ d ∈ q.2.1, d ≤ 126 := fun q hq d hdd => by
        have : q.2 ∈ cs.map (·.2) := List.mem_map.mpr ⟨q, hq, rfl⟩
        rw [i4] at this
        obtain ⟨b0, _, hh⟩ := List.mem_map.mp this
        rw [← hh] at hdd
        exact Sh.txt_le ok _ _ d hdd
      refine r_eqNil (s6 _ _ e5) (pickE_da hd6) (n := 1) (by decide) (endD_flat (p := fun e => !decide (e.1 = x)) le) e6 ?_
      walk_at "r"
      have wh : (((cs.filter fun q => !decide (q.2.1 = x)).map fun q => endD q.2) = []) ↔ sh.Whole x bs u := by
        rw [pick_nil (p := fun e => !decide (e.1 = x)), i4]
        unfold Sh.ends Sh.Whole
        constructor
        · intro h b hb
          have := h _ (List.mem_map.mpr ⟨b, hb, rfl⟩)
          exact of_decide_eq_true (by simpa using this)
        · intro h e he
          obtain ⟨b, hb, rfl⟩ := List.mem_map.mp he
          dsimp only
          rw [decide_eq_true (h b hb)]
          rfl
      refine w_dec (fun hF => ?_) (fun hF => ?_)
      · have hw := wh.mp hF
        walk_at "r"
        have hL2 : L = L.take i ++ u :: L.drop (i + 1) := by
          obtain ⟨hi1, hi2⟩ := List.getElem?_eq_some_iff.mp hu
          rw [← hi2, ← List.drop_eq_getElem_cons hi1, List.take_append_drop]
        have hle := lv.found nn hL2 none t ht.1 ht.2
        have hcu := (lv.len u (List.mem_of_getElem? hu)).2.1
        have htu : u = t := kLe_anti hle (hm u hcu hw)
        have g := (s2.trans s5).trans s6
        exact q ta G6 (s.trans g) (by rw [← htu]; exact ((s5.trans s6) _ _ (s2 _ _ i2)))
      · walk_at "r"
        refine ⟨_, _, _, rfl, (s2.trans s5).trans s6, fun u' hu' => ?_⟩
        rw [take_snoc hu] at hu'
        rcases List.mem_append.mp hu' with z | z
        · exact none u' z
        · rw [List.mem_singleton.mp z]
          exact fun z => hF (wh.mpr z)
  · rintro σ G2 ⟨y5, y6, y7, rfl, s2, none⟩
    rw [List.length_map, snd_len hl2, List.take_length] at none
    have nn' := lv.none nn none
    have hkt : k + 1 ≤ t.length := by
      refine Classical.byContradiction fun z => ?_
      exact nn' t (by omega) ht.1 ht.2
    walk_at "r"
    intro pd G3 n3 s3 e3
    walk_at "r"
    have g3 := s2.trans s3
    refine use_law_grown (same_sh (s.trans g3) hv) ok hx (same_lev g3 hL) (fun u hu => ⟨by have := (lv.len u hu).1; omega, fitL u hu⟩) hb (by omega) fun pg G4 n4 s4 gl => ?_
    obtain ⟨gr, gp, gl2, gi⟩ := gl
    walk_at "r"
    have e34 := s4 _ _ e3
    have ddn : ∀ l : List (List Nat), ((dedup (sh.ends bs) [] l).map (sh.ends bs)).Nodup := fun l => dedup_nodup (sh.ends bs) l [] List.nodup_nil
    have dlen : ∀ i, (dedup (sh.ends bs) [] ((sh.grow x bs L).take i)).length ≤ 4356 := fun i => Sh.level_len hx hb (ddn _) fun u hu => by
      have h1 := (dedup_sub (sh.ends bs) ((sh.grow x bs L).take i) []).subset hu
      obtain ⟨_, _, _, _, _, hf⟩ := Sh.mem_grow.mp (List.mem_of_mem_take h1)
      exact hf
    refine f_list gp (fun i σ H' => ∃ y5 y6 y7, ∃ lr : List Row, σ = [some (.ref av), some (.str (mkS x)), some (.ref a), some (.ref p), y4, y5, y6, y7, some (.ref pd)] ∧ But pd G4 H' ∧ H' pd = some (DN w pd (rowsE sh bs lr)) ∧
      lr.map (·.1) = dedup (sh.ends bs) [] ((sh.grow x bs L).take i) ∧ ∀ r ∈ lr, RowAt sh bs H' r) ⟨_, _, _, [], rfl, (fun b o _ e => e), e34, rfl, fun r hr => nomatch hr⟩ (fun i σ H' _ ⟨_, _, _, _, _, k, _⟩ => but_lst k e34 other_dn gp) ?_ ?_
    · rintro i z σ G5 hz ⟨y5, y6, y7, lr, rfl, k5, e5, el, hr⟩
      obtain ⟨q1, hq1, rfl⟩ := refs_at hz
      obtain ⟨u, hu, eu⟩ := snd_at gl2 hq1
      have itq := gi q1 (List.mem_of_getElem? hq1)
      rw [eu] at itq
      obtain ⟨ta, tb, i1, i2, cs, i3, i4, i5⟩ := but_item k5 e34 other_dn itq
      have i2 : G5 ta = some (.lst (tapeV u)) := i2
      have i4 : cs.map (·.2) = sh.ends bs u := i4
      walk_at "r"
      refine r_tupleL i3 fun t6 G6 n6 s6 e6 => ?_
      walk_at "r"
      have hr6 : ∀ r ∈ lr, RowAt sh bs G6 r := fun r h => ⟨same_keyT s6 (hr r h).1, s6 _ _ (hr r h).2⟩
      have kt6 : KeyT G6 t6 (sh.ends bs u) := ⟨cs, e6, i4, fun q hq => s6 _ _ (i5 q hq)⟩
      refine ⟨pd, t6, rowsE sh bs lr, (sh.ends bs u).map keyE, rfl, rfl, .inl (s6 _ _ e5), rows_k2 hr6, kt6.key, ?_⟩
      have ra := rows_any (s := sh) (bs := bs) (u := u) lr
      rw [el] at ra
      rw [ra]
      have dd := dedup_snoc (sh.ends bs) u ((sh.grow x bs L).take i) []
      rw [← take_snoc hu] at dd
      cases hA : (dedup (sh.ends bs) [] ((sh.grow x bs L).take i)).any fun b => decide (sh.ends bs b = sh.ends bs u)
      · rw [hA] at ra dd
        walk_at "r"
        refine r_tupleL (s6 _ _ i3) fun t7 G7 n7 s7 e7 => ?_
        have s67 := s6.trans s7
        have hr7 : ∀ r ∈ lr, RowAt sh bs G7 r := fun r h => ⟨same_keyT s7 (hr6 r h).1, s7 _ _ (hr6 r h).2⟩
        have kt7 : KeyT G7 t7 (sh.ends bs u) := ⟨cs, e7, i4, fun q hq => s67 _ _ (i5 q hq)⟩
        have e57 := s67 _ _ e5
        refine ⟨pd, t7, rowsE sh bs lr, (sh.ends bs u).map keyE, rfl, rfl, e57, rows_k2 hr7, kt7.key, ?_, ?_, fun G8 k8 e8 => ?_⟩
        · cases hv : valN (rowsE sh bs lr) ((sh.ends bs u).map keyE) with
          | none => rfl
          | some v => rw [hv] at ra; cases ra
        · have h1 := dlen i
          rw [← el, List.length_map] at h1
          unfold rowsE
          rw [List.length_map, sizeLine_eq]
          omega
        · refine ⟨_, _, _, lr ++ [(u, t7, ta)], rfl, fun b o hb e => k8 _ _ hb (s67 _ _ (k5 _ _ hb e)), ?_, ?_, fun r hrr => ?_⟩
          · rw [e8]
            unfold rowsE
            rw [List.map_append]
            rfl
          · rw [List.map_append, el, dd, if_neg (by decide)]
            rfl
          · rcases List.mem_append.mp hrr with z | z
            · exact ⟨but_keyT k8 e57 other_dn (hr7 r z).1, but_lst k8 e57 other_dn (hr7 r z).2⟩
            · rw [List.mem_singleton.mp z]
              exact ⟨but_keyT k8 e57 other_dn kt7, but_lst k8 e57 other_dn (s67 _ _ i2)⟩
      · rw [hA] at dd
        walk_at "r"
        exact ⟨_, _, _, lr, rfl, fun b o hb e => s6 _ _ (k5 _ _ hb e), s6 _ _ e5, by rw [el, dd, if_pos rfl], hr6⟩
    · rintro σ G5 ⟨y5, y6, y7, lr, rfl, k5, e5, el, hr⟩
      rw [List.length_map, snd_len gl2, List.take_length] at el
      have el : lr.map (·.1) = sh.next x bs L := el
      have lv' := lv.next
      have nd' : ((sh.next x bs L).map (sh.ends bs)).Nodup := ddn _
      have len' := Sh.level_len hx hb nd' fun u hu => (lv'.len u hu).2.2
      walk_at "r"
      refine ⟨pd, DN w pd (rowsE sh bs lr), e5, True.intro, fun od => ?_⟩
      have k6 : But pd G5 (upd G5 pd (.frz od (DN w pd (rowsE sh bs lr)))) := but_upd
      have e6 : upd G5 pd (.frz od (DN w pd (rowsE sh bs lr))) pd = some (.frz od (DN w pd (rowsE sh bs lr))) := upd_same
      generalize upd G5 pd (.frz od (DN w pd (rowsE sh bs lr))) = G6 at k6 e6 ⊢
      have hr6 : ∀ r ∈ lr, RowAt sh bs G6 r := fun r h => ⟨but_keyT k6 e5 other_dn (hr r h).1, but_lst k6 e5 other_dn (hr r h).2⟩
      walk_at "r"
      refine r_iKeysN ?_
      walk_at "r"
      refine c_keysN e6 (fun D i H' => ∃ lo : List (Addr × TapE), Same G6 H' ∧ H' D = some (.lst (lo.map fun q => V.ref q.1)) ∧ lo.map (·.2) = sh.lvl bs ((lr.map (·.1)).take i) ∧ ∀ q ∈ lo, ItemAt (hid D H') q.1 q.2)
        (fun D H' nD s' eD => ⟨[], s', eD, rfl, fun q hq => nomatch hq⟩) (fun D i H' nD ⟨_, s', _⟩ => s' _ _ e6) (fun D i k q1 v G7 hE nD ⟨lo, s7, e7, el7, it7⟩ => ?_) (fun D G7 nD ⟨lo, s7, e7, el7, it7⟩ => ?_)
      · obtain ⟨r, hr1, her⟩ : ∃ r, lr[i]? = some r ∧ ((sh.ends bs r.1).map keyE, r.2.1, V.ref r.2.2) = (k, q1, v) := by
          unfold rowsE at hE
          rw [List.getElem?_map] at hE
          exact Option.map_eq_some_iff.mp hE
        cases her
        have hm1 := List.mem_of_getElem? hr1
        obtain ⟨⟨cs, c1, c2, c3⟩, hta⟩ := hr6 r hm1
        walk_at "r"
        refine ⟨rfl, ?_⟩
        walk_at "r"
        have hr7 : ∀ r ∈ lr, RowAt sh bs G7 r := fun r h => ⟨same_keyT s7 (hr6 r h).1, s7 _ _ (hr6 r h).2⟩
        refine ⟨pd, r.2.1, rowsE sh bs lr, (sh.ends bs r.1).map keyE, .ref r.2.2, rfl, rfl, .inr ⟨od, s7 _ _ e6⟩, rows_k2 hr7, (hr7 r hm1).1.key, rows_val (by rw [el]; exact nd') r hm1, ?_⟩
        walk_at "r"
        refine r_listU (s7 _ _ c1) fun p8 G8 n8 s8 e8 => ?_
        walk_at "r"
        intro p9 G9 n9 s9 e9
        have lol : lo.length ≤ 4356 := by
          rw [snd_len el7, List.length_take, el]
          omega
        have s89 := s8.trans s9
        refine ⟨_, s89 _ _ e7, by rw [List.length_map, sizeLine_eq]; omega, lo ++ [(p9, (r.1, sh.ends bs r.1))], ?_, ?_, ?_, fun q hq => ?_⟩
        · exact (but_upd (l := D)).same (s7.trans s89) nD
        · rw [upd_same, List.map_append]
          rfl
        · have e1 : (lr.map (·.1))[i]? = some r.1 := by rw [List.getElem?_map, hr1]; rfl
          rw [List.map_append, el7, take_snoc e1]
          unfold Sh.lvl
          rw [List.map_append (f := fun u => (u, sh.ends bs u))]
          rfl
        · have e79 := s89 _ _ e7
          refine same_item (hid_but (H := G9) but_upd) ?_
          rcases List.mem_append.mp hq with z | z
          · exact same_item (hid_same s89) (it7 q z)
          · rw [List.mem_singleton.mp z]
            have g9 := s7.trans s89
            refine ⟨r.2.2, p8, hid_in e9 (ne_of e9 e79 fun z => nomatch z), hid_in (g9 _ _ hta) (ne_of_none hta nD), cs, hid_in (s9 _ _ e8) (ne_of_none e7 n8).symm, c2, fun q hq => ?_⟩
            exact hid_in (g9 _ _ (c3 q hq)) (ne_of (g9 _ _ (c3 q hq)) e79 fun z => nomatch z)
      · walk_at "r"
        have k9 : But pd G7 (upd G7 pd (DN w pd (rowsE sh bs lr))) := but_upd
        refine ⟨s7 _ _ e6, m - 1, by omega, k + 1, sh.next x bs L, D, _, _, _, _, _, by omega, rfl, fun b o e => ?_, lv', nd', nn', ?_⟩
        · have e2 := s2 _ _ (s _ _ e)
          have hne := ne_of_none e2 n3
          exact k9 _ _ hne (s7 _ _ (k6 _ _ hne (k5 _ _ hne (s4 _ _ (s3 _ _ e2)))))
        · refine but_lev k9 (s7 _ _ e6) other_frz ⟨lo, e7, ?_, fun q hq => same_item hid_out (it7 q hq)⟩
          rw [el7, ← el]
          unfold rowsE
          rw [List.length_map, ← List.length_map (f := fun r : Row => r.1) (as := lr), List.take_length]

theorem ext_box {H H' : Hp} {v : V} (e : LamX.ExtN H H') (h : Box H v) : Box H' v := by
  obtain ⟨b, l, rfl, h1, h2, h3⟩ := h
  exact ⟨b, l, rfl, e _ _ h1 (fun _ z => nomatch z), e _ _ h2 (fun _ z => nomatch z), h3⟩
theorem ext_sh {H H' : Hp} {v : V} {sh : Sh} (e : LamX.ExtN H H') (h : IsSh H v sh) : IsSh H' v sh := by
  obtain ⟨a, rfl, h⟩ := h
  exact ⟨a, rfl, ext_tup e h⟩
def spLaw (K : PySem.W.Frag) (TTs : List (Addr × Str)) : Sp := fun vs H Q E => ∃ (a : Addr) (ns : List Int), vs = [.ref a] ∧ (SqL K H a (ns.map V.int)) ∧ (ns.length ≤ 63) ∧ (LamX.Tabs TTs H) ∧ (∀ H', Q (.bl true) H')
theorem use_law {K : PySem.W.Frag} {TTs : List (Addr × Str)} {H : Hp} {Q : VK} {E : XK} {a : Addr} {ns : List Int} (ha : SqL K H a (ns.map V.int)) (hl : ns.length ≤ 63) (hT : LamX.Tabs TTs H) (q : ∀ H', Q (.bl true) H') : spLaw K TTs [.ref a] H Q E := ⟨a, ns, rfl, ha, hl, hT, q⟩

theorem ok_law {k : Nat} {fl : Addr} {fd : FuncData} (T : TX mg) (F : Fun K "law" "law" s_law fl fd) (o__law_begun : OkAt P w K mg base "_law_begun" k ["_law_script"] (spBegun K)) (o__law_sheet : OkAt P w K mg base "_law_sheet" k ["_law_box", "_law_most"] spSheet) (o__law_text : OkAt P w K mg base "_law_text" k ["_law_box", "_law_sheet_here", "_law_most"] spLawText) (o__law_alike : OkAt P w K mg base "_law_alike" k ["_law_found", "_law_due"] (spAlike 5)) (o__law_take : OkAt P w K mg base "_law_take" k ["_law_box", "_law_many"] spTake) (o_either : OkAt P w K mg base "either" k ["sheet", "text"] (spEither TTs)) (o__law_first : OkAt P w K mg base "_law_first" k ["_law_sheet_here", "_law_text_here", "_law_begins"] spLawFirst) (o_shortest : OkAt P w K mg base "shortest" k ["sheet", "text", "begin"] spShortest) : FnOk P w K mg base CX0 (k + 1) fl fd ["_law_script"] (spLaw K TTs) := by
  refine F.ok sc_law (fun vs H Q E h => ?_) (fun cdv A outer s H vs Q E hr h => ?_)
  · obtain ⟨a, ns, rfl, _⟩ := h
    rfl
  obtain ⟨a, ns, rfl, ha, hl, hT, q⟩ := h
  refine ⟨_, (pss_cons (ps_set (i := 1) sc_law.nd rfl (by first | exact Or.inl rfl | exact Or.inr rfl) (pe_cl o__law_begun hr (by rfl) (pa_cons (pv 0) pa_nil))) (pss_cons (ps_for PassesOwn.never rfl (pi_range1 (by rfl) T.b_range (pa_cons pe_int pa_nil)) (pg_name (i := 2) sc_law.nd rfl (by first | exact Or.inl rfl | exact Or.inr rfl)) (pss_cons (ps_set (i := 3) sc_law.nd rfl (by first | exact Or.inl rfl | exact Or.inr rfl) (pe_cl o__law_sheet hr (by rfl) (pa_cons (pv 1) (pa_cons (pe_ix (ix_u K) (pe_lstN (pa_cons pe_int (pa_cons pe_int (pa_cons pe_int pa_nil)))) (pe_cl o__law_take hr (by rfl) (pa_cons (pv 1) (pa_cons pe_int pa_nil))) (fun _ _ => rfl)) pa_nil)))) (pss_cons (ps_set (i := 4) sc_law.nd rfl (by first | exact Or.inl rfl | exact Or.inr rfl) (pe_cl o__law_text hr (by rfl) (pa_cons (pv 1) (pa_cons (pv 3) (pa_cons (pe_ix (ix_u K) (pe_lstN (pa_cons pe_int (pa_cons pe_int (pa_cons pe_int pa_nil)))) (pe_cl o__law_take hr (by rfl) (pa_cons (pv 1) (pa_cons pe_int pa_nil))) (fun _ _ => rfl)) pa_nil))))) (pss_cons (ps_for PassesOwn.never rfl (pi_range1 (by rfl) T.b_range (pa_cons pe_int pa_nil)) (pg_name (i := 5) sc_law.nd rfl (by first | exact Or.inl rfl | exact Or.inr rfl)) (pss_one (ps_if (pt_not (pt_val (pe_cl o__law_alike hr (by rfl) (pa_cons (pe_cl o_shortest hr (by rfl) (pa_cons (pv 3) (pa_cons (pv 4) (pa_cons (pv 5) pa_nil)))) (pa_cons (pe_cl o__law_first hr (by rfl) (pa_cons (pv 3) (pa_cons (pv 4) (pa_cons (pe_lstN (pa_cons (pv 5) pa_nil)) pa_nil)))) pa_nil))))) (pss_one (ps_ret pe_bl)) pss_nil))) (pss_one (ps_if (pt_not (pt_val (pe_cl o__law_alike hr (by rfl) (pa_cons (pe_cl o_either hr (by rfl) (pa_cons (pv 3) (pa_cons (pv 4) pa_nil))) (pa_cons (pe_cl o__law_first hr (by rfl) (pa_cons (pv 3) (pa_cons (pv 4) (pa_cons (pe_lstN (pa_cons pe_int (pa_cons pe_int pa_nil))) pa_nil)))) pa_nil))))) (pss_one (ps_ret pe_bl)) pss_nil)))))) (pss_one (ps_ret pe_bl)))), ?_⟩
  walk_at "r"
  refine use_begun ha hl fun bx H1 s1 hb => ?_
  walk_at "r"
  have hT1 := tabs_same hT s1
  refine f_range1 (by decide) (by decide) (fun i σ H' => ∃ y2 y3 y4 y5, σ = [some (.ref a), some bx, y2, y3, y4, y5] ∧ LamX.ExtN H1 H' ∧ LamX.Tabs TTs H') ⟨_, _, _, _, rfl, LamX.ExtN.refl _, hT1⟩ ?_ ?_
  · rintro i σ H3 _ ⟨y2, y3, y4, y5, rfl, x3, t3⟩
    walk_at "r"
    intro p4 H4 n4 s4 e4
    walk_at "r"
    have hb4 := same_box s4 (ext_box x3 hb)
    refine use_take hb4 (by decide) (by decide) fun r5 H5 hr5 s5 => ?_
    obtain ⟨m, hx, hm1, hm2⟩ := pick_natR (ns := [4, 10, 26]) (lo := 1) (m := 26) (j := r5) (by show r5 < 3; omega) (by decide)
    refine r_ixL (s5 _ _ e4) hx ?_
    walk_at "r"
    refine use_sheet (same_box s5 hb4) (by omega) (by omega) fun v sh H6 s6 hv ok hn => ?_
    walk_at "r"
    intro p7 H7 n7 s7 e7
    walk_at "r"
    have hb7 := same_box ((s5.trans s6).trans s7) hb4
    refine use_take hb7 (by decide) (by decide) fun r8 H8 hr8 s8 => ?_
    obtain ⟨m2, hx2, hm3, hm4⟩ := pick_natR (ns := [5, 14, 32]) (lo := 1) (m := 32) (j := r8) (by show r8 < 3; omega) (by decide)
    refine r_ixL (s8 _ _ e7) hx2 ?_
    walk_at "r"
    have hv8 := same_sh (s7.trans s8) hv
    refine use_law_text (same_box s8 hb7) hv8 ok (by omega) fun x H9 s9 hcan hxl => ?_
    have hv9 := same_sh s9 hv8
    have s39 := (((((s4.trans s5).trans s6).trans s7).trans s8).trans s9)
    have x9 : LamX.ExtN H1 H9 := x3.trans (ext_same s39)
    have t9 := tabs_same t3 s39
    walk_at "r"
    refine f_range1 (by decide) (by decide) (fun j σ H' => ∃ y5, σ = [some (.ref a), some bx, some (.int (i : Int)), some v, some (.str (mkS x)), y5] ∧ Same H9 H') ⟨_, rfl, Same.refl _⟩ ?_ ?_
    · rintro j σ G hj ⟨y5, rfl, s⟩
      obtain ⟨b, hbj, _⟩ := bool_of hj
      rw [hbj]
      obtain ⟨ht, hcd, hlen⟩ := Sh.short_all ok x b hcan (by omega)
      have hc2 := sh.cost_le x b hcan
      walk_at "r"
      refine use_shortest (same_sh s hv9) ok hcan (by omega) fun p1 G1 m1 g1 f1 => ?_
      walk_at "r"
      intro p2 G2 m2 g2 f2
      walk_at "r"
      refine use_law_first (t := sh.short x b) (bs := [b]) (same_sh ((s.trans g1).trans g2) hv9) ok (by omega) f2 (by show 1 ≤ 2; decide) ⟨hcd, fun b' hb' => by rw [List.mem_singleton.mp hb']; exact ht⟩ (fun u hu hw => ?_) (by omega) fun p3 G3 g3 f3 => ?_
      · rw [← Sh.short_best ok x b hcan (by omega)]
        exact Sh.eBest_first ok u x (some b) hcan hu (hw b List.mem_cons_self)
      walk_at "r"
      refine use_alike (da_tape (g3 _ _ (g2 _ _ f1))) (da_tape f3) (less_tape (n := 3) (by omega)) ?_
      walk_at "r"
      exact ⟨_, rfl, ((s.trans g1).trans g2).trans g3⟩
    · rintro σ G ⟨y5, rfl, s⟩
      walk_at "r"
      have hvG := same_sh s hv9
      refine use_either hvG ok hcan (by omega) (tabs_same t9 s) fun p1 G1 fp1 xG t1 f1 => ?_
      obtain ⟨hr, hcd⟩ := Sh.eBest_reads ok x none hcan
      have hlen := Sh.eBest_len (s := sh) x none hcan (by omega)
      have hle := sh.eC_le x none hcan
      walk_at "r"
      intro p2 G2 m2 g2 f2
      walk_at "r"
      refine use_law_first (t := sh.eBest x none) (bs := [false, true]) (same_sh g2 (ext_sh xG hvG)) ok (by omega) f2 (by decide) ⟨hcd, fun b' hb' => ?_⟩ (fun u hu hw => ?_) (by omega) fun p3 G3 g3 f3 => ?_
      · have hr : sh.txt (sh.eBest x none) false = x ∧ sh.txt (sh.eBest x none) true = x := hr
        cases b'
        · exact hr.1
        · exact hr.2
      · exact Sh.eBest_first ok u x none hcan hu ⟨hw false List.mem_cons_self, hw true (List.mem_cons_of_mem _ List.mem_cons_self)⟩
      walk_at "r"
      refine use_alike (da_tape (g3 _ _ (g2 _ _ f1))) (da_tape f3) (less_tape (n := 3) (by omega)) ?_
      walk_at "r"
      have g := g2.trans g3
      exact ⟨_, _, _, _, rfl, ((x9.trans (ext_same s)).trans xG).trans (ext_same g), tabs_same t1 g⟩
  · rintro σ H' ⟨y2, y3, y4, y5, rfl, x, t⟩
    walk_at "r"
    exact q H'

end
/-! ### what the top has written; the law's own head -/
set_option maxHeartbeats 16000000 in
theorem all_mk {l : PySem.W.OpenLaw} {w : World} {K : PySem.W.Frag} {h : Heap} {mg : Str → Option Value} {fa f0 f1 f2 f3 f4 f5 f6 f7 f8 f9 f10 f11 f12 f13 f14 f15 f16 f17 f18 f19 f20 f21 cA17 pT_shifted cA18 pT_either : Addr} (X : K.In h) (G : h.Ns mainGlobals mg) (hfa : mg "law" = some (.ref fa)) (tabs : TabsOf K ["shifted", "either"] h)
    {od0 an0 od1 an1 od2 an2 od3 an3 od4 an4 od5 an5 od6 an6 od7 an7 od8 an8 od9 an9 od10 an10 od11 an11 od12 an12 od13 an13 od14 an14 od15 an15 od16 an16 od17 an17 od18 an18 od19 an19 od20 an20 od21 an21 oo17 oo18 : Option Addr} {sl0 sl1 sl2 sl3 sl4 sl5 sl6 sl7 sl8 sl9 sl10 sl11 sl12 sl13 sl14 sl15 sl16 sl17 sl18 sl19 sl20 sl21 sm17 sm18 : Array (Option Value)} {oc0 kV0 dc0 pm0 ct0 oc1 kV1 dc1 pm1 ct1 oc2 kV2 dc2 pm2 ct2 oc3 kV3 dc3 pm3 ct3 oc4 kV4 dc4 pm4 ct4 oc5 kV5 dc5 pm5 ct5 oc6 kV6 dc6 pm6 ct6 oc7 kV7 dc7 pm7 ct7 oc8 kV8 dc8 pm8 ct8 oc9 kV9 dc9 pm9 ct9 oc10 kV10 dc10 pm10 ct10 oc11 kV11 dc11 pm11 ct11 oc12 kV12 dc12 pm12 ct12 oc13 kV13 dc13 pm13 ct13 oc14 kV14 dc14 pm14 ct14 oc15 kV15 dc15 pm15 ct15 oc16 kV16 dc16 pm16 ct16 oc17 kV17 dc17 pm17 ct17 oc18 kV18 dc18 pm18 ct18 oc19 kV19 dc19 pm19 ct19 oc20 kV20 dc20 pm20 ct20 oc21 kV21 dc21 pm21 ct21 cd0 cd1 cd2 cd3 cd4 cd5 cd6 cd7 cd8 cd9 cd10 cd11 cd12 cd13 cd14 cd15 cd16 oe17 oe18 cd19 cd20 cd21 : Value} {tk_MOST_SIGNS tk_MOST_TEXT tk_FIRST tk_LAST tk_NEVER : Tok} {ws17 ws18 : Array Value}
    (a0 : PySem.W.nsIn K mainGlobals "_law_take" = some (some (.ref f0))) (l0 : K.lookup f0 = some ⟨oc0, od0, .func (PySem.W.fnOf "_law_take" "_law_take" (defArgs s__law_take) (defBody s__law_take) (defScope s__law_take) .none kV0 dc0 pm0 an0 cd0 ct0), sl0⟩) (c0 : PySem.W.codeIn K cd0 "_law_take" = true) (k0 : PySem.W.keepIn K (.ref f0) = true)
    (a1 : PySem.W.nsIn K mainGlobals "is_shift" = some (some (.ref f1))) (l1 : K.lookup f1 = some ⟨oc1, od1, .func (PySem.W.fnOf "is_shift" "is_shift" (defArgs s_is_shift) (defBody s_is_shift) (defScope s_is_shift) .none kV1 dc1 pm1 an1 cd1 ct1), sl1⟩) (c1 : PySem.W.codeIn K cd1 "is_shift" = true) (k1 : PySem.W.keepIn K (.ref f1) = true)
    (a2 : PySem.W.nsIn K mainGlobals "set_behind" = some (some (.ref f2))) (l2 : K.lookup f2 = some ⟨oc2, od2, .func (PySem.W.fnOf "set_behind" "set_behind" (defArgs s_set_behind) (defBody s_set_behind) (defScope s_set_behind) .none kV2 dc2 pm2 an2 cd2 ct2), sl2⟩) (c2 : PySem.W.codeIn K cd2 "set_behind" = true) (k2 : PySem.W.keepIn K (.ref f2) = true)
    (a3 : PySem.W.nsIn K mainGlobals "are_signs" = some (some (.ref f3))) (l3 : K.lookup f3 = some ⟨oc3, od3, .func (PySem.W.fnOf "are_signs" "are_signs" (defArgs s_are_signs) (defBody s_are_signs) (defScope s_are_signs) .none kV3 dc3 pm3 an3 cd3 ct3), sl3⟩) (c3 : PySem.W.codeIn K cd3 "are_signs" = true) (k3 : PySem.W.keepIn K (.ref f3) = true)
    (a4 : PySem.W.nsIn K mainGlobals "need_sheet" = some (some (.ref f4))) (l4 : K.lookup f4 = some ⟨oc4, od4, .func (PySem.W.fnOf "need_sheet" "need_sheet" (defArgs s_need_sheet) (defBody s_need_sheet) (defScope s_need_sheet) .none kV4 dc4 pm4 an4 cd4 ct4), sl4⟩) (c4 : PySem.W.codeIn K cd4 "need_sheet" = true) (k4 : PySem.W.keepIn K (.ref f4) = true)
    (a5 : PySem.W.nsIn K mainGlobals "need_set" = some (some (.ref f5))) (l5 : K.lookup f5 = some ⟨oc5, od5, .func (PySem.W.fnOf "need_set" "need_set" (defArgs s_need_set) (defBody s_need_set) (defScope s_need_set) .none kV5 dc5 pm5 an5 cd5 ct5), sl5⟩) (c5 : PySem.W.codeIn K cd5 "need_set" = true) (k5 : PySem.W.keepIn K (.ref f5) = true)
    (a6 : PySem.W.nsIn K mainGlobals "_law_begun" = some (some (.ref f6))) (l6 : K.lookup f6 = some ⟨oc6, od6, .func (PySem.W.fnOf "_law_begun" "_law_begun" (defArgs s__law_begun) (defBody s__law_begun) (defScope s__law_begun) .none kV6 dc6 pm6 an6 cd6 ct6), sl6⟩) (c6 : PySem.W.codeIn K cd6 "_law_begun" = true) (k6 : PySem.W.keepIn K (.ref f6) = true)
    (a7 : PySem.W.nsIn K mainGlobals "_law_picked" = some (some (.ref f7))) (l7 : K.lookup f7 = some ⟨oc7, od7, .func (PySem.W.fnOf "_law_picked" "_law_picked" (defArgs s__law_picked) (defBody s__law_picked) (defScope s__law_picked) .none kV7 dc7 pm7 an7 cd7 ct7), sl7⟩) (c7 : PySem.W.codeIn K cd7 "_law_picked" = true) (k7 : PySem.W.keepIn K (.ref f7) = true)
    (a8 : PySem.W.nsIn K mainGlobals "_law_sheet" = some (some (.ref f8))) (l8 : K.lookup f8 = some ⟨oc8, od8, .func (PySem.W.fnOf "_law_sheet" "_law_sheet" (defArgs s__law_sheet) (defBody s__law_sheet) (defScope s__law_sheet) .none kV8 dc8 pm8 an8 cd8 ct8), sl8⟩) (c8 : PySem.W.codeIn K cd8 "_law_sheet" = true) (k8 : PySem.W.keepIn K (.ref f8) = true)
    (a9 : PySem.W.nsIn K mainGlobals "_law_read" = some (some (.ref f9))) (l9 : K.lookup f9 = some ⟨oc9, od9, .func (PySem.W.fnOf "_law_read" "_law_read" (defArgs s__law_read) (defBody s__law_read) (defScope s__law_read) .none kV9 dc9 pm9 an9 cd9 ct9), sl9⟩) (c9 : PySem.W.codeIn K cd9 "_law_read" = true) (k9 : PySem.W.keepIn K (.ref f9) = true)
    (a10 : PySem.W.nsIn K mainGlobals "_law_alike" = some (some (.ref f10))) (l10 : K.lookup f10 = some ⟨oc10, od10, .func (PySem.W.fnOf "_law_alike" "_law_alike" (defArgs s__law_alike) (defBody s__law_alike) (defScope s__law_alike) .none kV10 dc10 pm10 an10 cd10 ct10), sl10⟩) (c10 : PySem.W.codeIn K cd10 "_law_alike" = true) (k10 : PySem.W.keepIn K (.ref f10) = true)
    (a11 : PySem.W.nsIn K mainGlobals "shift_to" = some (some (.ref f11))) (l11 : K.lookup f11 = some ⟨oc11, od11, .func (PySem.W.fnOf "shift_to" "shift_to" (defArgs s_shift_to) (defBody s_shift_to) (defScope s_shift_to) .none kV11 dc11 pm11 an11 cd11 ct11), sl11⟩) (c11 : PySem.W.codeIn K cd11 "shift_to" = true) (k11 : PySem.W.keepIn K (.ref f11) = true)
    (a12 : PySem.W.nsIn K mainGlobals "code_of" = some (some (.ref f12))) (l12 : K.lookup f12 = some ⟨oc12, od12, .func (PySem.W.fnOf "code_of" "code_of" (defArgs s_code_of) (defBody s_code_of) (defScope s_code_of) .none kV12 dc12 pm12 an12 cd12 ct12), sl12⟩) (c12 : PySem.W.codeIn K cd12 "code_of" = true) (k12 : PySem.W.keepIn K (.ref f12) = true)
    (a13 : PySem.W.nsIn K mainGlobals "need_text" = some (some (.ref f13))) (l13 : K.lookup f13 = some ⟨oc13, od13, .func (PySem.W.fnOf "need_text" "need_text" (defArgs s_need_text) (defBody s_need_text) (defScope s_need_text) .none kV13 dc13 pm13 an13 cd13 ct13), sl13⟩) (c13 : PySem.W.codeIn K cd13 "need_text" = true) (k13 : PySem.W.keepIn K (.ref f13) = true)
    (a14 : PySem.W.nsIn K mainGlobals "costs_of" = some (some (.ref f14))) (l14 : K.lookup f14 = some ⟨oc14, od14, .func (PySem.W.fnOf "costs_of" "costs_of" (defArgs s_costs_of) (defBody s_costs_of) (defScope s_costs_of) .none kV14 dc14 pm14 an14 cd14 ct14), sl14⟩) (c14 : PySem.W.codeIn K cd14 "costs_of" = true) (k14 : PySem.W.keepIn K (.ref f14) = true)
    (a15 : PySem.W.nsIn K mainGlobals "shortest" = some (some (.ref f15))) (l15 : K.lookup f15 = some ⟨oc15, od15, .func (PySem.W.fnOf "shortest" "shortest" (defArgs s_shortest) (defBody s_shortest) (defScope s_shortest) .none kV15 dc15 pm15 an15 cd15 ct15), sl15⟩) (c15 : PySem.W.codeIn K cd15 "shortest" = true) (k15 : PySem.W.keepIn K (.ref f15) = true)
    (a16 : PySem.W.nsIn K mainGlobals "_law_text" = some (some (.ref f16))) (l16 : K.lookup f16 = some ⟨oc16, od16, .func (PySem.W.fnOf "_law_text" "_law_text" (defArgs s__law_text) (defBody s__law_text) (defScope s__law_text) .none kV16 dc16 pm16 an16 cd16 ct16), sl16⟩) (c16 : PySem.W.codeIn K cd16 "_law_text" = true) (k16 : PySem.W.keepIn K (.ref f16) = true)
    (a17 : PySem.W.nsIn K mainGlobals "shifted" = some (some (.ref f17))) (l17 : K.lookup f17 = some ⟨oc17, od17, .func (PySem.W.fnOf "shifted" "shifted" (defArgs s_shifted) (defBody s_shifted) (defScope s_shifted) .none kV17 dc17 pm17 an17 (.ref cA17) ct17), sl17⟩) (c17 : PySem.W.codeIn K (.ref cA17) "shifted" = true) (k17 : PySem.W.keepIn K (.ref f17) = true)
    (u17 : K.lookup cA17 = some ⟨oe17, oo17, .fields ws17, sm17⟩)
    (a18 : PySem.W.nsIn K mainGlobals "either" = some (some (.ref f18))) (l18 : K.lookup f18 = some ⟨oc18, od18, .func (PySem.W.fnOf "either" "either" (defArgs s_either) (defBody s_either) (defScope s_either) .none kV18 dc18 pm18 an18 (.ref cA18) ct18), sl18⟩) (c18 : PySem.W.codeIn K (.ref cA18) "either" = true) (k18 : PySem.W.keepIn K (.ref f18) = true)
    (u18 : K.lookup cA18 = some ⟨oe18, oo18, .fields ws18, sm18⟩)
    (a19 : PySem.W.nsIn K mainGlobals "_law_grown" = some (some (.ref f19))) (l19 : K.lookup f19 = some ⟨oc19, od19, .func (PySem.W.fnOf "_law_grown" "_law_grown" (defArgs s__law_grown) (defBody s__law_grown) (defScope s__law_grown) .none kV19 dc19 pm19 an19 cd19 ct19), sl19⟩) (c19 : PySem.W.codeIn K cd19 "_law_grown" = true) (k19 : PySem.W.keepIn K (.ref f19) = true)
    (a20 : PySem.W.nsIn K mainGlobals "_law_first" = some (some (.ref f20))) (l20 : K.lookup f20 = some ⟨oc20, od20, .func (PySem.W.fnOf "_law_first" "_law_first" (defArgs s__law_first) (defBody s__law_first) (defScope s__law_first) .none kV20 dc20 pm20 an20 cd20 ct20), sl20⟩) (c20 : PySem.W.codeIn K cd20 "_law_first" = true) (k20 : PySem.W.keepIn K (.ref f20) = true)
    (a21 : PySem.W.nsIn K mainGlobals "law" = some (some (.ref f21))) (l21 : K.lookup f21 = some ⟨oc21, od21, .func (PySem.W.fnOf "law" "law" (defArgs s_law) (defBody s_law) (defScope s_law) .none kV21 dc21 pm21 an21 cd21 ct21), sl21⟩) (c21 : PySem.W.codeIn K cd21 "law" = true) (k21 : PySem.W.keepIn K (.ref f21) = true)
    (z_len : PySem.W.nsIn K mainGlobals "len" = some none)
    (z_range : PySem.W.nsIn K mainGlobals "range" = some none)
    (z_list : PySem.W.nsIn K mainGlobals "list" = some none)
    (z_int : PySem.W.nsIn K mainGlobals "int" = some none)
    (z_str : PySem.W.nsIn K mainGlobals "str" = some none)
    (z_all : PySem.W.nsIn K mainGlobals "all" = some none)
    (z_isinstance : PySem.W.nsIn K mainGlobals "isinstance" = some none)
    (z_min : PySem.W.nsIn K mainGlobals "min" = some none)
    (z_sorted : PySem.W.nsIn K mainGlobals "sorted" = some none)
    (z_enumerate : PySem.W.nsIn K mainGlobals "enumerate" = some none)
    (z_reversed : PySem.W.nsIn K mainGlobals "reversed" = some none)
    (z_set : PySem.W.nsIn K mainGlobals "set" = some none)
    (z_tuple : PySem.W.nsIn K mainGlobals "tuple" = some none)
    (z_bool : PySem.W.nsIn K mainGlobals "bool" = some none)
    (z_ValueError : PySem.W.nsIn K mainGlobals "ValueError" = some none)
    (y_MOST_SIGNS : PySem.W.nsIn K mainGlobals "MOST_SIGNS" = some (some (.int 26 tk_MOST_SIGNS)))
    (y_MOST_TEXT : PySem.W.nsIn K mainGlobals "MOST_TEXT" = some (some (.int 32 tk_MOST_TEXT)))
    (y_FIRST : PySem.W.nsIn K mainGlobals "FIRST" = some (some (.str " " tk_FIRST)))
    (y_LAST : PySem.W.nsIn K mainGlobals "LAST" = some (some (.str "~" tk_LAST)))
    (y_NEVER : PySem.W.nsIn K mainGlobals "NEVER" = some (some (.int 1000000 tk_NEVER)))
    (v17 : (ws17[11]? : Option Value) = some (.ref pT_shifted)) (n17 : K.lookup pT_shifted = none)
    (v18 : (ws18[11]? : Option Value) = some (.ref pT_either)) (n18 : K.lookup pT_either = none)
    (ne_0_1 : pT_shifted ≠ pT_either)
    : LamX.LawAtS l w K CX0 6 63 "_law_script" mg fa h := by
  have e := hfa.symm.trans (PySem.W.mg_of X G a21)
  cases e
  have T : TX mg := ⟨PySem.W.mg_none_of X G z_len, PySem.W.mg_none_of X G z_range, PySem.W.mg_none_of X G z_list, PySem.W.mg_none_of X G z_int, PySem.W.mg_none_of X G z_str, PySem.W.mg_none_of X G z_all, PySem.W.mg_none_of X G z_isinstance, PySem.W.mg_none_of X G z_min, PySem.W.mg_none_of X G z_sorted, PySem.W.mg_none_of X G z_enumerate, PySem.W.mg_none_of X G z_reversed, PySem.W.mg_none_of X G z_set, PySem.W.mg_none_of X G z_tuple, PySem.W.mg_none_of X G z_bool, PySem.W.mg_none_of X G z_ValueError, ⟨_, PySem.W.mg_of X G y_MOST_SIGNS⟩, ⟨_, PySem.W.mg_of X G y_MOST_TEXT⟩, ⟨_, PySem.W.mg_of X G y_FIRST⟩, ⟨_, PySem.W.mg_of X G y_LAST⟩, ⟨_, PySem.W.mg_of X G y_NEVER⟩⟩
  have F__law_take := fun_mk (st := s__law_take) l0 c0 k0
  have D__law_take : Df K mg "_law_take" s__law_take ["_law_box", "_law_many"] := ⟨_, _, F__law_take, F__law_take.binds (ps := ["_law_box", "_law_many"]) (fun _ _ _ _ _ _ us hl => match us, hl with | [_, _], _ => rfl), PySem.W.mg_of X G a0⟩
  have F_is_shift := fun_mk (st := s_is_shift) l1 c1 k1
  have D_is_shift : Df K mg "is_shift" s_is_shift ["sheet", "code"] := ⟨_, _, F_is_shift, F_is_shift.binds (ps := ["sheet", "code"]) (fun _ _ _ _ _ _ us hl => match us, hl with | [_, _], _ => rfl), PySem.W.mg_of X G a1⟩
  have F_set_behind := fun_mk (st := s_set_behind) l2 c2 k2
  have D_set_behind : Df K mg "set_behind" s_set_behind ["sheet", "code", "number"] := ⟨_, _, F_set_behind, F_set_behind.binds (ps := ["sheet", "code", "number"]) (fun _ _ _ _ _ _ us hl => match us, hl with | [_, _, _], _ => rfl), PySem.W.mg_of X G a2⟩
  have F_are_signs := fun_mk (st := s_are_signs) l3 c3 k3
  have D_are_signs : Df K mg "are_signs" s_are_signs ["signs"] := ⟨_, _, F_are_signs, F_are_signs.binds (ps := ["signs"]) (fun _ _ _ _ _ _ us hl => match us, hl with | [_], _ => rfl), PySem.W.mg_of X G a3⟩
  have F_need_sheet := fun_mk (st := s_need_sheet) l4 c4 k4
  have D_need_sheet : Df K mg "need_sheet" s_need_sheet ["sheet"] := ⟨_, _, F_need_sheet, F_need_sheet.binds (ps := ["sheet"]) (fun _ _ _ _ _ _ us hl => match us, hl with | [_], _ => rfl), PySem.W.mg_of X G a4⟩
  have F_need_set := fun_mk (st := s_need_set) l5 c5 k5
  have D_need_set : Df K mg "need_set" s_need_set ["number"] := ⟨_, _, F_need_set, F_need_set.binds (ps := ["number"]) (fun _ _ _ _ _ _ us hl => match us, hl with | [_], _ => rfl), PySem.W.mg_of X G a5⟩
  have F__law_begun := fun_mk (st := s__law_begun) l6 c6 k6
  have D__law_begun : Df K mg "_law_begun" s__law_begun ["_law_script"] := ⟨_, _, F__law_begun, F__law_begun.binds (ps := ["_law_script"]) (fun _ _ _ _ _ _ us hl => match us, hl with | [_], _ => rfl), PySem.W.mg_of X G a6⟩
  have F__law_picked := fun_mk (st := s__law_picked) l7 c7 k7
  have D__law_picked : Df K mg "_law_picked" s__law_picked ["_law_box", "_law_signs", "_law_many"] := ⟨_, _, F__law_picked, F__law_picked.binds (ps := ["_law_box", "_law_signs", "_law_many"]) (fun _ _ _ _ _ _ us hl => match us, hl with | [_, _, _], _ => rfl), PySem.W.mg_of X G a7⟩
  have F__law_sheet := fun_mk (st := s__law_sheet) l8 c8 k8
  have D__law_sheet : Df K mg "_law_sheet" s__law_sheet ["_law_box", "_law_most"] := ⟨_, _, F__law_sheet, F__law_sheet.binds (ps := ["_law_box", "_law_most"]) (fun _ _ _ _ _ _ us hl => match us, hl with | [_, _], _ => rfl), PySem.W.mg_of X G a8⟩
  have F__law_read := fun_mk (st := s__law_read) l9 c9 k9
  have D__law_read : Df K mg "_law_read" s__law_read ["_law_sheet_here", "_law_tape_here", "_law_begin"] := ⟨_, _, F__law_read, F__law_read.binds (ps := ["_law_sheet_here", "_law_tape_here", "_law_begin"]) (fun _ _ _ _ _ _ us hl => match us, hl with | [_, _, _], _ => rfl), PySem.W.mg_of X G a9⟩
  have F__law_alike := fun_mk (st := s__law_alike) l10 c10 k10
  have D__law_alike : Df K mg "_law_alike" s__law_alike ["_law_found", "_law_due"] := ⟨_, _, F__law_alike, F__law_alike.binds (ps := ["_law_found", "_law_due"]) (fun _ _ _ _ _ _ us hl => match us, hl with | [_, _], _ => rfl), PySem.W.mg_of X G a10⟩
  have F_shift_to := fun_mk (st := s_shift_to) l11 c11 k11
  have D_shift_to : Df K mg "shift_to" s_shift_to ["sheet", "number"] := ⟨_, _, F_shift_to, F_shift_to.binds (ps := ["sheet", "number"]) (fun _ _ _ _ _ _ us hl => match us, hl with | [_, _], _ => rfl), PySem.W.mg_of X G a11⟩
  have F_code_of := fun_mk (st := s_code_of) l12 c12 k12
  have D_code_of : Df K mg "code_of" s_code_of ["sheet", "sign", "number"] := ⟨_, _, F_code_of, F_code_of.binds (ps := ["sheet", "sign", "number"]) (fun _ _ _ _ _ _ us hl => match us, hl with | [_, _, _], _ => rfl), PySem.W.mg_of X G a12⟩
  have F_need_text := fun_mk (st := s_need_text) l13 c13 k13
  have D_need_text : Df K mg "need_text" s_need_text ["sheet", "text"] := ⟨_, _, F_need_text, F_need_text.binds (ps := ["sheet", "text"]) (fun _ _ _ _ _ _ us hl => match us, hl with | [_, _], _ => rfl), PySem.W.mg_of X G a13⟩
  have F_costs_of := fun_mk (st := s_costs_of) l14 c14 k14
  have D_costs_of : Df K mg "costs_of" s_costs_of ["sheet", "text"] := ⟨_, _, F_costs_of, F_costs_of.binds (ps := ["sheet", "text"]) (fun _ _ _ _ _ _ us hl => match us, hl with | [_, _], _ => rfl), PySem.W.mg_of X G a14⟩
  have F_shortest := fun_mk (st := s_shortest) l15 c15 k15
  have D_shortest : Df K mg "shortest" s_shortest ["sheet", "text", "begin"] := ⟨_, _, F_shortest, F_shortest.binds (ps := ["sheet", "text", "begin"]) (fun _ _ _ _ _ _ us hl => match us, hl with | [_, _, _], _ => rfl), PySem.W.mg_of X G a15⟩
  have F__law_text := fun_mk (st := s__law_text) l16 c16 k16
  have D__law_text : Df K mg "_law_text" s__law_text ["_law_box", "_law_sheet_here", "_law_most"] := ⟨_, _, F__law_text, F__law_text.binds (ps := ["_law_box", "_law_sheet_here", "_law_most"]) (fun _ _ _ _ _ _ us hl => match us, hl with | [_, _, _], _ => rfl), PySem.W.mg_of X G a16⟩
  have F_shifted := fun_mk (st := s_shifted) l17 c17 k17
  have B_shifted := F_shifted.binds (ps := ["sheet", "best", "place"]) (fun _ _ _ _ _ _ us hl => match us, hl with | [_, _, _], _ => rfl)
  obtain ⟨hd_shifted, em_shifted⟩ := tabs "shifted" (by simp) _ _ (tab_in a17 l17 rfl u17 v17)
  have F_either := fun_mk (st := s_either) l18 c18 k18
  have B_either := F_either.binds (ps := ["sheet", "text"]) (fun _ _ _ _ _ _ us hl => match us, hl with | [_, _], _ => rfl)
  obtain ⟨hd_either, em_either⟩ := tabs "either" (by simp) _ _ (tab_in a18 l18 rfl u18 v18)
  have F__law_grown := fun_mk (st := s__law_grown) l19 c19 k19
  have D__law_grown : Df K mg "_law_grown" s__law_grown ["_law_sheet_here", "_law_text_here", "_law_tapes"] := ⟨_, _, F__law_grown, F__law_grown.binds (ps := ["_law_sheet_here", "_law_text_here", "_law_tapes"]) (fun _ _ _ _ _ _ us hl => match us, hl with | [_, _, _], _ => rfl), PySem.W.mg_of X G a19⟩
  have F__law_first := fun_mk (st := s__law_first) l20 c20 k20
  have D__law_first : Df K mg "_law_first" s__law_first ["_law_sheet_here", "_law_text_here", "_law_begins"] := ⟨_, _, F__law_first, F__law_first.binds (ps := ["_law_sheet_here", "_law_text_here", "_law_begins"]) (fun _ _ _ _ _ _ us hl => match us, hl with | [_, _, _], _ => rfl), PySem.W.mg_of X G a20⟩
  have F_law := fun_mk (st := s_law) l21 c21 k21
  generalize hTT : ([(pT_shifted, (Str.ofString "shifted" ++ ".<locals>.") ++ "<lambda>"), (pT_either, (Str.ofString "either" ++ ".<locals>.") ++ "<lambda>")] : List (Addr × Str)) = TTs
  have hm_shifted : (pT_shifted, (Str.ofString "shifted" ++ ".<locals>.") ++ "<lambda>") ∈ TTs := by rw [← hTT]; simp
  have hu_shifted : ∀ p ∈ TTs, p.1 = pT_shifted → p.2 = (Str.ofString "shifted" ++ ".<locals>.") ++ "<lambda>" := by
    intro p hp e
    rw [← hTT] at hp
    simp only [List.mem_cons, List.not_mem_nil, or_false] at hp
    rcases hp with z | z
    · rw [z]
    · rw [z] at e; exact absurd e (Ne.symm ne_0_1)
  have hm_either : (pT_either, (Str.ofString "either" ++ ".<locals>.") ++ "<lambda>") ∈ TTs := by rw [← hTT]; simp
  have hu_either : ∀ p ∈ TTs, p.1 = pT_either → p.2 = (Str.ofString "either" ++ ".<locals>.") ++ "<lambda>" := by
    intro p hp e
    rw [← hTT] at hp
    simp only [List.mem_cons, List.not_mem_nil, or_false] at hp
    rcases hp with z | z
    · rw [z] at e; exact absurd e ne_0_1
    · rw [z]
  refine ⟨PySem.W.fnOf "law" "law" (defArgs s_law) (defBody s_law) (defScope s_law) .none kV21 dc21 pm21 an21 cd21 ct21, [(cA17, pT_shifted), (cA18, pT_either)], spLaw K TTs, (by intro p hp; simp only [List.mem_cons, List.not_mem_nil, or_false] at hp; rcases hp with z | z <;> subst z <;> first | exact em_shifted | exact em_either), (by intro p hp; simp only [List.mem_cons, List.not_mem_nil, or_false] at hp; rcases hp with z | z <;> subst z <;> first | exact n17 | exact n18), (by intro p hp; simp only [List.mem_cons, List.not_mem_nil, or_false] at hp; rcases hp with z | z <;> subst z <;> first | exact hd_shifted | exact hd_either), fun s v => .of_eq rfl, fun H a ns hl _ hH hS => ⟨a, ns, rfl, hS, hl, fun p hp => ?_, fun _ => rfl⟩, fun base _ _ tb => ?_⟩
  · rw [← hTT] at hp
    simp only [List.mem_cons, List.not_mem_nil, or_false] at hp
    rcases hp with z | z <;> subst z
    · exact LamX.TabS.nil (hH (cA17, pT_shifted) (by simp))
    · exact LamX.TabS.nil (hH (cA18, pT_either) (by simp))
  · have D_shifted : DfT K mg base "shifted" s_shifted ["sheet", "best", "place"] pT_shifted := ⟨_, _, _, _, _, _, _, _, _, _, l17, c17, k17, PySem.W.mg_of X G a17, B_shifted, tb (cA17, pT_shifted) (by simp)⟩
    have D_either : DfT K mg base "either" s_either ["sheet", "text"] pT_either := ⟨_, _, _, _, _, _, _, _, _, _, l18, c18, k18, PySem.W.mg_of X G a18, B_either, tb (cA18, pT_either) (by simp)⟩
    have o__law_take := ok__law_take (P := l.prog) (w := w) (K := K) (mg := mg) (base := base) (k := 0) (F := D__law_take)
    have o_is_shift := ok_is_shift (P := l.prog) (w := w) (K := K) (mg := mg) (base := base) (k := 0) (T := T) (F := D_is_shift)
    have o_set_behind := ok_set_behind (P := l.prog) (w := w) (K := K) (mg := mg) (base := base) (k := 1) (T := T) (F := D_set_behind) (o_is_shift := o_is_shift.mono (by decide))
    have o_are_signs := ok_are_signs (P := l.prog) (w := w) (K := K) (mg := mg) (base := base) (k := 0) (T := T) (F := D_are_signs)
    have o_need_sheet := ok_need_sheet (P := l.prog) (w := w) (K := K) (mg := mg) (base := base) (k := 1) (T := T) (F := D_need_sheet) (o_are_signs := o_are_signs.mono (by decide))
    have o_need_set := ok_need_set (P := l.prog) (w := w) (K := K) (mg := mg) (base := base) (k := 0) (T := T) (F := D_need_set)
    have o__law_begun := ok__law_begun (P := l.prog) (w := w) (K := K) (mg := mg) (base := base) (k := 0) (T := T) (F := D__law_begun)
    have o__law_picked := ok__law_picked (P := l.prog) (w := w) (K := K) (mg := mg) (base := base) (k := 1) (T := T) (F := D__law_picked) (o__law_take := o__law_take.mono (by decide))
    have o__law_sheet := ok__law_sheet (P := l.prog) (w := w) (K := K) (mg := mg) (base := base) (k := 2) (T := T) (F := D__law_sheet) (o__law_take := o__law_take.mono (by decide)) (o__law_picked := o__law_picked.mono (by decide))
    have o__law_read := ok__law_read (P := l.prog) (w := w) (K := K) (mg := mg) (base := base) (k := 0) (T := T) (F := D__law_read)
    have o__law_alike := ok__law_alike (P := l.prog) (w := w) (K := K) (mg := mg) (base := base) T D__law_alike 5
    have o_shift_to := ok_shift_to (P := l.prog) (w := w) (K := K) (mg := mg) (base := base) (k := 0) (T := T) (F := D_shift_to)
    have o_code_of := ok_code_of (P := l.prog) (w := w) (K := K) (mg := mg) (base := base) (k := 0) (T := T) (F := D_code_of)
    have o_need_text := ok_need_text (P := l.prog) (w := w) (K := K) (mg := mg) (base := base) (k := 0) (T := T) (F := D_need_text)
    have o_costs_of := ok_costs_of (P := l.prog) (w := w) (K := K) (mg := mg) (base := base) (k := 2) (T := T) (F := D_costs_of) (o_code_of := o_code_of.mono (by decide)) (o_set_behind := o_set_behind.mono (by decide))
    have o_shortest := ok_shortest (P := l.prog) (w := w) (K := K) (mg := mg) (base := base) (k := 3) (T := T) (F := D_shortest) (o_need_sheet := o_need_sheet.mono (by decide)) (o_need_text := o_need_text.mono (by decide)) (o_need_set := o_need_set.mono (by decide)) (o_costs_of := o_costs_of.mono (by decide)) (o_code_of := o_code_of.mono (by decide)) (o_set_behind := o_set_behind.mono (by decide)) (o_shift_to := o_shift_to.mono (by decide))
    have o__law_text := ok__law_text (P := l.prog) (w := w) (K := K) (mg := mg) (base := base) (k := 1) (T := T) (F := D__law_text) (o__law_take := o__law_take.mono (by decide))
    have o_shifted := ok_shifted (P := l.prog) (w := w) (K := K) (mg := mg) (base := base) (k := 0) (T := T) (F := D_shifted) (TTs := TTs) (PT := pT_shifted) (hm := hm_shifted) (hu := hu_shifted) (o_shift_to := o_shift_to.mono (by decide))
    have o_either := ok_either (P := l.prog) (w := w) (K := K) (mg := mg) (base := base) (k := 1) (T := T) (F := D_either) (TTs := TTs) (PT := pT_either) (hm := hm_either) (hu := hu_either) (o_need_sheet := o_need_sheet.mono (by decide)) (o_need_text := o_need_text.mono (by decide)) (o_shifted := o_shifted.mono (by decide)) (o_set_behind := o_set_behind.mono (by decide))
    have o__law_grown := ok__law_grown (P := l.prog) (w := w) (K := K) (mg := mg) (base := base) (k := 1) (T := T) (F := D__law_grown) (o__law_read := o__law_read.mono (by decide))
    have o__law_first := ok__law_first (P := l.prog) (w := w) (K := K) (mg := mg) (base := base) (k := 2) (T := T) (F := D__law_first) (o__law_grown := o__law_grown.mono (by decide))
    exact ok_law (k := 5) (T := T) (F := F_law) (o__law_begun := o__law_begun.mono (by decide)) (o__law_sheet := o__law_sheet.mono (by decide)) (o__law_text := o__law_text.mono (by decide)) (o__law_alike := o__law_alike.mono (by decide)) (o__law_take := o__law_take.mono (by decide)) (o_either := o_either.mono (by decide)) (o__law_first := o__law_first.mono (by decide)) (o_shortest := o_shortest.mono (by decide))
end Z
open PySem PySem.W PyProof.Rows
set_option maxRecDepth 100000 in
set_option maxHeartbeats 0 in
theorem PySem.Challenge.cw_shifttape_k04_whole_no_shorter_at_all_holds : PySem.Challenge.rw_shifttape_k04_whole_no_shorter_at_all.Holds := by
  w_on; o_law; k_head; (case hw => w_witness2)
  k_fill
  refine Z.walk_tabs (l := PySem.Challenge.rw_shifttape_k04_whole_no_shorter_at_all) (m := 63) (lev := 6) (par := "_law_script") ["shifted", "either"] rfl (by decide) rfl ⟨rfl, by decide, by decide⟩ (by kernel_rfl) (fun w h Y => PySem.W.km_in_of Y) ?F
  case F =>
    intro w mg fa h KX G hmg tabs
    refine' Z.all_mk KX G hmg tabs ?a0 ?l0 ?c0 ?k0 ?a1 ?l1 ?c1 ?k1 ?a2 ?l2 ?c2 ?k2 ?a3 ?l3 ?c3 ?k3 ?a4 ?l4 ?c4 ?k4 ?a5 ?l5 ?c5 ?k5 ?a6 ?l6 ?c6 ?k6 ?a7 ?l7 ?c7 ?k7 ?a8 ?l8 ?c8 ?k8 ?a9 ?l9 ?c9 ?k9 ?a10 ?l10 ?c10 ?k10 ?a11 ?l11 ?c11 ?k11 ?a12 ?l12 ?c12 ?k12 ?a13 ?l13 ?c13 ?k13 ?a14 ?l14 ?c14 ?k14 ?a15 ?l15 ?c15 ?k15 ?a16 ?l16 ?c16 ?k16 ?a17 ?l17 ?c17 ?k17 ?u17 ?a18 ?l18 ?c18 ?k18 ?u18 ?a19 ?l19 ?c19 ?k19 ?a20 ?l20 ?c20 ?k20 ?a21 ?l21 ?c21 ?k21 ?z_len ?z_range ?z_list ?z_int ?z_str ?z_all ?z_isinstance ?z_min ?z_sorted ?z_enumerate ?z_reversed ?z_set ?z_tuple ?z_bool ?z_ValueError ?y_MOST_SIGNS ?y_MOST_TEXT ?y_FIRST ?y_LAST ?y_NEVER ?v17 ?n17 ?v18 ?n18 ?ne_0_1
    (case a0 => k_is); (case l0 => k_is); (case c0 => k_is); (case k0 => k_is); (case a1 => k_is); (case l1 => k_is); (case c1 => k_is); (case k1 => k_is)
    (case a2 => k_is); (case l2 => k_is); (case c2 => k_is); (case k2 => k_is); (case a3 => k_is); (case l3 => k_is); (case c3 => k_is); (case k3 => k_is)
    (case a4 => k_is); (case l4 => k_is); (case c4 => k_is); (case k4 => k_is); (case a5 => k_is); (case l5 => k_is); (case c5 => k_is); (case k5 => k_is)
    (case a6 => k_is); (case l6 => k_is); (case c6 => k_is); (case k6 => k_is); (case a7 => k_is); (case l7 => k_is); (case c7 => k_is); (case k7 => k_is)
    (case a8 => k_is); (case l8 => k_is); (case c8 => k_is); (case k8 => k_is); (case a9 => k_is); (case l9 => k_is); (case c9 => k_is); (case k9 => k_is)
    (case a10 => k_is); (case l10 => k_is); (case c10 => k_is); (case k10 => k_is); (case a11 => k_is); (case l11 => k_is); (case c11 => k_is); (case k11 => k_is)
    (case a12 => k_is); (case l12 => k_is); (case c12 => k_is); (case k12 => k_is); (case a13 => k_is); (case l13 => k_is); (case c13 => k_is); (case k13 => k_is)
    (case a14 => k_is); (case l14 => k_is); (case c14 => k_is); (case k14 => k_is); (case a15 => k_is); (case l15 => k_is); (case c15 => k_is); (case k15 => k_is)
    (case a16 => k_is); (case l16 => k_is); (case c16 => k_is); (case k16 => k_is); (case a17 => k_is); (case l17 => k_is); (case c17 => k_is); (case k17 => k_is)
    (case u17 => k_is); (case a18 => k_is); (case l18 => k_is); (case c18 => k_is); (case k18 => k_is); (case u18 => k_is); (case a19 => k_is); (case l19 => k_is)
    (case c19 => k_is); (case k19 => k_is); (case a20 => k_is); (case l20 => k_is); (case c20 => k_is); (case k20 => k_is); (case a21 => k_is); (case l21 => k_is)
    (case c21 => k_is); (case k21 => k_is); (case z_len => k_is); (case z_range => k_is); (case z_list => k_is); (case z_int => k_is); (case z_str => k_is); (case z_all => k_is)
    (case z_isinstance => k_is); (case z_min => k_is); (case z_sorted => k_is); (case z_enumerate => k_is); (case z_reversed => k_is); (case z_set => k_is); (case z_tuple => k_is); (case z_bool => k_is)
    (case z_ValueError => k_is); (case y_MOST_SIGNS => k_is); (case y_MOST_TEXT => k_is); (case y_FIRST => k_is); (case y_LAST => k_is); (case y_NEVER => k_is)
    (case v17 => exact rfl)
    (case n17 => kernel_rfl)
    (case v18 => exact rfl)
    (case n18 => kernel_rfl)
    (case ne_0_1 => decide)
