import PyProof.Rows.All
import Wide.All
import OpenK.AllK
import Wide.FinOn
import KE.KStateDown
import HandS.ForMost
import HandS.Walk
import HandS.Star
import HandS.DictComp
import HandS.Defaults
import HandS.Property
import HandS.ClsMeth
import HandS.IsInst
import HandS.Flow
import HandS.Deep
import HandS.NoneIn
import HandS.Sort
import HandS.SortRule
import HandS.TupAny
import HandS.Wide
import HandS.WordsExc
import HandS.Head2
import HandS.HeadEnd
import HandS.HeadHook2
import KE.GoesEnum
import KE.GoesMore
import KE.DataFind
import KE.SortData
import HandS.SetFor
import HandS.TryOnly
import KE.KTupSum
import HandS.More
import HandS.Dict
import HandS.Style
import HandS.SetTxt0
import HandS.Strs
import HandS.MakeKwOnly
import KE.DataMinMax
import KE.KCallOwn
import HandS.ListItems
import KE.KDictList
import HandS.Lambda
import HandS.HeadHook4
import OpenK.KOps
import HandS.ExcIs
import HandS.ExcField
import HandS.ExcInit
import HandS.ExcOwn
import KE.KExcIs
import HandS.FStr
import KE.KDflt
import PyProof.FString2
import HandS.FStrTup
import KE.KOpsOwn
import HandS.EndTab
import KE.SortLaws
import HandS.Conv
import PySem.Challenge.RW_callbells_k02_signs_of_set_ups
set_option Elab.async false
set_option linter.all false
set_option maxRecDepth 100000
set_option maxHeartbeats 1000000
namespace Z
open PySem PySem.Spec PyProof.Rows L2
abbrev Fg := PySem.W.Frag
def fd0 : FuncData := PySem.W.fnOf "" "" (defArgs (.Pass ⟨0, 0, 0, 0⟩)) [] (defScope (.Pass ⟨0, 0, 0, 0⟩)) .none .none .none .none none .none .none
def fdOf (K : Fg) (a : Addr) : FuncData := match K.lookup a with
  | some ⟨_, _, .func fd, _⟩ => fd
  | _ => fd0
theorem fdOf_eq {K : Fg} {x q : Str} {pa : Arguments} {bd : List Stmt} {sc : Scope} {dv : List V} {kw : List (Str × V)} {f : Addr} {fd : FuncData} (F : FunD K x q pa bd sc dv kw f fd) : fdOf K f = fd := by
  obtain ⟨⟨oc, od, dV, kV, doc, pm, an, cdv, ct, osl, e, lk, _⟩, _⟩ := F
  unfold fdOf
  rw [lk]
structure Cal (K : Fg) (f : Addr) (ps : List Str) (dvs : List V) : Prop where
  kp : PySem.W.keepIn K (.ref f) = true
  b : ∃ ds, Binds K (fdOf K f) ps ds ∧ Vals dvs ds
section
variable {X : Cx} {k : Nat} {f C p0 : Addr} {ps : List Str} {sp : Sp} {dvs : List V} {x m : Str} {p pos apos : Pos} {e o i : Expr} {es : List Expr} {ta tb : TE} {t : TA} {E : XK}
abbrev FnX (X : Cx) (k : Nat) (f : Addr) (ps : List Str) (sp : Sp) : Prop := FnOk X.prog X.w X.K X.mg X.base (L2.CX X.prog X.w) k f (fdOf X.K f) ps sp
theorem z_call (F : FnX X k f ps sp) (c : Cal X.K f ps dvs) (hr : Room k X.A) (hg : Gl X x) (hm : X.mg x = some (.ref f)) (hx : Passes (L2.CX X.prog X.w) X E) (ha : PA X (e :: es) t) (hdb : (x == ("__debug__" : Str)) = false := by decide)
    (he : starEach (e :: es) X.env = (false, eval e X.env) :: starEach es X.env := by rfl) (hpl : (backTo pos (starEach es X.env)).any (·.1) = false := by rfl) : PE X (.Call (.Name x p) (e :: es) [] pos) (tCall sp dvs E t) := by
  obtain ⟨ds, hb, hd⟩ := c.b
  exact pe_call F hr hg hm c.kp hb hd hx ha hdb he hpl
theorem z_meth {pl : Sem Bool} (he : PE X o ta) (cl : Cls X.K C) (hm : Meth X.K C m f) (F : FnX X k f ps sp) (c : Cal X.K f ps dvs) (hr : Room k X.A) (hx : Passes (L2.CX X.prog X.w) X E) (ha : PA X (e :: es) t)
    (hst : starEach (e :: es) X.env = (false, eval e X.env) :: starEach es X.env := by rfl) (hpl : (backTo pos (starEach es X.env)).any (·.1) = false := by rfl)
    (ht : eval (.Call (.Attribute o m apos) (e :: es) [] pos) X.env = (do
      let ov ← eval o X.env
      standAt apos.atName
      let (f, first) ← holding [ov] (getMethod ov m pl)
      callWith pos f first (backTo pos (starEach (e :: es) X.env)) (backToKw pos (keywordEach [] X.env))) := by rfl) :
    PE X (.Call (.Attribute o m apos) (e :: es) [] pos) (tMeth C m sp dvs E ta t) := by
  obtain ⟨ds, hb, hd⟩ := c.b
  exact pe_meth he cl hm F hr hb hd hx ha hst hpl ht
theorem z_make (M : Mk X.K C f) (F : FnX X k f ps sp) (c : Cal X.K f ps dvs) (hr : Room (k + 1) X.A) (hg : Gl X x) (hm : X.mg x = some (.ref C)) (hx : Passes (L2.CX X.prog X.w) X E) (ha : PA X (e :: es) t) (hdb : (x == ("__debug__" : Str)) = false := by decide)
    (he : starEach (e :: es) X.env = (false, eval e X.env) :: starEach es X.env := by rfl) (hpl : (backTo pos (starEach es X.env)).any (·.1) = false := by rfl) : PE X (.Call (.Name x p) (e :: es) [] pos) (tMake C sp dvs E t) := by
  obtain ⟨ds, hb, hd⟩ := c.b
  exact pe_make M F hr hg hm hb hd hx ha hdb he hpl
theorem z_prop (he : PE X e ta) (cl : Cls X.K C) (hp : PropOf X.K C m p0 f) (F : FnX X k f ps sp) (c : Cal X.K f ps []) (hr : Room (k + 1) X.A) (hab : attributeBase e m X.env (eval e X.env) = eval e X.env) : PE X (.Attribute e m pos) (tProp C sp [] E0 ta) := by
  obtain ⟨ds, hb, hd⟩ := c.b
  exact pe_prop he cl hp F hr hb hd passL hab
theorem run_in1 {pins : List (Addr × Obj)} {σ : L2.St} {H : Hp} {s : Shared} {Q : VK} {us : List Value} {vs : List V} (F : FnX X k f ps sp) (c : Cal X.K f ps []) (hr : Room (k + 1) X.A) (hx : Passes (L2.CX X.prog X.w) X E)
    (I : Inv X pins σ H s) (r : Vals vs us) (h : sp vs H Q E) : wpAny (model X.prog X.w) X.A.in1 (call (.ref f) us) (EP X pins σ Q) X.xe s := by
  obtain ⟨ds, hb, hd⟩ := c.b
  cases hd
  have hl : (us ++ []).length = ps.length := by
    rw [List.append_nil, ← r.length]
    exact F.len _ _ _ _ h
  have hbb := hb s us I.kIn hl
  rw [List.append_nil] at hbb
  refine wpAny_call (codeAny_mono (F.run X.A.in1 X.stack s H ⟨us, []⟩ us vs Q E hr.in1 I.env0.in1 hbb r h) fun r s' hq => ?_)
  cases r with
  | error e => exact hx pins σ H s e s' I hq
  | ok fl =>
    cases fl with
    | ret u => exact I.after hq
    | next => exact False.elim hq
    | brk => exact False.elim hq
    | cont => exact False.elim hq
theorem run_in0 {pins : List (Addr × Obj)} {σ : L2.St} {H : Hp} {s : Shared} {Q : VK} {us : List Value} {vs : List V} (F : FnX X k f ps sp) (c : Cal X.K f ps []) (hr : Room k X.A) (hx : Passes (L2.CX X.prog X.w) X E)
    (I : Inv X pins σ H s) (r : Vals vs us) (h : sp vs H Q E) : wpAny (model X.prog X.w) X.A (call (.ref f) us) (EP X pins σ Q) X.xe s := by
  obtain ⟨ds, hb, hd⟩ := c.b
  cases hd
  have h' : sp (vs ++ []) H Q E := by rw [List.append_nil]; exact h
  exact run_fn F hr hb .nil hx I r h'
def tIxO (C : Addr) (sp : Sp) (E : XK) (ta tb : TE) : TE := fun σ H Q => ta σ H fun x H1 => tb σ H1 fun y H2 => ∃ a dx fs, x = .ref a ∧ H2 a = some (.ins C dx fs) ∧ sp [.ref a, y] H2 Q E
theorem z_ixO (ho : PE X o ta) (hi : PE X i tb) (hs : PySem.W.findIn X.K (.ref C) "__getitem__" = some (some (.ref f))) (hf1 : PySem.W.fnIn X.K f = true) (hfn : PySem.W.isFn X.K (.ref f) = true) (F : FnX X k f ps sp) (c : Cal X.K f ps []) (hr : Room (k + 1) X.A)
    (hx : Passes (L2.CX X.prog X.w) X E) (hsl : ∀ x i', subscripted i true x i' = runValue (.builtin "lifetime.subscript" ⟨[x, i'], []⟩) := by intros; with_unfolding_all rfl) : PE X (.Subscript o i pos) (tIxO C sp E ta tb) := by
  refine ⟨fun pins s σ H Q I h => ?_⟩
  refine Subscript_ (binT ho hi I h fun v u s2 x y H2 I2 rx ry q => ?_)
  obtain ⟨a, dx, fs, rfl, ea, q⟩ := q
  obtain rfl : v = Value.ref a := rx
  obtain ⟨mA, O, _, _, _, _⟩ := ins_get I2.hok ea
  obtain ⟨od, J, _⟩ := O.look
  obtain ⟨mf, fr⟩ := I2.fr
  exact PySem.W.sub_K fr I2.mod.kin J hs hf1 hfn (run_in1 F c hr hx I2 (.cons (show L2.RelV (.ref a) (.ref a) from rfl) (.cons ry .nil)) q) (hsl _ _)
def tInO (C : Addr) (sp : Sp) (neg : Bool) (E : XK) : R2 := fun x y H Q => ∃ a dx fs, y = .ref a ∧ H a = some (.ins C dx fs) ∧ sp [.ref a, x] H (fun v H2 => ∃ b, v = .bl b ∧ Q (.bl (if neg then !b else b)) H2) E
theorem op_inO (hs : PySem.W.findIn X.K (.ref C) "__contains__" = some (some (.ref f))) (hfn : PySem.W.isFn X.K (.ref f) = true) (F : FnX X k f ps sp) (c : Cal X.K f ps []) (hr : Room k X.A) (hx : Passes (L2.CX X.prog X.w) X E) : OpR X (compareOp .In) (tInO C sp false E) := by
  intro pins s σ H x y v u Q I rx ry h
  obtain ⟨a, dx, fs, rfl, ea, q⟩ := h
  obtain rfl : u = Value.ref a := ry
  obtain ⟨mA, O, _, _, _, _⟩ := ins_get I.hok ea
  obtain ⟨od, J, _⟩ := O.look
  obtain ⟨mf, fr⟩ := I.fr
  refine PySem.W.in_K fr I.mod.kin J hs hfn (thn (run_in0 F c hr hx I (.cons (show L2.RelV (.ref a) (.ref a) from rfl) (.cons rx .nil)) q) fun r s' ⟨z, H2, I2, rz, b, ez, q2⟩ => ?_)
  subst ez
  cases rz
  exact wpAny_truthy_bool ⟨.bl b, H2, I2, rfl, q2⟩
theorem op_notInO (hs : PySem.W.findIn X.K (.ref C) "__contains__" = some (some (.ref f))) (hfn : PySem.W.isFn X.K (.ref f) = true) (F : FnX X k f ps sp) (c : Cal X.K f ps []) (hr : Room k X.A) (hx : Passes (L2.CX X.prog X.w) X E) : OpR X (compareOp .NotIn) (tInO C sp true E) := by
  intro pins s σ H x y v u Q I rx ry h
  obtain ⟨a, dx, fs, rfl, ea, q⟩ := h
  obtain rfl : u = Value.ref a := ry
  obtain ⟨mA, O, _, _, _, _⟩ := ins_get I.hok ea
  obtain ⟨od, J, _⟩ := O.look
  obtain ⟨mf, fr⟩ := I.fr
  refine PySem.W.notIn_K fr I.mod.kin J hs hfn (thn (run_in0 F c hr hx I (.cons (show L2.RelV (.ref a) (.ref a) from rfl) (.cons rx .nil)) q) fun r s' ⟨z, H2, I2, rz, b, ez, q2⟩ => ?_)
  subst ez
  cases rz
  exact wpAny_truthy_bool ⟨.bl (!b), H2, I2, rfl, q2⟩
end
end Z
set_option maxHeartbeats 1000000
namespace L2
open PySem PySem.Spec PyProof.Rows Z
def Kp (A : List Addr) (H H' : Hp) : Prop := ∀ a o, H a = some o → a ∉ A → H' a = some o
theorem Same.kp {H H' : Hp} {A : List Addr} (s : Same H H') : Kp A H H' := fun a o h _ => s a o h
theorem Kp.refl {A : List Addr} {H : Hp} : Kp A H H := fun _ _ h _ => h
theorem Kp.nil {H H' : Hp} (k : Kp [] H H') : Same H H' := fun a o h => k a o h (by simp)
theorem Kp.mono {A B : List Addr} {H H' : Hp} (k : Kp A H H') (s : ∀ a ∈ A, a ∈ B) : Kp B H H' := fun a o h n => k a o h fun z => n (s a z)
theorem Kp.trans {A : List Addr} {H H1 H2 : Hp} (a : Kp A H H1) (b : Kp A H1 H2) : Kp A H H2 := fun c o h n => b c o (a c o h n) n
theorem Same.new {H : Hp} {p : Addr} {o : HO} (h : H p = none) : Same H (upd H p o) := fun a u e => by
  rw [upd_ne (ne_of_none e h)]
  exact e
theorem Same.sqT {K : Fg} {H H' : Hp} {a : Addr} {xs : List V} (e : Same H H') (h : SqT K H a xs) : SqT K H' a xs := by
  rcases h with (h | ⟨o, h⟩) | h
  · exact .inl (.inl (e _ _ h))
  · exact .inl (.inr ⟨o, e _ _ h⟩)
  · exact .inr h
def Tk (H H' : Hp) : Prop := ∀ a, ((∃ xs, H a = some (.tup xs)) ∨ ∃ o u, H a = some (.frz o u)) → H' a = H a
theorem Tk.refl (H : Hp) : Tk H H := fun _ _ => rfl
theorem Tk.trans {H H1 H2 : Hp} (a : Tk H H1) (b : Tk H1 H2) : Tk H H2 := fun c h => by
  have e := a c h
  have h1 : (∃ xs, H1 c = some (.tup xs)) ∨ ∃ o u, H1 c = some (.frz o u) := by
    rw [e]
    exact h
  rw [b c h1, e]
theorem Same.tk {H H' : Hp} (s : Same H H') : Tk H H' := fun a h => by
  rcases h with ⟨xs, h⟩ | ⟨o, u, h⟩ <;> rw [h, s a _ h]
theorem Tk.sqT {K : Fg} {H H' : Hp} {a : Addr} {xs : List V} (e : Tk H H') (h : SqT K H a xs) : SqT K H' a xs := by
  rcases h with (h | ⟨o, h⟩) | h
  · exact .inl (.inl (by rw [e a (.inl ⟨_, h⟩)]; exact h))
  · exact .inl (.inr ⟨o, by rw [e a (.inr ⟨_, _, h⟩)]; exact h⟩)
  · exact .inr h
mutual
theorem Dp.same {K : Fg} {H H' : Hp} (e : Same H H') : ∀ {v : V} {d : PyData}, Dp K H v d → Dp K H' v d
  | _, _, .non => .non
  | _, _, .bl b => .bl b
  | _, _, .int i => .int i
  | _, _, .str x => .str x
  | _, _, .lst s a => .lst (e.seq s) (DpAll.same e a)
  | _, _, .tup s a => .tup (e.sqT s) (DpAll.same e a)
theorem DpAll.same {K : Fg} {H H' : Hp} (e : Same H H') : ∀ {v : List V} {d : List PyData}, DpAll K H v d → DpAll K H' v d
  | _, _, .nil => .nil
  | _, _, .cons a b => .cons (Dp.same e a) (DpAll.same e b)
end
mutual
def tupd : PyData → Bool
  | .none => true
  | .bool _ => true
  | .int _ => true
  | .str _ => true
  | .list _ => false
  | .tuple xs => tupds xs
  | .dict _ => false
def tupds : List PyData → Bool
  | [] => true
  | d :: ds => tupd d && tupds ds
end
mutual
theorem Dp.tk {K : Fg} {H H' : Hp} (e : Tk H H') : ∀ {v : V} {d : PyData}, tupd d = true → Dp K H v d → Dp K H' v d
  | _, _, _, .non => .non
  | _, _, _, .bl b => .bl b
  | _, _, _, .int i => .int i
  | _, _, _, .str x => .str x
  | _, _, h, .lst s a => by unfold tupd at h; cases h
  | _, _, h, .tup s a => .tup (e.sqT s) (DpAll.tk e (by unfold tupd at h; exact h) a)
theorem DpAll.tk {K : Fg} {H H' : Hp} (e : Tk H H') : ∀ {v : List V} {d : List PyData}, tupds d = true → DpAll K H v d → DpAll K H' v d
  | _, _, _, .nil => .nil
  | _, _, h, .cons a b => by
    unfold tupds at h
    obtain ⟨h1, h2⟩ := Bool.and_eq_true_iff.mp h
    exact .cons (Dp.tk e h1 a) (DpAll.tk e h2 b)
end
theorem DpAll.len {K : Fg} {H : Hp} : ∀ {v : List V} {d : List PyData}, DpAll K H v d → v.length = d.length
  | _, _, .nil => rfl
  | _, _, .cons _ b => by rw [List.length_cons, List.length_cons, DpAll.len b]
theorem DpAll.get {K : Fg} {H : Hp} : ∀ {v : List V} {d : List PyData} {i : Nat} {x : PyData}, DpAll K H v d → d[i]? = some x → ∃ y, v[i]? = some y ∧ Dp K H y x
  | _, _, i, _, .nil, h => by simp at h
  | _, _, 0, _, .cons a _, h => by
    simp at h
    subst h
    exact ⟨_, rfl, a⟩
  | _, _, i + 1, _, .cons _ b, h => by
    obtain ⟨y, h1, h2⟩ := DpAll.get (i := i) b (by simpa using h)
    exact ⟨y, by simpa using h1, h2⟩
theorem DpAll.getv {K : Fg} {H : Hp} : ∀ {v : List V} {d : List PyData} {i : Nat} {y : V}, DpAll K H v d → v[i]? = some y → ∃ x, d[i]? = some x ∧ Dp K H y x
  | _, _, i, _, .nil, h => by simp at h
  | _, _, 0, _, .cons a _, h => by
    simp at h
    subst h
    exact ⟨_, rfl, a⟩
  | _, _, i + 1, _, .cons _ b, h => by
    obtain ⟨y, h1, h2⟩ := DpAll.getv (i := i) b (by simpa using h)
    exact ⟨y, by simpa using h1, h2⟩
theorem DpAll.app {K : Fg} {H : Hp} : ∀ {v u : List V} {d e : List PyData}, DpAll K H v d → DpAll K H u e → DpAll K H (v ++ u) (d ++ e)
  | _, _, _, _, .nil, s => s
  | _, _, _, _, .cons a b, s => .cons a (DpAll.app b s)
theorem DpAll.take {K : Fg} {H : Hp} : ∀ {v : List V} {d : List PyData} (n : Nat), DpAll K H v d → DpAll K H (v.take n) (d.take n)
  | _, _, 0, _ => .nil
  | _, _, _ + 1, .nil => .nil
  | _, _, n + 1, .cons a b => .cons a (DpAll.take n b)
theorem DpAll.drop {K : Fg} {H : Hp} : ∀ {v : List V} {d : List PyData} (n : Nat), DpAll K H v d → DpAll K H (v.drop n) (d.drop n)
  | _, _, 0, r => r
  | _, _, _ + 1, .nil => .nil
  | _, _, n + 1, .cons _ b => DpAll.drop n b
theorem Dp.tupI {K : Fg} {H : Hp} {v : V} {ds : List PyData} (h : Dp K H v (.tuple ds)) : ∃ a xs, v = .ref a ∧ SqT K H a xs ∧ DpAll K H xs ds := by
  cases h with
  | tup s a => exact ⟨_, _, rfl, s, a⟩
theorem Dp.lstI {K : Fg} {H : Hp} {v : V} {ds : List PyData} (h : Dp K H v (.list ds)) : ∃ a xs, v = .ref a ∧ SqL K H a xs ∧ DpAll K H xs ds := by
  cases h with
  | lst s a => exact ⟨_, _, rfl, s, a⟩
def tyD : PyData → String
  | .none => "NoneType"
  | .bool _ => "bool"
  | .int _ => "int"
  | .str _ => "str"
  | .list _ => "list"
  | .tuple _ => "tuple"
  | .dict _ => "dict"
theorem Dp.ty {K : Fg} {H : Hp} {v : V} {d : PyData} (h : Dp K H v d) : TyX K H v (.type (tyD d)) := by
  cases h with
  | non => exact .base .non
  | bl b => exact .base (.bl b)
  | int i => exact .base (.int i)
  | str x => exact .base (.str x)
  | lst s a =>
    rcases s with (s | ⟨o, s⟩) | ⟨o, its, n, e, c, _⟩
    · exact .base (.lst s)
    · exact .base (.frz s)
    · exact .kList e c
  | tup s a =>
    rcases s with (s | ⟨o, s⟩) | ⟨o, its, n, e, c, _⟩
    · exact .base (.tup s)
    · exact .fTuple s
    · exact .kTuple e c
def isiT (T t : String) : Bool := T == t || (T == "int" && t == "bool")
def isiB (T : String) (d : PyData) : Bool := isiT T (tyD d)
theorem isi_kit {K : Fg} {T : String} {d : PyData} (hT : T ∈ ["int", "bool", "str", "tuple", "list"]) : PySem.W.kitOne K (.type (tyD d)) (.type T) = some (isiB T d) := by
  have ht : tyD d ∈ ["NoneType", "bool", "int", "str", "list", "tuple", "dict"] := by cases d <;> simp [tyD]
  unfold isiB
  generalize tyD d = t at ht
  have all : ∀ T ∈ ["int", "bool", "str", "tuple", "list"], ∀ t ∈ ["NoneType", "bool", "int", "str", "list", "tuple", "dict"], kitB t T = some (isiT T t) := by decide +kernel
  exact kit_ty (all T hT t ht)
section
variable {X : Cx}
def rIsiD (K : Fg) : List V → Hp → VK → Prop := fun xs H Q => ∃ (x : V) (T : String) (d : PyData), xs = [x, .ty T] ∧ Dp K H x d ∧ T ∈ ["int", "bool", "str", "tuple", "list"] ∧ Q (.bl (isiB T d)) H
theorem call_isiD : CallR X (.builtin "isinstance") (rIsiD X.K) := by
  intro pins s σ H xs us Q I r h
  obtain ⟨x, T, d, e, hd, hT, q⟩ := h
  exact call_isi pins s σ H xs us Q I r ⟨x, .ty T, _, _, _, e, .ty T, hd.ty, isi_kit hT, q⟩
end
end L2
set_option maxHeartbeats 1000000
namespace Z
open PySem PySem.Spec PyProof.Rows L2
def pga (K : Fg) (C : Addr) (f : Str) : Addr := match PySem.W.recIn K (He.ma K C f) "property" with
  | some (.ref g :: _) => g
  | _ => 0
structure DefZ where
  at_ : Fg → Addr
  name : Str
  qual : Str
  st : Stmt
  dfl : List He.Dv := []
def DefZ.see (K : Fg) (a : Addr) : He.FnW := match K.lookup a with
  | some ⟨_, _, .func z, _⟩ => some (z.name, z.qualname, z.params, z.body, z.scope, z.globals, z.closure, z.builtins)
  | _ => none
def DefZ.due (d : DefZ) : He.FnW := some (d.name, d.qual, defArgs d.st, .stmts (defBody d.st), defScope d.st, mainGlobals, [], builtinsNs)
def DefZ.good (K : Fg) (d : DefZ) : Bool := PySem.W.keepIn K (.ref (d.at_ K)) && (match K.lookup (d.at_ K) with
  | some ⟨_, _, .func z, _⟩ => PySem.W.codeIn K z.code d.qual && He.dflB K z.defaults (d.dfl.map (He.Dv.v K))
  | _ => false)
abbrev FunZ (K : Fg) (d : DefZ) : Prop := FunD K d.name d.qual (defArgs d.st) (defBody d.st) (defScope d.st) (d.dfl.map (He.Dv.v K)) [] (d.at_ K) (fdOf K (d.at_ K))
theorem DefZ.fun {K : Fg} {d : DefZ} (e : DefZ.see K (d.at_ K) = d.due) (c : d.good K = true) : FunZ K d := by
  obtain ⟨kp, c2⟩ := He.ba c
  have go : ∃ fd, FunD K d.name d.qual (defArgs d.st) (defBody d.st) (defScope d.st) (d.dfl.map (He.Dv.v K)) [] (d.at_ K) fd := by
    unfold DefZ.see at e
    cases q : K.lookup (d.at_ K) with
    | none =>
      rw [q] at c2
      cases c2
    | some o =>
      obtain ⟨oc, od, dt, osl⟩ := o
      rw [q] at c2 e
      cases dt with
      | func fd =>
        obtain ⟨n1, n2, n3, n4, n5, n6, n7, n8, n9, n10, n11, n12, n13, n14, n15⟩ := fd
        have e2 : (some (n1, n2, n3, n4, n5, n6, n7, n15) : He.FnW) = some (d.name, d.qual, defArgs d.st, .stmts (defBody d.st), defScope d.st, mainGlobals, [], builtinsNs) := e
        simp only [Option.some.injEq, Prod.mk.injEq] at e2
        obtain ⟨h1, h2, h3, h4, h5, h6, h7, h8⟩ := e2
        subst h1 h2 h3 h4 h5 h6 h7 h8
        obtain ⟨k1, k3⟩ := He.ba (show (PySem.W.codeIn K n13 d.qual && He.dflB K n8 (d.dfl.map (He.Dv.v K))) = true from c2)
        exact ⟨_, ⟨oc, od, n8, n9, n10, n11, n12, n13, n14, osl, rfl, q, k1, He.dflB_ok k3, .inl rfl⟩, kp⟩
      | _ => cases c2
  obtain ⟨fd, F⟩ := go
  show FunD K d.name d.qual (defArgs d.st) (defBody d.st) (defScope d.st) (d.dfl.map (He.Dv.v K)) [] (d.at_ K) (fdOf K (d.at_ K))
  rw [fdOf_eq F]
  exact F
abbrev Seen : Type := Bool × List He.FnW
def lookZ (fa : List (Fg → Bool)) (fn : List DefZ) (K : Fg) : Seen := ((fa.all fun f => f K) && fn.all fun d => d.good K, fn.map fun d => DefZ.see K (d.at_ K))
def SaysZ (fa : List (Fg → Bool)) (fn : List DefZ) (K : Fg) : Prop := lookZ fa fn K = (true, fn.map DefZ.due)
theorem SaysZ.fact {fa : List (Fg → Bool)} {fn : List DefZ} {K : Fg} (c : SaysZ fa fn K) (i : Nat) {f : Fg → Bool} (h : fa[i]? = some f) : f K = true := by
  have c1 := (He.ba (show ((fa.all fun f => f K) && fn.all fun d => d.good K) = true from congrArg (fun z : Seen => z.1) c)).1
  exact List.all_eq_true.mp c1 f (List.mem_of_getElem? h)
theorem SaysZ.def_ {fa : List (Fg → Bool)} {fn : List DefZ} {K : Fg} (c : SaysZ fa fn K) (i : Nat) {d : DefZ} (h : fn[i]? = some d) : FunZ K d := by
  have c2 := (He.ba (show ((fa.all fun f => f K) && fn.all fun d => d.good K) = true from congrArg (fun z : Seen => z.1) c)).2
  have e : fn.map (fun d => DefZ.see K (d.at_ K)) = fn.map DefZ.due := congrArg (fun z : Seen => z.2) c
  have e2 : (fn.map fun d => DefZ.see K (d.at_ K))[i]? = (fn.map DefZ.due)[i]? := by rw [e]
  rw [List.getElem?_map, List.getElem?_map, h] at e2
  exact DefZ.fun (Option.some.inj e2) (List.all_eq_true.mp c2 d (List.mem_of_getElem? h))
open He (ga ma)
def fGlo (x : Str) (K : Fg) : Bool := He.Fa.ok K (.glo x)
def fFree (x : Str) (K : Fg) : Bool := He.Fa.ok K (.free x)
def fInt (x : Str) (i : Int) (K : Fg) : Bool := He.Fa.ok K (.int x i)
def fStr (x z : Str) (K : Fg) : Bool := He.Fa.ok K (.str x z)
def fCls (x : Str) (K : Fg) : Bool := He.Fa.ok K (.cls x)
def fNo (x f : Str) (K : Fg) : Bool := He.Fa.ok K (.noat x f)
def fMeth (x m : Str) (K : Fg) : Bool := He.Fa.ok K (.meth x m)
def fMk (x : Str) (K : Fg) : Bool := He.Fa.ok K (.mkr x)
def fTup (x : Str) (vs : List He.Dv) (K : Fg) : Bool := He.tupB K x vs
def fProp (x f : Str) (K : Fg) : Bool := decide (PySem.W.findIn K (.ref (ga K x)) f = some (some (.ref (ma K (ga K x) f)))) && decide (PySem.W.specialIn K (.ref (ma K (ga K x) f)) "__get__" = some (some (.builtin "property.__get__"))) &&
  decide (PySem.W.takesIn K (.ref (ma K (ga K x) f)) = some true) && (match PySem.W.recIn K (ma K (ga K x) f) "property" with
  | some (.ref _ :: _) => true
  | _ => false)
def fSub (x : Str) (K : Fg) : Bool := PySem.W.fnIn K (ma K (ga K x) "__getitem__")
theorem fProp_ok {K : Fg} {x f : Str} (h : fProp x f K = true) : PropOf K (ga K x) f (ma K (ga K x) f) (pga K (ga K x) f) := by
  unfold fProp at h
  simp only [Bool.and_eq_true, decide_eq_true_eq] at h
  obtain ⟨⟨⟨h1, h2⟩, h3⟩, h4⟩ := h
  refine ⟨h1, h2, h3, ?_⟩
  unfold pga
  split at h4
  · rename_i g r e
    rw [e]
    exact ⟨r, rfl⟩
  · cases h4
def dfA (f : Fg → Addr) (i : Nat) (K : Fg) : Addr := match K.lookup (f K) with
  | some ⟨_, _, .func z, _⟩ => (match z.defaults with
    | .ref T => (match K.lookup T with
      | some ⟨_, _, .seq its _, _⟩ => (match its.toList[i]? with
        | some (.ref a) => a
        | _ => 0)
      | _ => 0)
    | _ => 0)
  | _ => 0
theorem calD {K : Fg} {d : DefZ} {ps : List Str} (F : FunZ K d) (n : Nat) (hd : d.dfl.map (He.Dv.v K) ≠ []) (hn : n + 0 = ps.length)
    (h : ∀ (T : Addr) (kV doc pm : Value) (an : Option Addr) (cdv ct : Value) (us its : List Value), us.length = n → its.length = (d.dfl.map (He.Dv.v K)).length →
      ∃ k, bindArgs (PySem.W.fnOf d.name d.qual (defArgs d.st) (defBody d.st) (defScope d.st) (.ref T) kV doc pm an cdv ct) ⟨us, []⟩ = seqItems? (.ref T) >>= k ∧ k (some its.toArray) = pure (ps.zip us)) : Cal K (d.at_ K) ps [] := by
  obtain ⟨ds, hv, hb⟩ := FunD.binds1 (ps := ps) F n (d.dfl.map (He.Dv.v K)).length hd (by rw [Nat.sub_self]; exact hn) (fun T kV doc pm an cdv ct us its h1 h2 => by
    obtain ⟨k, e1, e2⟩ := h T kV doc pm an cdv ct us its h1 h2
    refine ⟨k, e1, ?_⟩
    rw [e2, List.drop_eq_nil_of_le (by omega), List.append_nil])
  rw [List.drop_eq_nil_of_le (Nat.le_refl _)] at hv
  exact ⟨F.kp, ds, hb, hv⟩
def ClsI (K : Fg) (C : Addr) (f : Str) (n : Int) : Prop := ∃ mc u, ClX.CRead K C mc ∧ ClX.CVal K C mc f (.int n) u
def fClsI (x f : Str) (n : Int) (K : Fg) : Bool := PySem.W.readsIn K (ga K x) (.type "type") && decide (PySem.W.specialIn K (.ref (ga K x)) "__getattribute__" = some (some (.builtin "type.__getattribute__"))) && (match PySem.W.findCls K (.ref (ga K x)) (.type "type") f with
  | some (.val (.int m _)) => decide (m = n)
  | _ => false)
theorem fClsI_ok {K : Fg} {x f : Str} {n : Int} (h : fClsI x f n K = true) : ClsI K (ga K x) f n := by
  unfold fClsI at h
  simp only [Bool.and_eq_true, decide_eq_true_eq] at h
  obtain ⟨⟨h1, h2⟩, h3⟩ := h
  split at h3
  · rename_i m t e
    have em : m = n := of_decide_eq_true h3
    subst em
    exact ⟨_, _, ⟨h1, h2⟩, ⟨e, t, rfl⟩⟩
  · cases h3
end Z
set_option maxHeartbeats 1000000
namespace Z
open PySem PySem.Spec PyProof.Rows L2
section
variable {X : Cx} {x : Str} {pos : Pos}
theorem z_int {n : Int} (h : ∃ t, X.mg x = some (.int n t)) (hg : Gl X x := by rfl) (hd : (x == ("__debug__" : Str)) = false := by decide) : PE X (.Name x pos) (tC (.int n)) := by
  obtain ⟨t, h⟩ := h
  exact pe_glob hg h ⟨t, rfl⟩ hd
theorem z_str {n : Str} (h : ∃ t, X.mg x = some (.str n t)) (hg : Gl X x := by rfl) (hd : (x == ("__debug__" : Str)) = false := by decide) : PE X (.Name x pos) (tC (.str n)) := by
  obtain ⟨t, h⟩ := h
  exact pe_glob hg h ⟨t, rfl⟩ hd
theorem z_ref {a : Addr} (h : X.mg x = some (.ref a)) (hg : Gl X x := by rfl) (hd : (x == ("__debug__" : Str)) = false := by decide) : PE X (.Name x pos) (tC (.ref a)) := pe_glob hg h rfl hd
theorem z_ty {n : String} (hm : X.mg x = none) (hv : bootBuiltins x = some (.type n) := by decide +kernel) (hg : Gl X x := by rfl) (hn : x ≠ "__name__" := by decide) (hd : (x == ("__debug__" : Str)) = false := by decide) : PE X (.Name x pos) (tC (.ty n)) := pe_bltn hg hm hv rfl hn hd
theorem zg (i : Nat) (hN : X.N.Nodup) (hi : X.N[i]? = some x := by rfl) (hx : Loc X.env.scope x := by first | exact Or.inl rfl | exact Or.inr rfl) (hf : X.fn x = true ∨ X.env.scope.names.lookup x = some .local := by first | exact Or.inl rfl | exact Or.inr rfl) : PG X (.Name x pos) (gName i) := pg_name hN hi hx hf
theorem zset (i : Nat) {e : Expr} {te : TE} {pos' : Pos} (hN : X.N.Nodup) (he : PE X e te) (hi : X.N[i]? = some x := by rfl) (hx : Loc X.env.scope x := by first | exact Or.inl rfl | exact Or.inr rfl) (hs : swapsWith e (some (.Name x pos')) pos.line X.env = pure false := by rfl)
    (hf : X.fn x = true ∨ X.env.scope.names.lookup x = some .local := by first | exact Or.inl rfl | exact Or.inr rfl) : PS X (.Assign [.Name x pos'] e pos) (tAsg te (gName i)) := ps_set hN hi hx he hs hf
end
section
variable {σ : L2.St} {H : Hp} {Q : VK} {i : Nat} {v x y : V} {ta tb tc : TE} {r r' : R2} {D : Ends}
theorem s_var (h : σ[i]? = some (some v)) (q : Q v H) : tVar i σ H Q := ⟨v, h, q⟩
theorem s_c (q : Q v H) : tC v σ H Q := q
theorem s_op (q : ta σ H fun x H1 => tb σ H1 fun y H2 => r x y H2 Q) : tOp r ta tb σ H Q := q
theorem s_un {r : V → Hp → VK → Prop} (q : ta σ H fun x H1 => r x H1 Q) : tUn r ta σ H Q := q
theorem s_cb {r : List V → Hp → VK → Prop} {t : TA} (q : t σ H fun vs H1 => r vs H1 Q) : tCB r t σ H Q := q
theorem s_nil {Q : List V → Hp → Prop} (q : Q [] H) : tNil σ H Q := q
theorem s_cons {Q : List V → Hp → Prop} {tr : TA} (q : ta σ H fun x H1 => tr σ H1 fun xs H2 => Q (x :: xs) H2) : tCons ta tr σ H Q := q
theorem s_star {K : Fg} {Q : List V → Hp → Prop} {tr : TA} (q : ta σ H fun x H1 => ∃ p xs, x = V.ref p ∧ (SqT K H1 p xs ∨ SqL K H1 p xs) ∧ tr σ H1 fun ys H2 => Q (xs ++ ys) H2) : StX.tStar K ta tr σ H Q := q
theorem s_test {Q : Bool → Hp → Prop} (q : ta σ H fun x H' => ∃ k, x = .bl k ∧ Q k H') : tTest ta σ H Q := q
theorem s_B {Q : Bool → Hp → Prop} (q : ta σ H fun x H' => ∃ k, x = .bl k ∧ Q k H') : tB ta σ H Q := q
theorem s_bl {b : Bool} {R : Bool → Prop} (q : R b) : ∃ k, V.bl b = .bl k ∧ R k := ⟨b, rfl, q⟩
theorem s_and {t u : TT} {Q : Bool → Hp → Prop} (q : t σ H fun c H1 => if c = true then u σ H1 Q else Q false H1) : tAnd t u σ H Q := q
theorem s_or {t u : TT} {Q : Bool → Hp → Prop} (q : t σ H fun c H1 => if c = true then Q true H1 else u σ H1 Q) : tOr t u σ H Q := q
theorem s_not {t : TT} {Q : Bool → Hp → Prop} (q : t σ H fun c H1 => Q (!c) H1) : tNot t σ H Q := q
theorem s_andV (q : ta σ H fun x H1 => ∃ c, x = .bl c ∧ if c = true then tb σ H1 Q else Q (.bl false) H1) : tAndV ta tb σ H Q := q
theorem s_orV (q : ta σ H fun x H1 => ∃ c, x = .bl c ∧ if c = true then Q (.bl true) H1 else tb σ H1 Q) : tOrV ta tb σ H Q := q
theorem s_notV (q : ta σ H fun x H1 => ∃ c, x = .bl c ∧ Q (.bl (!c)) H1) : tNotV ta σ H Q := q
theorem s_if {t : TT} (q : t σ H fun c H1 => if c = true then ta σ H1 Q else tb σ H1 Q) : tIf t ta tb σ H Q := q
theorem s_chain (q : ta σ H fun x H1 => tb σ H1 fun y H2 => r x y H2 fun z H3 => ∃ k, z = .bl k ∧ (if k = true then tc σ H3 fun w' H4 => r' y w' H4 Q else Q (.bl false) H3)) : tChain r r' ta tb tc σ H Q := q
theorem s_tup {t : TA} (q : t σ H fun xs H1 => xs.length ≤ sizeLine ∧ ∀ p, H1 p = none → Q (.ref p) (upd H1 p (.tup xs))) : tTup t σ H Q := q
theorem s_lst {t : TA} (q : t σ H fun xs H1 => xs.length ≤ sizeLine ∧ ∀ p, H1 p = none → Q (.ref p) (upd H1 p (.lst xs))) : tLst t σ H Q := q
theorem s_call {sp : Sp} {dvs : List V} {E : XK} {t : TA} (q : t σ H fun vs H1 => sp (vs ++ dvs) H1 Q E) : tCall sp dvs E t σ H Q := q
variable {ea ec ed : L2.St → Hp → Prop} {eb : VK}
theorem s_seq {t u : TS} (q : t (.mk (u (.mk ea eb ec ed)) eb ec ed) σ H) : tSeq t u (.mk ea eb ec ed) σ H := q
theorem s_asg {g : TG} (q : ta σ H fun x H1 => g x σ H1 ea) : tAsg ta g (.mk ea eb ec ed) σ H := q
theorem s_gname {P : L2.St → Hp → Prop} (q : P (σ.set i (some v)) H) : gName i v σ H P := q
theorem s_ret (q : ta σ H eb) : tRet ta (.mk ea eb ec ed) σ H := q
theorem s_retN (q : eb .non H) : tRetN (.mk ea eb ec ed) σ H := q
theorem s_ifS {t : TT} {u w : TS} (q : t σ H fun b H1 => if b = true then u D σ H1 else w D σ H1) : tIfS t u w D σ H := q
theorem s_drop (q : ta σ H fun _ H1 => ea σ H1) : tDrop ta (.mk ea eb ec ed) σ H := q
theorem s_next (q : ea σ H) : tNext (.mk ea eb ec ed) σ H := q
theorem s_cont (q : ed σ H) : tCont (.mk ea eb ec ed) σ H := q
theorem s_break (q : ec σ H) : tBreak (.mk ea eb ec ed) σ H := q
theorem s_par {j : Nat} {t : TA} (q : t σ H fun vs H1 => ∃ v w, vs = [v, w] ∧ ea ((σ.set i (some v)).set j (some w)) H1) : tPar i j t (.mk ea eb ec ed) σ H := q
theorem s_par2 {R : V → V → Prop} {a b : V} (q : R a b) : ∃ v w, ([a, b] : List V) = [v, w] ∧ R v w := ⟨a, b, rfl, q⟩
theorem s_I0 {g : Int → Int → V} {a b : Int} (q : Q (g a b) H) : rI0 g (.int a) (.int b) H Q := ⟨a, b, rfl, rfl, q⟩
theorem s_I {C : Int → Int → Prop} {g : Int → Int → V} {a b : Int} (c : C a b) (q : Q (g a b) H) : rI C g (.int a) (.int b) H Q := ⟨a, b, rfl, rfl, c, q⟩
theorem s_U {g : Int → V} {a : Int} (q : Q (g a) H) : rU g (.int a) H Q := ⟨a, rfl, q⟩
theorem s_eq (h : scal x y = true) (q : Q (.bl (decide (x = y))) H) : rEq x y H Q := ⟨h, q⟩
theorem s_ne (h : scal x y = true) (q : Q (.bl (!decide (x = y))) H) : rNe x y H Q := ⟨h, q⟩
theorem s_isi {K : Fg} {T : String} {d : PyData} (h : Dp K H x d) (hT : T ∈ ["int", "bool", "str", "tuple", "list"]) (q : Q (.bl (isiB T d)) H) : rIsiD K [x, .ty T] H Q := ⟨x, T, d, rfl, h, hT, q⟩
theorem s_ixT {K : Fg} {p : Addr} {xs : List V} {a : Int} (h : SqT K H p xs) (e : atI xs a = some v) (q : Q v H) : rIxT K (.ref p) (.int a) H Q := ⟨p, xs, a, v, rfl, rfl, h, e, q⟩
theorem s_ixL {K : Fg} {p : Addr} {xs : List V} {a : Int} (h : SqL K H p xs) (e : atI xs a = some v) (q : Q v H) : rIxL K (.ref p) (.int a) H Q := ⟨p, xs, a, v, rfl, rfl, h, e, q⟩
theorem s_in {K : Fg} {neg : Bool} {p : Addr} {xs : List V} (h : SqL K H p xs ∨ SqT K H p xs) (fx : flatV x = true) (fs : xs.all flatV = true) (q : Q (.bl (if neg then !inV x xs else inV x xs)) H) : rIn K neg x (.ref p) H Q := ⟨p, xs, rfl, h, fx, fs, q⟩
end
theorem ite_t {b : Bool} {A B : Prop} (h : b = true) (q : A) : if b = true then A else B := by
  rw [if_pos h]
  exact q
theorem ite_f {b : Bool} {A B : Prop} (h : b = false) (q : B) : if b = true then A else B := by
  subst h
  exact q
theorem ite_b {b : Bool} {A B : Prop} (h : b = true → A) (q : b = false → B) : if b = true then A else B := by
  cases b
  · exact q rfl
  · exact h rfl
theorem tk_upd {H : Hp} {D : Addr} {xs : List V} {o : HO} (h : H D = some (.lst xs)) : Tk H (upd H D o) := fun a ha => by
  rw [upd_ne]
  rintro rfl
  rcases ha with ⟨ys, ha⟩ | ⟨o', u, ha⟩ <;> rw [h] at ha <;> cases ha
def keptD (keep : Nat → Bool) (d : Nat → PyData) (n : Nat) : List PyData := ((List.range n).filter keep).map d
theorem keptD_yes {keep : Nat → Bool} {d : Nat → PyData} {n : Nat} (h : keep n = true) : keptD keep d (n + 1) = keptD keep d n ++ [d n] := by
  unfold keptD
  rw [List.range_succ, List.filter_append, List.map_append]
  simp [h]
theorem keptD_no {keep : Nat → Bool} {d : Nat → PyData} {n : Nat} (h : keep n = false) : keptD keep d (n + 1) = keptD keep d n := by
  unfold keptD
  rw [List.range_succ, List.filter_append, List.map_append]
  simp [h]
theorem keptD_len {keep : Nat → Bool} {d : Nat → PyData} {n : Nat} : (keptD keep d n).length ≤ n := by
  unfold keptD
  rw [List.length_map]
  exact Nat.le_trans (List.length_filter_le _ _) (by rw [List.length_range]; exact Nat.le_refl _)
theorem keptD_tupds {keep : Nat → Bool} {d : Nat → PyData} (h : ∀ i, tupd (d i) = true) : ∀ n, tupds (keptD keep d n) = true
  | 0 => rfl
  | n + 1 => by
    have ap : ∀ (l : List PyData) (x : PyData), tupds l = true → tupd x = true → tupds (l ++ [x]) = true := by
      intro l
      induction l with
      | nil =>
        intro x _ hx
        show (tupd x && true) = true
        rw [hx]
        rfl
      | cons y l ih =>
        intro x hl hx
        obtain ⟨h1, h2⟩ := Bool.and_eq_true_iff.mp (show (tupd y && tupds l) = true from hl)
        show (tupd y && tupds (l ++ [x])) = true
        rw [h1, ih x h2 hx]
        rfl
    cases e : keep n with
    | true =>
      rw [keptD_yes e]
      exact ap _ _ (keptD_tupds h n) (h n)
    | false =>
      rw [keptD_no e]
      exact keptD_tupds h n
theorem lc_dat {K : Fg} {J : It} {n : Nat} {G : Hp → Prop} {Y : Nat → Hp → V → Hp → Prop} {g : TG} {tt : TT} {te : TE} {vs : List Nat} {σ : L2.St} {H1 : Hp} {D : Addr} {Qd : Hp → Prop} (w : Walk J n G Y) (keep : Nat → Bool) (d : Nat → PyData) (hD : H1 D = none) (hn : n ≤ 40000)
    (hdt : ∀ i, tupd (d i) = true) (hG : ∀ H, Same H1 H → G H) (hY : ∀ i H x H', Y i H x H' → Same H H')
    (hs : ∀ (i : Nat) (x : V) (H H' : Hp) (Yes : VK) (No : Hp → Prop), i < n → Same H1 H → Y i H x H' → (keep i = true → ∀ y H4, Same H' H4 → Dp K H4 y (d i) → Yes y H4) → (keep i = false → ∀ H3, Same H' H3 → No H3) →
      g x (wipe σ vs) H' fun σ2 H2 => wipe σ2 vs = wipe σ vs ∧ tt σ2 H2 fun b H3 => if b = true then te σ2 H3 Yes else No H3)
    (hd : ∀ H' ys, Same H1 H' → H' D = some (.lst ys) → DpAll K H' ys (keptD keep d n) → Qd H') :
    ∃ W : Nat → Nat → Hp → Prop, (∃ m, W 0 m (upd H1 D (.lst []))) ∧ ∀ i m H, W i m H →
      (J.stop i H ∧ Qd H) ∨ (J.go i H ∧ ∃ Nx : Hp → Prop, (∀ H', Nx H' → ∃ m', m' < m ∧ W (i + 1) m' H') ∧ ∀ x H', J.yld i H x H' → g x (wipe σ vs) H' fun σ2 H2 => wipe σ2 vs = wipe σ vs ∧ tt σ2 H2 fun b H3 =>
        if b = true then te σ2 H3 fun y H4 => ∃ acc, H4 D = some (.lst acc) ∧ acc.length < sizeLine ∧ Nx (upd H4 D (.lst (acc ++ [y]))) else Nx H3) := by
  refine lc_it w (fun i H => Same H1 H ∧ ∃ ys, H D = some (.lst ys) ∧ DpAll K H ys (keptD keep d i)) ⟨Same.new hD, [], upd_same, .nil⟩ (fun i H _ p => hG H p.1) (fun i x H H' hi p y => ?_) (fun H p => ?_)
  · obtain ⟨s1, ys, e1, a1⟩ := p
    have s2 := hY i H x H' y
    refine hs i x H H' _ _ hi s1 y (fun hk y4 H4 s4 d4 => ⟨ys, s4 _ _ (s2 _ _ e1), ?_, ?_, ?_⟩) fun hk H3 s3 => ⟨(s1.trans s2).trans s3, ys, s3 _ _ (s2 _ _ e1), ?_⟩
    · rw [a1.len]
      exact Nat.lt_of_le_of_lt keptD_len (Nat.lt_of_lt_of_le (Nat.lt_of_lt_of_le hi hn) (by decide))
    · exact fun a o h => by
        rw [upd_ne (ne_of_none h hD)]
        exact s4 _ _ (s2 _ _ (s1 _ _ h))
    · refine ⟨_, upd_same, ?_⟩
      have t := tk_upd (o := .lst (ys ++ [y4])) (s4 _ _ (s2 _ _ e1))
      rw [keptD_yes hk]
      exact ((a1.same (s2.trans s4)).tk t (keptD_tupds hdt i)).app (.cons (d4.tk t (hdt i)) .nil)
    · rw [keptD_no hk]
      exact a1.same (s2.trans s3)
  · obtain ⟨s1, ys, e1, a1⟩ := p
    exact hd H ys s1 e1 a1
theorem dp_bools {K : Fg} {H : Hp} : ∀ {ys : List V} {bs : List Bool}, DpAll K H ys (bs.map PyData.bool) → ys = bs.map V.bl
  | _, [], .nil => rfl
  | _, b :: bs, .cons a r => by
    cases a
    rw [dp_bools r]
    rfl
theorem dp_ints {K : Fg} {H : Hp} : ∀ {ys : List V} {bs : List Int}, DpAll K H ys (bs.map PyData.int) → ys = bs.map V.int
  | _, [], .nil => rfl
  | _, b :: bs, .cons a r => by
    cases a
    rw [dp_ints r]
    rfl
theorem dp_strs {K : Fg} {H : Hp} : ∀ {ys : List V} {bs : List Str}, DpAll K H ys (bs.map PyData.str) → ys = bs.map V.str
  | _, [], .nil => rfl
  | _, b :: bs, .cons a r => by
    cases a
    rw [dp_strs r]
    rfl
def pAt {α : Type} (l : List α) (p : α → Bool) (i : Nat) : Bool := (l[i]?.map p).getD false
def dAt {α : Type} (l : List α) (f : α → PyData) (i : Nat) : PyData := (l[i]?.map f).getD .none
theorem pAt_eq {α : Type} {l : List α} {p : α → Bool} {i : Nat} {x : α} (h : l[i]? = some x) : pAt l p i = p x := by
  unfold pAt
  rw [h]
  rfl
theorem dAt_eq {α : Type} {l : List α} {f : α → PyData} {i : Nat} {x : α} (h : l[i]? = some x) : dAt l f i = f x := by
  unfold dAt
  rw [h]
  rfl
theorem dAt_tupd {α : Type} {l : List α} {f : α → PyData} (h : ∀ x ∈ l, tupd (f x) = true) (i : Nat) : tupd (dAt l f i) = true := by
  unfold dAt
  cases e : l[i]? with
  | none => rfl
  | some x => exact h x (List.mem_of_getElem? e)
theorem keptD_list {α : Type} (l : List α) (p : α → Bool) (f : α → PyData) : keptD (pAt l p) (dAt l f) l.length = (l.filter p).map f := by
  have go : ∀ n, n ≤ l.length → keptD (pAt l p) (dAt l f) n = ((l.take n).filter p).map f := by
    intro n
    induction n with
    | zero => intro _; simp [keptD]
    | succ n ih =>
      intro hn
      have hx : l[n]? = some l[n] := List.getElem?_eq_getElem (by omega)
      have et : l.take (n + 1) = l.take n ++ [l[n]] := by rw [List.take_add_one, hx]; rfl
      cases e : pAt l p n with
      | true =>
        rw [keptD_yes e, ih (by omega), dAt_eq hx, et, List.filter_append, List.map_append]
        rw [pAt_eq hx] at e
        simp [e]
      | false =>
        rw [keptD_no e, ih (by omega), et, List.filter_append, List.map_append]
        rw [pAt_eq hx] at e
        simp [e]
  rw [go l.length (Nat.le_refl _), List.take_length]
theorem keptD_map {α : Type} (l : List α) (f : α → PyData) : keptD (fun _ => true) (dAt l f) l.length = l.map f := by
  have e := keptD_list l (fun _ => true) f
  have e2 : keptD (pAt l fun _ => true) (dAt l f) l.length = keptD (fun _ => true) (dAt l f) l.length := by
    unfold keptD
    congr 1
    apply List.filter_congr
    intro i hi
    have hi' : i < l.length := List.mem_range.mp hi
    rw [pAt_eq (List.getElem?_eq_getElem hi')]
  rw [← e2, e, List.filter_eq_self.mpr (fun _ _ => rfl)]
theorem map_bool {α : Type} (l : List α) (f : α → Bool) : (l.map fun c => PyData.bool (f c)) = (l.map f).map PyData.bool := by rw [List.map_map]; rfl
theorem map_int {α : Type} (l : List α) (f : α → Int) : (l.map fun c => PyData.int (f c)) = (l.map f).map PyData.int := by rw [List.map_map]; rfl
theorem map_str {α : Type} (l : List α) (f : α → Str) : (l.map fun c => PyData.str (f c)) = (l.map f).map PyData.str := by rw [List.map_map]; rfl
theorem s_yes {σ : L2.St} {H : Hp} {Q : Bool → Hp → Prop} (q : Q true H) : tYes σ H Q := q
theorem s_all {K : Fg} {H : Hp} {Q : VK} {a : Addr} {bs : List Bool} (h : SqL K H a (bs.map V.bl)) (q : Q (.bl (bs.all id)) H) : rAll K [.ref a] H Q := ⟨a, bs, rfl, h, q⟩
theorem s_lenT {K : Fg} {H : Hp} {p : Addr} {xs : List V} {R : Nat → Prop} (h : SqT K H p xs) (q : R xs.length) : ∃ x n, ([V.ref p] : List V) = [x] ∧ LenV K x H n ∧ R n := ⟨_, _, rfl, .inr ⟨xs, h, rfl⟩, q⟩
theorem s_lenL {K : Fg} {H : Hp} {p : Addr} {xs : List V} {R : Nat → Prop} (h : SqL K H p xs) (q : R xs.length) : ∃ x n, ([V.ref p] : List V) = [x] ∧ LenV K x H n ∧ R n := ⟨_, _, rfl, .inl ⟨xs, h, rfl⟩, q⟩
theorem s_lenS {K : Fg} {H : Hp} {z : Str} {R : Nat → Prop} (h : z.length ≤ sizeLine) (q : R z.length) : ∃ x n, ([V.str z] : List V) = [x] ∧ LenV K x H n ∧ R n := ⟨_, _, rfl, ⟨h, rfl⟩, q⟩
mutual
def short : PyData → Bool
  | .none => true
  | .bool _ => true
  | .int _ => true
  | .str z => decide (z.cps.size ≤ 40000)
  | .list xs => shorts xs
  | .tuple xs => shorts xs
  | .dict _ => true
def shorts : List PyData → Bool
  | [] => true
  | d :: ds => short d && shorts ds
end
theorem shorts_at : ∀ {ds : List PyData} {d : PyData}, shorts ds = true → d ∈ ds → short d = true
  | [], _, _, h => by simp at h
  | x :: ds, d, h, hm => by
    obtain ⟨h1, h2⟩ := Bool.and_eq_true_iff.mp (show (short x && shorts ds) = true from h)
    rcases List.mem_cons.mp hm with rfl | hm
    · exact h1
    · exact shorts_at h2 hm
theorem short_str {z : Str} (h : short (.str z) = true) : z.cps.size ≤ 40000 := by
  unfold short at h
  exact of_decide_eq_true h
theorem short_tup {ds : List PyData} (h : short (.tuple ds) = true) : shorts ds = true := by
  unfold short at h
  exact h
theorem bnt {b : Bool} (h : (!b) = true) : b = false := by
  cases b
  · rfl
  · cases h
theorem bnf {b : Bool} (h : (!b) = false) : b = true := by
  cases b
  · cases h
  · rfl
theorem newS {H H2 : Hp} {p : Addr} {o : HO} (hp : H p = none) (e : upd H p o = H2) : Same H H2 := by
  subst e
  exact Same.new hp
theorem newE {H H2 : Hp} {p : Addr} {o : HO} (e : upd H p o = H2) : H2 p = some o := by
  subst e
  exact upd_same
section
variable {K : Fg} {σ : L2.St} {H : Hp} {P : L2.St → Hp → Prop} {a : Addr} {xs r : List V} {v y : V} {Q : VK} {kvs : List (Key × V)} {k : Key}
theorem s_gtup {n : Nat} {t : TGs} (h : SqT K H a xs) (hl : xs.length = n) (q : t xs σ H P) : gTup K n t (.ref a) σ H P := ⟨a, xs, rfl, h, hl, q⟩
theorem s_gcons {t : TG} {u : TGs} (q : t v σ H fun σ' H' => u r σ' H' P) : gCons t u (v :: r) σ H P := ⟨v, r, rfl, q⟩
theorem s_gnil (q : P σ H) : gNil [] σ H P := ⟨rfl, q⟩
theorem s_din {ty td : TE} (q : ty σ H fun y H1 => td σ H1 fun x H2 => ∃ a o, x = .ref a ∧ DGet H2 a y o ∧ Q (.bl o.isSome) H2) : tDIn ty td σ H Q := q
theorem s_dnin {ty td : TE} (q : ty σ H fun y H1 => td σ H1 fun x H2 => ∃ a o, x = .ref a ∧ DGet H2 a y o ∧ Q (.bl (!o.isSome)) H2) : tDNotIn ty td σ H Q := q
theorem s_dget {ty td : TE} (q : td σ H fun x H1 => ty σ H1 fun y H2 => ∃ a v, x = .ref a ∧ DGet H2 a y (some v) ∧ Q v H2) : tDGet td ty σ H Q := q
theorem s_dS {z : Str} {R : Option V → Prop} (h : H a = some (.dK kvs)) (q : R (valV kvs (.inr z))) : ∃ b o, V.ref a = .ref b ∧ DGet H b (.str z) o ∧ R o := ⟨a, _, rfl, DGet.k (k := Sum.inr z) h, q⟩
theorem s_dgS {z : Str} {R : V → Prop} (h : H a = some (.dK kvs)) (e : valV kvs (.inr z) = some v) (q : R v) : ∃ b u, V.ref a = .ref b ∧ DGet H b (.str z) (some u) ∧ R u := ⟨a, v, rfl, by rw [← e]; exact DGet.k (k := Sum.inr z) h, q⟩
end
section
variable {K : Fg} {σ : L2.St} {H : Hp} {Q : VK} {ta tv : TE} {t : TA} {r : V → List V → Hp → VK → Prop} {l : Addr} {xs : List V} {x y v : V} {f m : Str} {C dx : Addr} {fs : List (Str × V)} {ea ec ed : L2.St → Hp → Prop} {eb : VK}
theorem s_bm {T : String} (q : ta σ H fun x H1 => tyV K T x H1 ∧ t σ H1 fun xs H2 => r x xs H2 Q) : tBM K T r ta t σ H Q := q
theorem s_bm0 {T : String} (q : ta σ H fun x H1 => tyV K T x H1 ∧ r x [] H1 Q) : tBM0 K T r ta σ H Q := q
theorem s_tyL {R : Prop} (h : H l = some (.lst xs)) (q : R) : tyV K "list" (.ref l) H ∧ R := ⟨Or.inl ⟨rfl, xs, SqL.of h⟩, q⟩
theorem s_append (h : H l = some (.lst xs)) (hl : xs.length < sizeLine) (q : Q .non (upd H l (.lst (xs ++ [y])))) : rAppend (.ref l) [y] H Q := ⟨l, xs, y, rfl, rfl, h, hl, q⟩
theorem s_fldg (q : ta σ H fun x H1 => ∃ a C dx fs v, x = .ref a ∧ H1 a = some (.ins C dx fs) ∧ Cls K C ∧ NoAttr K C f ∧ fs.lookup f = some v ∧ Q v H1) : tFld K ta f σ H Q := q
theorem s_fldat {a : Addr} {R : V → Prop} (h : H a = some (.ins C dx fs)) (c : Cls K C) (n : NoAttr K C f) (e : fs.lookup f = some v) (q : R v) : ∃ b C dx fs v, V.ref a = .ref b ∧ H b = some (.ins C dx fs) ∧ Cls K C ∧ NoAttr K C f ∧ fs.lookup f = some v ∧ R v := ⟨a, C, dx, fs, v, rfl, h, c, n, e, q⟩
theorem s_meth {sp : Sp} {dvs : List V} {E : XK} (q : ta σ H fun x H1 => ∃ a dx fs, x = .ref a ∧ H1 a = some (.ins C dx fs) ∧ fs.lookup m = none ∧ t σ H1 fun vs H2 => sp (x :: (vs ++ dvs)) H2 Q E) : tMeth C m sp dvs E ta t σ H Q := q
theorem s_methat {a : Addr} {R : Prop} (h : H a = some (.ins C dx fs)) (e : fs.lookup m = none) (q : R) : ∃ b dx fs, V.ref a = .ref b ∧ H b = some (.ins C dx fs) ∧ fs.lookup m = none ∧ R := ⟨a, dx, fs, rfl, h, e, q⟩
theorem s_prop {sp : Sp} {E : XK} (q : ta σ H fun x H1 => ∃ a dx fs, x = .ref a ∧ H1 a = some (.ins C dx fs) ∧ sp [.ref a] H1 Q E) : tProp C sp [] E ta σ H Q := q
theorem s_propat {a : Addr} {R : Addr → Prop} (h : H a = some (.ins C dx fs)) (q : R a) : ∃ b dx fs, V.ref a = .ref b ∧ H b = some (.ins C dx fs) ∧ R b := ⟨a, dx, fs, rfl, h, q⟩
end
end Z
set_option maxHeartbeats 1000000
namespace Z
open PySem PySem.Spec PyProof.Rows L2
open AutoSeq1 (wpAny_loadPart')
theorem enum_new1 {v : Value} {o : Obj} {G : Heap → Prop} (B : Begins v o G) :
    Meets (Builtin.«enumerate.__new__» ⟨[.type "enumerate", v], []⟩) (fun _ R s => G s.heap ∧
      R (.ok (.ret (.ref (s.heap.push o).objs.size))) { s with heap := (s.heap.push o).push { cls := .type "enumerate", data := .fields #[.none, .bool false, .ref s.heap.objs.size, rawInt 0, .none, .none] } }) :=
  .of_wp fun prog w A R s h => by
    obtain ⟨hp, g, d, tk, os⟩ := s
    obtain ⟨h1, h⟩ := h
    have su := sub_enumerate
    have q1 : ∀ {A' : Around} {E : Value → Shared → Prop} {Q : Value → Shared → Prop}, Q (.ref hp.objs.size) ⟨hp.push o, g, d, tk, os⟩ → wpAny (model prog w) A' (pyIter v) Q E ⟨hp, g, d, tk, os⟩ :=
      fun q => B.iter prog w _ _ ⟨hp, g, d, tk, os⟩ _ h1 q
    wp_walk using q1
    refine wpAny_stack_any fun st => wpAny_pure ?_
    split
    · rename_i c _ _ _ _ _
      cases (c == Value.type "enumerate") <;> (wp_walk using q1; exact ⟨_, rfl, h⟩)
    · wp_walk using q1
      exact ⟨_, rfl, h⟩
theorem call_enumT {prog : Program} {w : World} {A : Around} {E : Value → Shared → Prop} {s : Shared} {v : Value} {o : Obj} {G : Heap → Prop} {Q : Value → Shared → Prop} (B : Begins v o G) (h1 : G s.heap)
    (h : ∀ h', IsEnum h' (s.heap.objs.size + 1) s.heap.objs.size 0 .none → h'.get? s.heap.objs.size = some o → (∀ b o, s.heap.get? b = some o → h'.get? b = some o) → Q (.ref (s.heap.objs.size + 1)) { s with heap := h' }) :
    wpAny (model prog w) A (call (.type "enumerate") [v]) Q E s := by
  refine callType_new F.called_enumerate (by decide) (F.typeCall_enumerate_1 _) (F.newCall_enumerate_1 _) (fun obj => F.args_object_init_2 obj _) F.entry_enumerate_new (enum_new1 B) ⟨h1, ?_⟩
  have hz : (s.heap.push o).objs.size = s.heap.objs.size + 1 := Heap.size_push ..
  show _ ∧ _
  rw [hz]
  have he : IsEnum ((s.heap.push o).push { cls := .type "enumerate", data := .fields #[.none, .bool false, .ref s.heap.objs.size, rawInt 0, .none, .none] }) (s.heap.objs.size + 1) s.heap.objs.size 0 .none := by
    have z := Heap.get?_push_size (s.heap.push o) (o := { cls := .type "enumerate", data := .fields #[.none, .bool false, .ref s.heap.objs.size, rawInt 0, .none, .none] }) rfl
    rw [hz] at z
    exact z
  exact ⟨⟨_, he, rfl⟩, h _ he (Heap.get?_push_of_some _ (Heap.get?_push_size _ B.free)) fun b o x => Heap.get?_push_of_some _ (Heap.get?_push_of_some _ x)⟩
def IteT (K : Fg) (a : Addr) : It :=
  ⟨fun i H => ∃ (xs : List V) (x : V), SqT K H a xs ∧ xs[i]? = some x, fun i H v H' => ∃ T x, v = .ref T ∧ H T = none ∧ H' = upd H T (.tup [.int (i : Nat), x]) ∧ ∀ xs, SqT K H a xs → xs[i]? = some x, fun i H => ∃ xs : List V, SqT K H a xs ∧ xs.length ≤ i⟩
theorem turn_enumT {P : Program} {w : World} {K : Fg} {elts : List Expr} {kk : Nat} {tpos : Pos} (a e it : Addr) (hai : a ≠ it) (hae : a ≠ e) :
    Turn P w K (.Tuple elts kk tpos) (IteT K a) [e, it] e (fun i h => (∃ old, IsEnum h e it ((i : Nat) : Int) old) ∧ h.IsTupleIter it a i ∧ e ≠ it) where
  mem := by simp
  obj := fun i h st b hb => by
    obtain ⟨⟨old, he⟩, ⟨o, ho, hc, hd⟩, _⟩ := st
    have e' : b = e ∨ b = it := by simpa using hb
    rcases e' with z | z
    · rw [z]
      exact ⟨_, he, fun v q => nomatch q⟩
    · rw [z]
      exact ⟨o, ho, fun v q => by rw [hd] at q; cases q⟩
  keep := fun i h h' st k => let ⟨⟨old, he⟩, hi, hne⟩ := st; ⟨⟨old, k e (by simp) _ he⟩, hi.at fun o q => k it (by simp) o q, hne⟩
  item := by
    intro X hP hw hK hc i pins s σ H E I hf st hg
    subst hP hw hK
    obtain ⟨⟨old, he⟩, hit, hne⟩ := st
    obtain ⟨xs, x, hq, hx⟩ := hg
    obtain ⟨its, rv, p, hz⟩ := I.tuple hq
    obtain ⟨u, hu, ru⟩ := rv.get hx
    have hel : e < s.heap.objs.size := Heap.lt_size he
    have hil : it < s.heap.objs.size := by
      obtain ⟨_, q, _⟩ := hit
      exact Heap.lt_size q
    have hlt : i < its.toArray.size := by
      have := (List.getElem?_eq_some_iff.mp hu).1
      simpa using this
    have Dr := Draws.tuple (prog := X.prog) (w := X.w) (A := X.A.in1) (I.ok.hd hc) it a hai its.toArray
    refine wpAny_pyNext_enum_itemD Dr he ⟨hit, p⟩ hlt hne (by simp [hne, Ne.symm hae]) fun x' h' tk hx' ho hst' hT hsz hk => ?_
    have ex : x' = u := by
      have hx2 : its[i]? = some x' := by simpa using hx'
      rw [hu] at hx2
      exact (Option.some.inj hx2).symm
    subst ex
    refine ⟨_, rfl, wpAny_letOwnedTupleGo_enum (s := { s with heap := h', toks := tk + 1 }) ho fun h'' he' sb => ?_⟩
    have hT2 : h''.get? s.heap.objs.size = some { cls := .type "tuple", data := .seq #[.int i tk, x'] } := (sb.2 _ (Nat.ne_of_gt hel)).trans hT
    have new : ObjOk X.prog X.w (upd H s.heap.objs.size (.tup [.int (i : Nat), x])) h'' s.heap.objs.size (.tup [.int (i : Nat), x]) :=
      ⟨by show 2 ≤ sizeLine; decide, [.int i tk, x'], .cons ⟨_, rfl⟩ (.cons ru .nil), ⟨_, hT2, rfl, _, rfl⟩⟩
    have I1 : Inv X pins σ (upd H s.heap.objs.size (.tup [.int (i : Nat), x])) { s with heap := h'', toks := tk + 1 } :=
      I.turnedNew (ch := [e, it]) (fun b ob hb q => (sb.2 b (fun z => hb (by simp [z]))).trans (hk b ob (fun z => hb (by simp [z])) (fun z => hb (by simp [z])) q)) hf (Nat.le_refl _) new
    refine ⟨.ref s.heap.objs.size, _, I1, rfl, ⟨_, x, rfl, I.hok.fresh (Nat.le_refl _), rfl, fun ys hy => by rw [I.tuple_inj hy hq]; exact hx⟩, ⟨⟨x', ?_⟩, hst'.1.at fun o q => (sb.2 it (Ne.symm hne)).trans q, hne⟩, fun b hb => ?_⟩
    · have e1 : ((i + 1 : Nat) : Int) = (i : Int) + 1 := by omega
      rw [e1]
      exact he'
    · have hb' : b < s.heap.objs.size := by
        have e' : b = e ∨ b = it := by simpa using hb
        rcases e' with z | z
        · rw [z]; exact hel
        · rw [z]; exact hil
      rw [upd_ne (Nat.ne_of_lt hb')]
      exact (hf b hb).1
  done := by
    intro X hP hw hK hc i pins s σ H E I hf st hg
    subst hP hw hK
    obtain ⟨⟨old, he⟩, hit, hne⟩ := st
    obtain ⟨xs, hq, hx⟩ := hg
    obtain ⟨its, rv, p, hz⟩ := I.tuple hq
    obtain ⟨f0, f1, f2, f3, f4, f5⟩ := hf it (by simp)
    have hl := rv.length
    have Dr := Draws.tuple (prog := X.prog) (w := X.w) (A := X.A.in1) (I.ok.hd hc) it a hai its.toArray
    have T : s.TypeIs (.ref e) "enumerate" := ⟨_, he, rfl⟩
    unfold pyNext
    refine wpAny_bind (wpAny_attempt (wpAny_callSpecial?_slot (name := Str.ofString "__next__") T F.slot_enumerate_next (wpAny_call_entry F.slot_enumerate_next T F.entry_enumerate_next ?_ (F.args_enumerate_next_1 _))))
    show wpAny _ _ (field (.ref e) 2 >>= _) _ _ _
    refine wpAny_bind (wpAny_field he rfl (x := .ref it) rfl ?_)
    refine wpAny_bind (wpAny_nextOf_tuple_end (I.ok.hd hc) hit p (by simp; omega) fun h' x he' hx' => ?_)
    obtain ⟨o, ho, hcc⟩ := hx'
    refine wpAny_bind (wpAny_isInstance (T := "StopIteration") (b := true) ⟨o, ho, hcc⟩ isSubtype_stop ?_)
    exact wpAny_pure ⟨rfl, I.turned (t' := s.toks) (fun b o hb q => he' b o hb q) f0 f1 f3 f4 f5⟩
  self := fun A i s Q E st h => let ⟨⟨_, he⟩, _⟩ := st; wpAny_pyIter_enum he h
def iEnumT (K : Fg) (ta : TA) : TI := fun σ H R => ta σ H fun vs H1 => ∃ a xs, vs = [.ref a] ∧ SqT K H1 a xs ∧ R (IteT K a) H1
theorem pi_enumT {X : Cx} {e : Expr} {ta : TA} {p pos tpos : Pos} {elts : List Expr} {kk : Nat} (hg : Gl X "enumerate") (hm : X.mg "enumerate" = none) (ha : PA X [e] ta) (hs : starEach [e] X.env = [(false, eval e X.env)] := by rfl) :
    PI X (.Tuple elts kk tpos) (.Call (.Name "enumerate" p) [e] [] pos) (iEnumT X.K ta) := by
  refine ⟨fun pins s σ H R I h => ?_⟩
  refine Call_ (ld_blt I hg hm boot_enumerate (PyProof.Rows.callWith_type1 (thn (ha.run pos pins s σ H _ I h) fun us s1 ⟨vs, H1, I1, r1, q1⟩ => ?_) hs rfl))
  obtain ⟨a, xs, ex, hq, q⟩ := q1
  subst ex
  cases r1 with
  | cons r rr =>
    cases rr
    cases r
    obtain ⟨its, rv, p', hz⟩ := I1.tuple hq
    have la : a < s1.heap.objs.size := p'.lt
    refine call_enumT (begins_tuple a its.toArray) p' fun h' he hit hk => wpAny_pyIter_enum he ?_
    have I2 : Inv X pins σ H1 { s1 with heap := h' } := I1.kept (t' := s1.toks) hk
    refine ⟨s1.heap.objs.size + 1, [s1.heap.objs.size + 1, s1.heap.objs.size], _, _, H1, rfl, I2, turn_enumT a (s1.heap.objs.size + 1) s1.heap.objs.size (Nat.ne_of_lt la) (Nat.ne_of_lt (Nat.lt_succ_of_lt la)), ⟨⟨.none, he⟩, ⟨_, hit, rfl, rfl⟩, Nat.succ_ne_self _⟩, fun b hb => ?_, q⟩
    have e' : b = s1.heap.objs.size + 1 ∨ b = s1.heap.objs.size := by simpa using hb
    have hle : s1.heap.objs.size ≤ b := by
      rcases e' with z | z
      · rw [z]; exact Nat.le_add_right _ _
      · rw [z]; exact Nat.le_refl _
    exact I1.fpOk hle (I1.hok.fresh hle)
theorem walk_enumT {K : Fg} {a : Addr} {xs : List V} : Walk (IteT K a) xs.length (fun H => SqT K H a xs) (YPair (fun i => some (.int (i : Nat))) (fun i => xs[i]?)) := by
  refine ⟨fun i _ hi q => ⟨xs, xs[i], q, by simp [hi]⟩, fun _ q => ⟨xs, q, Nat.le_refl _⟩, fun i H v H' _ q y => ?_⟩
  obtain ⟨T, x, h1, h2, h3, h4⟩ := y
  exact ⟨T, .int (i : Nat), x, h1, h2, h3, rfl, h4 xs q⟩
end Z
set_option maxHeartbeats 1000000
namespace Z
open PySem PySem.Spec PyProof.Rows L2
section
variable {X : Cx}
def rEq0 (K : Fg) (neg : Bool) : R2 := fun x y H Q => ∃ a b xs, x = .ref a ∧ y = .ref b ∧ ((SqL K H a xs ∧ SqL K H b []) ∨ (SqT K H a xs ∧ SqT K H b [])) ∧ Q (.bl (if neg then !xs.isEmpty else xs.isEmpty)) H
theorem vals_nil {us : List Value} (r : Vals [] us) : us = [] := by cases r; rfl
theorem op_eq0 (hu : X.A.units + 64 < cLine) : OpR X (compareOp .Eq) (rEq0 X.K false) := by
  intro pins s σ H x y v u Q I rx ry h
  obtain ⟨a, b, xs, rfl, rfl, hq, q⟩ := h
  obtain rfl : v = Value.ref a := rx
  obtain rfl : u = Value.ref b := ry
  rcases hq with ⟨ha, hb⟩ | ⟨ha, hb⟩
  · obtain ⟨its, r1, p1, _⟩ := I.list ha
    obtain ⟨its2, r2, p2, _⟩ := I.list hb
    cases vals_nil r2
    cases xs with
    | nil =>
      cases vals_nil r1
      exact SeqAt.eq_listAt (e := fun _ => true) p1.isList p2.isList rfl (by omega) (fun j h1 _ => absurd h1 (Nat.not_lt_zero _)) ⟨.bl true, H, I, rfl, q⟩
    | cons z zs =>
      cases r1
      exact SeqAt.eq_list_lengthsAt p1.isList p2.isList (by simp) (by omega) ⟨.bl false, H, I, rfl, q⟩
  · obtain ⟨its, r1, p1, _⟩ := I.tuple ha
    obtain ⟨its2, r2, p2, _⟩ := I.tuple hb
    cases vals_nil r2
    cases xs with
    | nil =>
      cases vals_nil r1
      exact SeqAt.eq_tupleAt (e := fun _ => true) p1 p2 (by omega) (fun j h1 _ => absurd h1 (Nat.not_lt_zero _)) ⟨.bl true, H, I, rfl, q⟩
    | cons z zs =>
      cases r1
      refine SeqAt.eq_tupleAt (e := fun _ => true) p1 p2 (by omega) (fun j _ h1 => absurd h1 (Nat.not_lt_zero _)) ⟨.bl false, H, I, ?_, q⟩
      show Value.bool _ = Value.bool false
      simp
theorem op_ne0 (hu : X.A.units + 64 < cLine) : OpR X (compareOp .NotEq) (rEq0 X.K true) := by
  intro pins s σ H x y v u Q I rx ry h
  obtain ⟨a, b, xs, rfl, rfl, hq, q⟩ := h
  obtain rfl : v = Value.ref a := rx
  obtain rfl : u = Value.ref b := ry
  rcases hq with ⟨ha, hb⟩ | ⟨ha, hb⟩
  · obtain ⟨its, r1, p1, _⟩ := I.list ha
    obtain ⟨its2, r2, p2, _⟩ := I.list hb
    cases vals_nil r2
    cases xs with
    | nil =>
      cases vals_nil r1
      exact SeqAt.RcNeAt.lists (e := fun _ => true) p1.isList p2.isList rfl (by omega) (fun j h1 _ => absurd h1 (Nat.not_lt_zero _)) _ _ _ _ ⟨.bl false, H, I, rfl, q⟩
    | cons z zs =>
      cases r1
      exact SeqAt.RcNeAt.lists_lengths p1.isList p2.isList (by simp) (by omega) _ _ _ _ ⟨.bl true, H, I, rfl, q⟩
  · obtain ⟨its, r1, p1, _⟩ := I.tuple ha
    obtain ⟨its2, r2, p2, _⟩ := I.tuple hb
    cases vals_nil r2
    cases xs with
    | nil =>
      cases vals_nil r1
      exact SeqAt.RcNeAt.tuples (e := fun _ => true) p1 p2 (by omega) (fun j h1 _ => absurd h1 (Nat.not_lt_zero _)) _ _ _ _ ⟨.bl false, H, I, rfl, q⟩
    | cons z zs =>
      cases r1
      refine SeqAt.RcNeAt.tuples (e := fun _ => true) p1 p2 (by omega) (fun j _ h1 => absurd h1 (Nat.not_lt_zero _)) _ _ _ _ ⟨.bl true, H, I, ?_, q⟩
      show Value.bool _ = Value.bool true
      simp
def rSortedDat (K : Fg) : List V → Hp → VK → Prop := fun vs H Q => ∃ (a : Addr) (xs : List V) (ds : List PyData), vs = [.ref a] ∧ SqL K H a xs ∧ DpAll K H xs ds ∧ PySem.W.AllAlike ds ∧ PySem.W.Sortable ds ∧ (∀ d ∈ ds, d.depth ≤ 60) ∧
  ∀ ys p, DpAll K H ys (ds.mergeSort (PySem.W.dataLe false id)) → H p = none → Q (.ref p) (upd H p (.lst ys))
theorem each_of {K : Fg} {H : Hp} : ∀ {xs : List V} {us : List Value} {ds : List PyData}, Vals xs us → DpAll K H xs ds → PySem.W.EachIs (fun v d => ∃ y, RelV y v ∧ Dp K H y d) us ds
  | _, _, _, .nil, .nil => .nil
  | _, _, _, .cons r t, .cons d e => .cons ⟨_, r, d⟩ (each_of t e)
theorem each_back {K : Fg} {H : Hp} : ∀ {us : List Value} {ds : List PyData}, PySem.W.EachIs (fun v d => ∃ y, RelV y v ∧ Dp K H y d) us ds → ∃ ys, Vals ys us ∧ DpAll K H ys ds
  | _, _, .nil => ⟨[], .nil, .nil⟩
  | _, _, .cons ⟨y, r, d⟩ e => by
    obtain ⟨ys, h1, h2⟩ := each_back e
    exact ⟨y :: ys, .cons r h1, .cons d h2⟩
theorem cr_sortedDat (hu : X.A.units + 64 < cLine) : CallR X (.builtin "sorted") (rSortedDat X.K) := by
  intro pins s σ H vs us Q I r h
  obtain ⟨a, xs, ds, rfl, hs, hd, hal, hk, hdp, q⟩ := h
  obtain ⟨its, rv, hl, hz⟩ := I.list hs
  rw [Vals.ref1 r]
  have e := each_of rv hd
  have er : PySem.W.EachIs (fun v b => ∃ as, Reads s.heap v (id b) as) its ds := e.mono fun v d ⟨y, r1, d1⟩ => Dp.reads I d y v d1 r1
  have hid : ds.map id = ds := List.map_id ds
  refine PySem.W.sorted_data (enc := id) (R := fun v d => ∃ y, RelV y v ∧ Dp X.K H y d) hl.isList e er (by rw [hid]; exact hal) (by rw [hid]; exact hk) (by rw [← hd.len]; exact hz) (fun b hb => ?_) fun out hlen he => ?_
  · have := hdp b hb
    show X.A.units + 2 + b.depth < cLine
    omega
  · obtain ⟨ys, r2, d2⟩ := each_back he
    obtain ⟨ep, he'⟩ := PyProof.Rows.sortedAll_at s.heap its out.toArray
    refine ⟨.ref _, upd H (s.heap.objs.size + 1) (.lst ys), I.laid (t' := s.toks) (fun _ _ => PyProof.Rows.sortedAll_old) (Nat.le_succ _) ⟨?_, out, ep, r2, he'⟩, rfl, q ys _ d2 (I.hok.fresh (Nat.le_succ _))⟩
    rw [d2.len, List.length_mergeSort, ← hd.len]
    exact hz
end
end Z
set_option maxHeartbeats 1000000
namespace Z
open PySem PySem.Spec PyProof.Rows L2
section
variable {X : Cx} (K : Fg) {e : Expr} {es : List Expr} {ta : TE} {t : TA} {tg : TGs} {f : Str} {T : String} {r : V → List V → Hp → VK → Prop} {n : Nat} {x y : Expr}
theorem ix_tupK (hK : X.K = K := by rfl) : IxR X (rIxT K) := by subst hK; exact ix_tup
theorem ix_listK (hK : X.K = K := by rfl) : IxR X (rIxL K) := by subst hK; exact ix_list
theorem op_in_seqK (hK : X.K = K := by rfl) : OpR X (compareOp .In) (rIn K false) := by subst hK; exact op_in_seq
theorem op_notIn_seqK (hK : X.K = K := by rfl) : OpR X (compareOp .NotIn) (rIn K true) := by subst hK; exact op_notIn_seq
theorem call_isiDK (hK : X.K = K := by rfl) : CallR X (.builtin "isinstance") (rIsiD K) := by subst hK; exact call_isiD
theorem call_lenK (hK : X.K = K := by rfl) : CallR X (.builtin "len") (fun xs H Q => ∃ x n, xs = [x] ∧ LenV K x H n ∧ Q (.int n) H) := by subst hK; exact call_len
theorem cr_allK (hc : X.calm = true) (hK : X.K = K := by rfl) : CallR X (.builtin "all") (rAll K) := by subst hK; exact cr_all hc
theorem cr_sumK (hc : X.calm = true) (hK : X.K = K := by rfl) : CallR X (.builtin "sum") (rSum K) := by subst hK; exact cr_sum hc
theorem call_tuple_ofK (hK : X.K = K := by rfl) : CallR X (.type "tuple") (fun xs H Q => ∃ p ys, xs = [.ref p] ∧ ((SqL K H p ys ∧ ∀ l, H l = none → Q (.ref l) (upd H l (.tup ys))) ∨ (SqT K H p ys ∧ Q (.ref p) H))) := by subst hK; exact call_tuple_of
theorem op_eq0K (hu : X.A.units + 64 < cLine) (hK : X.K = K := by rfl) : OpR X (compareOp .Eq) (rEq0 K false) := by subst hK; exact op_eq0 hu
theorem op_ne0K (hu : X.A.units + 64 < cLine) (hK : X.K = K := by rfl) : OpR X (compareOp .NotEq) (rEq0 K true) := by subst hK; exact op_ne0 hu
theorem op_eqDK (hu : X.A.units + 64 < cLine) (hK : X.K = K := by rfl) : OpR X (compareOp .Eq) (rEqD K) := by subst hK; exact op_eqD hu
theorem op_neDK (hu : X.A.units + 64 < cLine) (hK : X.K = K := by rfl) : OpR X (compareOp .NotEq) (rNeD K) := by subst hK; exact op_neD hu
theorem cr_sortedDatK (hu : X.A.units + 64 < cLine) (hK : X.K = K := by rfl) : CallR X (.builtin "sorted") (rSortedDat K) := by subst hK; exact cr_sortedDat hu
theorem sl_listK (hK : X.K = K := by rfl) : SlR X (rSlL K) := by subst hK; exact sl_list
theorem sl_tupAK (hK : X.K = K := by rfl) : SlR X (rSlA K) := by subst hK; exact sl_tupA
theorem op_catAK (hK : X.K = K := by rfl) : OpR X (binaryOp .Add) (rCatA K) := by subst hK; exact op_catA
theorem kFld (h : PE X e (tFld X.K ta f)) (hK : X.K = K := by rfl) : PE X e (tFld K ta f) := by subst hK; exact h
theorem kBM (h : PE X e (tBM X.K T r ta t)) (hK : X.K = K := by rfl) : PE X e (tBM K T r ta t) := by subst hK; exact h
theorem kGT (h : PG X e (gTup X.K n tg)) (hK : X.K = K := by rfl) : PG X e (gTup K n tg) := by subst hK; exact h
theorem kIT (h : PI X x y (iTup X.K ta)) (hK : X.K = K := by rfl) : PI X x y (iTup K ta) := by subst hK; exact h
theorem kIL (h : PI X x y (iList X.K ta)) (hK : X.K = K := by rfl) : PI X x y (iList K ta) := by subst hK; exact h
theorem kIET (h : PI X x y (iEnumT X.K t)) (hK : X.K = K := by rfl) : PI X x y (iEnumT K t) := by subst hK; exact h
end
theorem _root_.L2.Room.units5 {k : Nat} {A : Around} (r : Room k A) : A.units + 65 < cLine := by have := r.un; omega
end Z
set_option maxHeartbeats 1000000
namespace Z
open PySem PySem.Spec PyProof.Rows L2
end Z
set_option maxHeartbeats 1000000
namespace Z
open PySem PySem.Spec PyProof.Rows L2
end Z
set_option maxHeartbeats 1000000
namespace Z
open PySem PySem.Spec PyProof.Rows L2
end Z
namespace Z
open PySem PySem.Spec PyProof.Rows L2
end Z
set_option maxHeartbeats 1000000
namespace Z
open PySem PySem.Spec PyProof.Rows L2
def isSeqD : PyData → Bool
  | .list _ => true
  | .tuple _ => true
  | _ => false
def rIsiDT (K : Fg) : List V → Hp → VK → Prop := fun xs H Q => ∃ (x : V) (tp : Addr) (d : PyData), xs = [x, .ref tp] ∧ H tp = some (.tup [.ty "tuple", .ty "list"]) ∧ Dp K H x d ∧ Q (.bl (isSeqD d)) H
def rIxA (K : Fg) : R2 := fun x y H Q => ∃ p xs i v, x = .ref p ∧ y = .int i ∧ (SqL K H p xs ∨ SqT K H p xs) ∧ atI xs i = some v ∧ Q v H
section
variable {X : Cx} (K : Fg)
theorem call_isiDTK (hK : X.K = K := by rfl) : CallR X (.builtin "isinstance") (rIsiDT K) := by
  subst hK
  intro pins s σ H xs us Q I r h
  obtain ⟨x, tp, d, e, ht, hd, q⟩ := h
  refine call_isiT pins s σ H xs us Q I r ⟨x, tp, _, _, [.type "tuple", .type "list"], isSeqD d, e, ht, .cons (.ty _) (.cons (.ty _) .nil), hd.ty, ?_, q⟩
  refine kitAny_cons (isi_kit (by simp)) (fun h1 => kitAny_cons (isi_kit (by simp)) (fun h2 => ?_) (fun h2 => ?_)) (fun h1 => ?_)
  · rw [kitAny_nil]
    cases d <;> first | rfl | (simp [isiB, isiT, tyD] at h1; done) | (simp [isiB, isiT, tyD] at h2; done)
  · cases d <;> first | rfl | (simp [isiB, isiT, tyD] at h2; done)
  · cases d <;> first | rfl | (simp [isiB, isiT, tyD] at h1; done)
theorem ix_anyK (hK : X.K = K := by rfl) : IxR X (rIxA K) := by
  subst hK
  intro value slice pins s σ H x y v u Q I rx ry h hs
  obtain ⟨p, xs, i, z, h1, h2, hq | hq, he, q⟩ := h
  · exact ix_list value slice pins s σ H x y v u Q I rx ry ⟨p, xs, i, z, h1, h2, hq, he, q⟩ hs
  · exact ix_tup value slice pins s σ H x y v u Q I rx ry ⟨p, xs, i, z, h1, h2, hq, he, q⟩ hs
end
end Z
set_option maxHeartbeats 1000000
namespace Z
open PySem PySem.Spec PyProof.Rows L2
theorem calD0 {K : Fg} {d : DefZ} {ps : List Str} (F : FunZ K d) (n : Nat) (hd : d.dfl.map (He.Dv.v K) ≠ []) (hn : n + (d.dfl.map (He.Dv.v K)).length = ps.length)
    (h : ∀ (T : Addr) (kV doc pm : Value) (an : Option Addr) (cdv ct : Value) (us its : List Value), us.length = n → its.length = (d.dfl.map (He.Dv.v K)).length →
      ∃ k, bindArgs (PySem.W.fnOf d.name d.qual (defArgs d.st) (defBody d.st) (defScope d.st) (.ref T) kV doc pm an cdv ct) ⟨us, []⟩ = seqItems? (.ref T) >>= k ∧ k (some its.toArray) = pure (ps.zip (us ++ its))) : Cal K (d.at_ K) ps (d.dfl.map (He.Dv.v K)) := by
  obtain ⟨ds, hv, hb⟩ := FunD.binds1 (ps := ps) F n 0 hd (by rw [Nat.sub_zero]; exact hn) (fun T kV doc pm an cdv ct us its h1 h2 => by
    obtain ⟨k, e1, e2⟩ := h T kV doc pm an cdv ct us its h1 h2
    refine ⟨k, e1, ?_⟩
    rw [e2, List.drop_zero])
  rw [List.drop_zero] at hv
  exact ⟨F.kp, ds, hb, hv⟩
def fTup0 (f : Fg → Addr) (K : Fg) : Bool := match K.lookup (f K) with
  | some ⟨.type c, _, .seq its _, _⟩ => decide (c = "tuple") && decide (its.toList = [])
  | _ => false
theorem fTup0_ok {K : Fg} {f : Fg → Addr} (h : fTup0 f K = true) (H : Hp) : SqT K H (f K) [] := by
  unfold fTup0 at h
  cases q : K.lookup (f K) with
  | none =>
    rw [q] at h
    cases h
  | some o =>
    obtain ⟨oc, od, dt, osl⟩ := o
    rw [q] at h
    cases oc with
    | type c =>
      cases dt with
      | seq its n =>
        obtain ⟨h1, h2⟩ := He.ba (show (decide (c = "tuple") && decide (its.toList = [])) = true from h)
        have e := of_decide_eq_true h2
        have hs : its.size = 0 := by rw [← Array.length_toList, e]; rfl
        exact .inr ⟨_, its, n, q, congrArg Value.type (of_decide_eq_true h1), rfl, by rw [hs]; exact Nat.zero_le _, by rw [e]; exact .nil⟩
      | _ => cases h
    | _ => cases dt <;> cases h
end Z
set_option maxHeartbeats 1000000
namespace Z
open PySem PySem.Spec PyProof.Rows L2
section
variable {X : Cx} {k : Nat} {f C : Addr} {ps : List Str} {sp : Sp} {E : XK}
def rEqO (C : Addr) (sp : Sp) (E : XK) : R2 := fun x y H Q => ∃ a b dx dy fs gs, x = .ref a ∧ y = .ref b ∧ H a = some (.ins C dx fs) ∧ H b = some (.ins C dy gs) ∧ sp [.ref a, .ref b] H (fun v H2 => ∃ c, v = .bl c ∧ Q (.bl c) H2) E
theorem op_eqO (hs : PySem.W.findIn X.K (.ref C) "__eq__" = some (some (.ref f))) (hfn : PySem.W.isFn X.K (.ref f) = true) (F : FnX X k f ps sp) (c : Cal X.K f ps []) (hr : Room k X.A) (hx : Passes (L2.CX X.prog X.w) X E) : OpR X (compareOp .Eq) (rEqO C sp E) := by
  intro pins s σ H x y v u Q I rx ry h
  obtain ⟨a, b, dx, dy, fs, gs, rfl, rfl, ea, eb, q⟩ := h
  obtain rfl : v = Value.ref a := rx
  obtain rfl : u = Value.ref b := ry
  obtain ⟨mA, O, _⟩ := ins_get I.hok ea
  obtain ⟨mB, O2, _⟩ := ins_get I.hok eb
  obtain ⟨od, J, _⟩ := O.look
  obtain ⟨od2, J2, _⟩ := O2.look
  obtain ⟨mf, fr⟩ := I.fr
  show wpAny (model X.prog X.w) X.A (richCompare .Eq (.ref a) (.ref b)) (EP X pins σ Q) X.xe s
  refine PySem.W.cmp_K (op := .Eq) (tb := .ref C) hr.units0 fr I.mod.kin J J2.type (by simp [PySem.W.notFirst]) hs hfn (thn (run_in0 F c hr hx I (.cons (show L2.RelV (.ref a) (.ref a) from rfl) (.cons (show L2.RelV (.ref b) (.ref b) from rfl) .nil)) q) fun r s' ⟨z, H2, I2, rz, w, ez, q2⟩ => ?_)
  subst ez
  cases rz
  exact ⟨.bl w, H2, I2, rfl, q2⟩
theorem strNoSub : typeLookup (.type "str") (dunder "sub") = pure none := by rw [typeLookup_type, builtinLookup_eq_fast]; kernel_rfl
theorem strNoRsub : typeLookup (.type "str") (dunderR "sub") = pure none := by rw [typeLookup_type, builtinLookup_eq_fast]; kernel_rfl
theorem str_fills {M : Model} {A : Around} {s : Shared} {Q : Bool → Shared → Prop} {R : Value → Shared → Prop} (q : Q false s) : wpAny M A (fillsNumberSlot (.type "str") "sub") Q R s := by
  unfold fillsNumberSlot
  simp only [strNoSub, strNoRsub]
  exact wpAny_pure q
def rSubS (C : Addr) (sp : Sp) (E : XK) : R2 := fun x y H Q => ∃ a z dx fs, x = .ref a ∧ y = .str z ∧ H a = some (.ins C dx fs) ∧ sp [.ref a, .str z] H (fun v H2 => (∃ p, v = .ref p) ∧ Q v H2) E
theorem op_subS (hs : PySem.W.findIn X.K (.ref C) "__sub__" = some (some (.ref f))) (hfn : PySem.W.isFn X.K (.ref f) = true) (hc : PySem.W.selfFirst X.K C = true) (F : FnX X k f ps sp) (c : Cal X.K f ps []) (hr : Room k X.A) (hx : Passes (L2.CX X.prog X.w) X E) : OpR X (binaryOp .Sub) (rSubS C sp E) := by
  intro pins s σ H x y v u Q I rx ry h
  obtain ⟨a, z, dx, fs, rfl, rfl, ea, q⟩ := h
  obtain rfl : v = Value.ref a := rx
  obtain ⟨t, rfl⟩ := ry
  obtain ⟨mA, O, _⟩ := ins_get I.hok ea
  obtain ⟨od, J, _⟩ := O.look
  obtain ⟨mf, fr⟩ := I.fr
  have KX := PySem.W.Frag.In.keeps I.mod.kin fr.keep
  obtain ⟨cd, hcd, hm⟩ := PySem.W.any_some hc
  obtain ⟨rest, hm⟩ : ∃ rest, cd.mro = .ref C :: rest := by
    cases q : cd.mro with
    | nil => rw [q] at hm; cases hm
    | cons b r =>
      rw [q] at hm
      have := beq_iff_eq.mp hm
      simp only [List.head?_cons, Option.some.injEq] at this
      exact ⟨r, by rw [this]⟩
  have one := run_in0 F c hr hx I (.cons (show L2.RelV (.ref a) (.ref a) from rfl) (.cons (show L2.RelV (.str z) (.str z t) from ⟨t, rfl⟩) .nil)) q
  unfold binaryOp
  refine wpAny_holding (wpAny_bind ?_)
  unfold binaryOp1
  have hd : dunder "sub" = ("__sub__" : Str) := by kernel_rfl
  have hs2 : PySem.W.findIn X.K (.ref C) (dunder "sub") = some (some (.ref f)) := by rw [hd]; exact hs
  refine wpAny_bind (J.type.here (wpAny_bind ?_))
  show wpAny _ _ (pure (Value.type "str")) _ _ _
  refine wpAny_pure (wpAny_bind ((PySem.W.fills_K KX hcd hm hs2).here ?_))
  have hne : (Value.ref C == Value.type "str") = false := rfl
  simp only [hne, Bool.false_eq_true, if_false]
  refine wpAny_bind (str_fills ?_)
  simp only [Bool.and_false, Bool.false_eq_true, if_false, Bool.false_and, if_true]
  refine wpAny_bind (wpAny_pure ?_)
  simp only [Bool.false_eq_true, if_false]
  refine wpAny_bind (m := tryMethod (.ref a) _ (.str z t)) ?_
  unfold tryMethod
  refine wpAny_bind (PySem.W.special_fn KX J hs2 (beq_iff_eq.mp hfn) (wpAny_mono one (fun w s' hw => ?_) fun _ _ x => x))
  obtain ⟨zz, H2, I2, rz, ⟨p, ep⟩, q2⟩ := hw
  subst ep
  cases rz
  exact wpAny_pure (wpAny_pure (wpAny_pure ⟨.ref p, H2, I2, rfl, q2⟩))
theorem call_isiOK (K : Fg) (hK : X.K = K := by rfl) : CallR X (.builtin "isinstance") (rIsi K) := by subst hK; exact call_isi
end
structure IsO (K : Fg) (C : Addr) : Prop where
  a : PySem.W.findIn K (.ref C) "__class__" = some (some (.builtin "object.__class__"))
  n : PySem.W.specialIn K (.builtin "object.__class__") "__get__" = some (some (.builtin "getset_descriptor.__get__"))
  t : PySem.W.takesIn K (.builtin "object.__class__") = some true
  m : PySem.W.mroIn K C (.type "object") = some true
  k : PySem.W.kitOne K (.ref C) (.ref C) = some true
def fIsO (x : Str) (K : Fg) : Bool := decide (PySem.W.findIn K (.ref (He.ga K x)) "__class__" = some (some (.builtin "object.__class__"))) && (decide (PySem.W.specialIn K (.builtin "object.__class__") "__get__" = some (some (.builtin "getset_descriptor.__get__"))) && (decide (PySem.W.takesIn K (.builtin "object.__class__") = some true) && (decide (PySem.W.mroIn K (He.ga K x) (.type "object") = some true) && decide (PySem.W.kitOne K (.ref (He.ga K x)) (.ref (He.ga K x)) = some true))))
theorem fIsO_ok {K : Fg} {x : Str} (h : fIsO x K = true) : IsO K (He.ga K x) := by
  unfold fIsO at h
  simp only [Bool.and_eq_true, decide_eq_true_eq] at h
  obtain ⟨h1, h2, h3, h4, h5⟩ := h
  exact ⟨h1, h2, h3, h4, h5⟩
theorem s_isiO {K : Fg} {H : Hp} {Q : VK} {a C dx : Addr} {fs : List (Str × V)} (h : H a = some (.ins C dx fs)) (cl : Cls K C) (i : IsO K C) (q : Q (.bl true) H) : rIsi K [.ref a, .ref C] H Q := ⟨.ref a, .ref C, .ref C, .ref C, true, rfl, .own C, .base (.ins h cl i.a i.n i.t i.m), i.k, q⟩
end Z
set_option maxHeartbeats 1000000
namespace Z
open PySem PySem.Spec PyProof.Rows L2
theorem adj_rev (n : Nat) : Builtin.Slice.sliceAdjust none none (-1) (n : Int) = ((n : Int) - 1, -1) := by
  unfold Builtin.Slice.sliceAdjust
  simp
theorem plc_rev (n : Nat) : Builtin.Slice.slicePlaces ((n : Int) - 1) (-1) (-1) = n := by
  unfold Builtin.Slice.slicePlaces
  have h1 : ¬ ((-1 : Int) > 0) := by decide
  rw [if_neg h1, show (- -1 : Int) = 1 by decide, Int.ediv_one]
  split <;> omega
theorem fm_congr {α β : Type} {f g : α → Option β} : ∀ {l : List α}, (∀ a ∈ l, f a = g a) → l.filterMap f = l.filterMap g
  | [], _ => rfl
  | a :: l, h => by
    rw [List.filterMap_cons, List.filterMap_cons, h a (List.mem_cons_self ..), fm_congr fun b hb => h b (List.mem_cons_of_mem _ hb)]
theorem pick_rev (xs : Array Value) : ((List.range xs.size).filterMap fun (m : Nat) => xs[(((xs.size : Nat) : Int) - 1 + (m : Int) * -1).toNat]?).toArray = xs.toList.reverse.toArray := by
  have e : (List.range xs.size).filterMap (fun (m : Nat) => xs[(((xs.size : Nat) : Int) - 1 + (m : Int) * -1).toNat]?) = ((List.range xs.size).map fun k => xs.size - 1 - k).filterMap (xs[·]?) := by
    rw [List.filterMap_map]
    refine fm_congr fun k hk => ?_
    have := List.mem_range.mp hk
    have e2 : (((xs.size : Nat) : Int) - 1 + (k : Int) * -1).toNat = xs.size - 1 - k := by omega
    rw [e2]
    rfl
  rw [e, PySem.W.krv_range, List.filterMap_reverse, PySem.W.krv_all]
section
variable {prog : Program} {w : World} {A : Around} {E : Value → Shared → Prop} {s : Shared}
theorem sliceApplied_rev {sl : Addr} {vl vu vs : Value} {n : Nat} {Q : Int × Int × Nat → Shared → Prop} (hs : s.heap.IsSliceOf sl vl vu vs) (pl : IsPart vl none) (pu : IsPart vu none) (ps : IsPart vs (some (-1)))
    (h : Q ((n : Int) - 1, -1, n) s) : wpAny (model prog w) A (Builtin.Slice.sliceApplied (.ref sl) (pure (n : Int))) Q E s := by
  obtain ⟨os, hos, hcs, hds⟩ := id hs
  unfold Builtin.Slice.sliceApplied Builtin.Slice.sliceFields
  refine wpAny_bind (wpAny_bind (wpAny_field hos hds (x := vl) rfl (wpAny_bind (wpAny_field hos hds (x := vu) rfl (wpAny_bind (wpAny_field hos hds (x := vs) rfl (wpAny_pure ?_)))))))
  refine wpAny_bind (HT.slicePart_ ps ?_)
  show wpAny _ _ (if ((-1 : Int) == 0) = true then _ else _) _ _ s
  rw [if_neg (by decide)]
  refine wpAny_bind (HT.slicePart_ pl (wpAny_bind (HT.slicePart_ pu (wpAny_bind (wpAny_pure ?_)))))
  show wpAny _ _ (match Builtin.Slice.sliceAdjust none none (-1) (n : Int) with | (lo, hi) => pure (lo, (-1 : Int), Builtin.Slice.slicePlaces lo hi (-1))) _ _ s
  rw [adj_rev]
  show wpAny _ _ (pure ((n : Int) - 1, (-1 : Int), Builtin.Slice.slicePlaces ((n : Int) - 1) (-1) (-1))) _ _ s
  rw [plc_rev]
  exact wpAny_pure h
theorem getItem_tuple_rev {t sl : Addr} {items : Array Value} {vl vu vs : Value} {Q : Value → Shared → Prop} (ht : IsTup s.heap t items) (hs : s.heap.IsSliceOf sl vl vu vs) (pl : IsPart vl none) (pu : IsPart vu none) (ps : IsPart vs (some (-1)))
    (h : Q (.ref s.heap.objs.size) { s with heap := s.heap.push { cls := .type "tuple", data := .seq items.toList.reverse.toArray } })
    (hsz : items.size ≤ sizeLine) : wpAny (model prog w) A (getItem (.ref t) (.ref sl)) Q E s := by
  have htake : sizeOk (.seq items.toList.reverse.toArray) := by
    show items.toList.reverse.toArray.size ≤ sizeLine
    rw [List.size_toArray, List.length_reverse, Array.length_toList]
    omega
  obtain ⟨os, hos, hcs, hds⟩ := id hs
  have hTs : s.TypeIs (.ref sl) "slice" := ⟨os, hos, hcs⟩
  unfold getItem
  try with_reducible refine wpAny_holding ?_
  first | refine wpAny_bind (wpAny_pure ?_) | skip
  refine wpAny_bind (wpAny_sequenceKey ht.typeIs (by decide) ?_)
  refine wpAny_bind (wpAny_callSpecial?_slot (name := Str.ofString "__getitem__") ht.typeIs PyProof.Rows.slot_tuple_getitem
    (wpAny_call_entry PyProof.Rows.slot_tuple_getitem ht.typeIs entry_tuple_getitem ?_ (args_tuple_getitem _ _)))
  show wpAny _ _ (Builtin.Tuple.tupleItemsOf (.ref t) >>= _) _ _ s
  refine wpAny_bind (tupleItemsOf_ ht ?_)
  refine wpAny_bind (wpAny_typeOf hTs ?_)
  rw [if_pos (by decide)]
  refine wpAny_bind (sliceApplied_rev hs pl pu ps ?_)
  have hno : ¬ (((items.size : Int) - 1 == 0 && (-1 : Int) == 1 && items.size == items.size) = true) := by
    intro q
    rw [Bool.and_eq_true, Bool.and_eq_true] at q
    exact absurd q.1.2 (by decide)
  show wpAny _ _ (if ((items.size : Int) - 1 == 0 && (-1 : Int) == 1 && items.size == items.size) = true then _ else _) _ _ s
  rw [if_neg hno, pick_rev]
  first
    | exact wpAny_bind (m := Builtin.Tuple.tupleExact _) (wpAny_newObj_type (wpAny_pure ⟨_, rfl, wpAny_pure h⟩) htake)
    | exact wpAny_bind (m := Builtin.Tuple.tupleExact _) (wpAny_newObj_type (wpAny_bind (wpAny_pure (wpAny_pure ⟨_, rfl, wpAny_pure h⟩))) htake)
    | exact wpAny_bind (wpAny_bind (m := Builtin.Tuple.tupleExact _) (wpAny_newObj_type (wpAny_pure (wpAny_pure ⟨_, rfl, wpAny_pure h⟩)) htake))
    | exact wpAny_bind (wpAny_bind (m := Builtin.Tuple.tupleExact _) (wpAny_newObj_type (wpAny_pure ⟨_, rfl, wpAny_pure h⟩) htake))
end
def tRevT (K : PySem.W.Frag) (te : TE) : TE := fun σ H Q => te σ H fun x H1 => ∃ a xs, x = .ref a ∧ SqT K H1 a xs ∧ ∀ p, H1 p = none → Q (.ref p) (upd H1 p (.tup xs.reverse))
theorem pe_revTK {X : Cx} {e : Expr} {te : TE} {k : Nat} {p1 p2 p3 pos : Pos} (K : PySem.W.Frag) (he : PE X e te) (hK : X.K = K := by rfl) : PE X (.Subscript e (.Slice none none (some (.UnaryOp .USub (.Constant (.int 1) k p1) p2)) p3) pos) (tRevT K te) := by
  subst hK
  refine ⟨fun pins s σ H Q I h => ?_⟩
  refine Subscript_ (thn (he.run pins s σ H _ I h) fun v s1 ⟨x, H1, I1, r1, q1⟩ => ?_)
  obtain ⟨a, xs, ex, hx, q⟩ := q1
  subst ex
  cases r1
  have hst : PO X (some (.UnaryOp .USub (.Constant (.int 1) k p1) p2)) (tPart (tUn (rU fun i => .int (-i)) (tC (.int 1)))) := po_some (pe_un un_neg pe_int)
  refine wpAny_Slice (thn (po_none.run pins s1 σ H1 (fun o H2 => o = none ∧ H2 = H1) I1 ⟨rfl, rfl⟩) fun vl s2 ⟨l, H2, I2, pl, el, e2⟩ => ?_)
  subst el e2
  refine thn (po_none.run pins s2 σ H2 (fun o H3 => o = none ∧ H3 = H2) I2 ⟨rfl, rfl⟩) fun vu s3 ⟨u, H3, I3, pu, eu, e3⟩ => ?_
  subst eu e3
  refine thn (hst.run pins s3 σ H3 (fun o H4 => o = some (-1) ∧ H4 = H3) I3 ⟨1, rfl, -1, rfl, rfl, rfl⟩) fun vs s4 ⟨o, H4, I4, ps, eo, e4⟩ => ?_
  subst eo e4
  have I5 : Inv X pins σ H4 { s4 with heap := s4.heap.push { cls := .type "slice", data := .fields #[vl, vu, vs] } } := I4.kept (t' := s4.toks) fun b ob q => Heap.get?_push_of_some _ q
  obtain ⟨its, r, ht, hz⟩ := I5.tuple hx
  have hlen := r.length
  show wpAny (model X.prog X.w) X.A (subscriptTail e (.Slice none none (some (.UnaryOp .USub (.Constant (.int 1) k p1) p2)) p3) (.ref a) (.ref s4.heap.objs.size)) (EP X pins σ Q) X.xe { s4 with heap := s4.heap.push { cls := .type "slice", data := .fields #[vl, vu, vs] } }
  refine tail_any (ops := [.ref a, .ref s4.heap.objs.size]) ht.typeIs PyProof.Rows.slot_tuple_getitem.lookup ?_ (by with_unfolding_all rfl)
  refine getItem_tuple_rev ht (Heap.IsSliceOf.new _ vl vu vs) pl pu ps ?_ (by rw [List.size_toArray]; omega)
  refine ⟨.ref _, _, I5.laid (t' := s4.toks) (o := .tup xs.reverse) (fun b ob q => Heap.get?_push_of_some _ q) (Nat.le_refl _) ?_, rfl, q _ (I5.hok.fresh (Nat.le_refl _))⟩
  exact ⟨by rw [List.length_reverse]; exact hz, _, r.reverse, IsTup.new _ _⟩
end Z
set_option maxHeartbeats 3200000
namespace Z
open PySem PySem.Spec PyProof.Rows L2 PySem.Froz
structure TxR (P : Program) (w : World) (D : SD) (l : List Str) : Prop where
  ok : TxOk P w D l
  nd : l.Nodup
  ris : Ris D.2.2.place.toList
  led : w.params.followText "set-order" = true ∨ D.2.2.led = true
def setNew (w : World) : Obj := { cls := .type "set", dict := none, data := .set #[] 0 (.fresh 0 0 (!w.params.followText "set-order")) }
theorem off_place (t : SetTable) : (if t.plain = true then { t with plain := false } else t).place = t.place ∧ (if t.plain = true then { t with plain := false } else t).led = t.led := by
  by_cases c : t.plain = true
  · rw [if_pos c]; exact ⟨rfl, rfl⟩
  · rw [if_neg c]; exact ⟨rfl, rfl⟩
theorem tail_place (ep : Nat) (es : Array (Int × Value)) (t : SetTable) (b : Bool) (r : Ris t.place.toList) : Ris (tailTx ep es t b).2.2.place.toList ∧ (tailTx ep es t b).2.2.led = t.led := by
  unfold tailTx
  split
  · exact ⟨relayAll_ris _ _ _, relayAll_led _ _ _⟩
  · exact ⟨r, rfl⟩
theorem TxR.add {P : Program} {w : World} {D : SD} {l : List Str} {k : Str} (F : TxR P w D l) (u : Tok) (hk : k ∉ l) : TxR P w (addTx (hashStr w k) (.str k u) D) (k :: l) := by
  have r1 := layNew_ris D.2.2 D.1 (hashStr w k) (.str k u) F.ris
  have l1 := layNew_led D.2.2 D.1 (hashStr w k) (.str k u)
  obtain ⟨p1, p2⟩ := off_place (layNew D.2.2 D.1 (hashStr w k) (.str k u)).2.1
  obtain ⟨q1, q2⟩ := tail_place D.2.1 (layNew D.2.2 D.1 (hashStr w k) (.str k u)).1 _ (layNew D.2.2 D.1 (hashStr w k) (.str k u)).2.2.1 (by rw [p1]; exact r1)
  exact ⟨add_ok u F.ok, List.nodup_cons.mpr ⟨hk, F.nd⟩, q1, F.led.imp id fun z => q2.trans (p2.trans (l1.trans z))⟩
end Z
set_option maxHeartbeats 3200000
namespace Z
open PySem PySem.Spec PyProof.Rows L2 PySem.Froz
section
variable {P : Program} {w : World} {A : Around} {E : Value → Shared → Prop} {s : Shared}
theorem call_set_i {a : Addr} {items : Array Value} {ns : List Int} {Q : Value → Shared → Prop} (hh : A.handled = none) (hl : s.heap.IsList a items) (hi : IntsAre items.toList ns) (small : ns.length + 1 < scanBound)
    (h : ∀ (h' : Heap) (tk c : Nat), SetR w h' s.heap.objs.size (fun j => decide (j ∈ ns)) c → c ≤ ns.length → (∀ b o, s.heap.get? b = some o → h'.get? b = some o) → Q (.ref s.heap.objs.size) { s with heap := h', toks := tk }) :
    wpAny (model P w) A (call (.type "set") [.ref a]) Q E s := by
  have sz : items.size = ns.length := by
    have q := IntsAre.length hi
    rw [Array.length_toList] at q
    exact q
  obtain ⟨_, _, hmro⟩ := F.called_set.mro
  have hmade := F.called_set.made
  have hsub := F.called_set.sub
  refine wpAny_call (codeAny_of_tree ?_)
  show wpAny _ _ (callAny (.type "set") _) _ _ _
  refine wpAny_pure ⟨Code.quiet_builtin _ (by decide +kernel), codeAny_builtin F.entry_type_call ?_⟩
  rw [Around.under_plain (weight_type_call_type "set" [.ref a] []) rfl]
  have h1 := F.called_set.notType
  have h2 := F.called_set.canCreate
  have h3 := F.typeCall_set_1 (.ref a)
  repeat (any_goals (first | assumption | wp_step))
  refine codeAny_mono (code_set_led1 (.ref a) (E := E) (Q₁ := fun v s₁ => v = .ref s.heap.objs.size ∧ s₁ = { s with heap := s.heap.push (setNew w) }) ⟨rfl, rfl⟩) fun r s₁ hr => ?_
  cases r with
  | error e => exact hr
  | ok fl =>
    cases fl with
    | next => exact hr.elim
    | brk => exact hr.elim
    | cont => exact hr.elim
    | ret obj =>
      obtain ⟨rfl, rfl⟩ := hr
      have hS : (s.heap.push (setNew w)).get? s.heap.objs.size = some (setNew w) := Heap.get?_push_size _ rfl
      have hT : Shared.TypeIs { s with heap := s.heap.push (setNew w) } (.ref s.heap.objs.size) "set" := ⟨_, hS, rfl⟩
      have hli := F.called_set.init.lookup
      have hbi := F.called_set.init.bind (.ref s.heap.objs.size)
      repeat (any_goals (first | assumption | wp_step))
      refine codeAny_mono (codeAny_call_builtin (R := wants (fun r s₂ => r = .none ∧ ∃ h' tk c, s₂ = { s with heap := h', toks := tk } ∧ SetR w h' s.heap.objs.size (fun j => decide (j ∈ ns)) c ∧ c ≤ ns.length ∧ ∀ b o, s.heap.get? b = some o → h'.get? b = some o) E) F.called_set.init.plain F.entry_set_init (check_set_init_1 hT ?_)) fun r₂ s₂ hr₂ => ?_
      · obtain ⟨⟨_, od, _, os⟩, ha, rfl, ep, rfl⟩ := hl
        have less : a < s.heap.objs.size := Heap.lt_size ha
        have ha1 := Heap.get?_push_of_some (setNew w) ha
        have la : (s.heap.push (setNew w)).IsList a items := ⟨_, ha1, rfl, ep, rfl⟩
        have hx1 := F.sub_list_set
        have hx2 := F.sub_list_frozenset
        have hx3 : (Value.type "list" == Value.type "dict") = false := by decide
        have h8 : A.in1.in1.in1.handled = none := by simp [hh]
        have z1 : (s.heap.push (setNew w)).objs.size = s.heap.objs.size + 1 := Heap.size_push ..
        have hneI : a ≠ (s.heap.push (setNew w)).objs.size := by rw [z1]; exact Nat.ne_of_lt (Nat.lt_succ_of_lt less)
        have hSf : s.heap.objs.size ∉ [(s.heap.push (setNew w)).objs.size, a] := by
          rw [z1]
          simp only [List.mem_cons, List.mem_singleton, List.not_mem_nil, or_false, not_or]
          exact ⟨Nat.ne_of_lt (Nat.lt_succ_self _), Nat.ne_of_gt less⟩
        unfold Builtin.«set.__init__» noKeywords Builtin.Frozenset.updateFrom
        generalize ePI : pyIter = PI
        wp_walk
        subst ePI
        refine wpAny_pyIter_list la (wpAny_bind (wpAny_runValue ?_))
        have hval : ∀ (i : Nat) (v : Value), items[i]? = some v → ∃ k t, ns[i]? = some k ∧ v = .int k t := fun i v hv => by
          have hi2 : i < ns.length := by rw [← sz]; exact (Array.getElem?_eq_some_iff.mp hv).1
          obtain ⟨t, e⟩ := PyProof.Rows.IntsAre.int_at hi i v (by rw [Array.getElem?_toList]; exact hv)
          refine ⟨ns[i], t, List.getElem?_eq_getElem hi2, ?_⟩
          rw [e, List.getD_eq_getElem?_getD, List.getElem?_eq_getElem hi2] <;> rfl
        refine set_update_ints ((Walks.list h8 _ a hneI items).toS) s.heap.objs.size hSf ns sz small hval (items.size - 0) 0 _ (by omega) (Nat.zero_le _) ⟨⟨_, Heap.get?_push_size _ rfl, rfl, rfl⟩, la.push _⟩ ⟨0, Nat.le_refl 0, setR_new_at (Heap.get?_push_of_some _ hS)⟩ fun s' c' mv hc' up => ?_
        obtain ⟨h', g2, d', tk', os'⟩ := s'
        obtain ⟨mh, rfl, rfl, rfl, _⟩ := mv
        show wpAny _ _ _ _ _ _
        refine wpAny_pure (show wpAny _ _ (ret Value.none) _ _ _ from wpAny_pure ⟨rfl, h', tk', c', rfl, up, by omega, fun b o e => ?_⟩)
        have lb : b < s.heap.objs.size := Heap.lt_size e
        exact mh b o (by rw [z1]; simp only [List.mem_cons, List.mem_singleton, List.not_mem_nil, or_false, not_or]; exact ⟨Nat.ne_of_lt lb, Nat.ne_of_lt (Nat.lt_succ_of_lt lb)⟩) (Heap.get?_push_of_some _ (Heap.get?_push_of_some _ e))
      · cases r₂ with
        | error e => exact hr₂
        | ok fl₂ =>
          cases fl₂ with
          | next => exact hr₂.elim
          | brk => exact hr₂.elim
          | cont => exact hr₂.elim
          | ret r =>
            obtain ⟨rfl, h', tk, c, rfl, q1, q2, kp⟩ := hr₂
            repeat (any_goals (first | assumption | wp_step))
            exact h _ _ c q1 q2 kp
end
def SetX (P : Program) (w : World) (a : Addr) (l : List Str) : HO := .ext fun h => ∃ D, h.get? a = some (sObj "set" D) ∧ TxR P w D l
section
variable {X : Cx}
theorem setX_get {pins : List (Addr × Obj)} {σ : L2.St} {H : Hp} {s : Shared} {a : Addr} {l : List Str} (I : Inv X pins σ H s) (ha : H a = some (SetX X.prog X.w a l)) : ∃ D, s.heap.get? a = some (sObj "set" D) ∧ TxR X.prog X.w D l := (I.hok a _ ha).1
def rLenX (P : Program) (w : World) : List V → Hp → VK → Prop := fun vs H Q => ∃ (a : Addr), vs = [V.ref a] ∧ ((∃ l : List Str, H a = some (SetX P w a l) ∧ l.length < 4000 ∧ Q (.int l.length) H) ∨ ∃ S n, H a = some (SetO w a S n) ∧ Q (.int (n : Nat)) H)
theorem cr_lenX : CallR X (.builtin "len") (rLenX X.prog X.w) := by
  intro pins s σ H vs us Q I r h
  obtain ⟨a, rfl, h⟩ := h
  rw [Vals.ref1 r]
  rcases h with ⟨l, ha, hz, q⟩ | ⟨S, n, ha, q⟩
  · obtain ⟨D, ho, F⟩ := setX_get I ha
    refine call_len_set ho ⟨rfl, rfl, rfl⟩ rfl F.ok.fit (by rw [F.ok.sz]; omega) ⟨.int l.length, H, I.tok _, ⟨_, by rw [F.ok.sz]⟩, q⟩
  · obtain ⟨o, es, ep, t, ho, hex, hd, _, _, _, hb, hf, hn, _⟩ := setO_get I ha
    refine call_len_set ho hex hd hf (by unfold scanBound at hb; omega) ⟨.int n, H, I.tok _, ⟨_, by rw [hn]⟩, q⟩
end
end Z
set_option maxHeartbeats 1000000
namespace Z
open PySem PySem.Spec PyProof.Rows L2
end Z
set_option maxHeartbeats 1000000
namespace Z
open PySem PySem.Spec PyProof.Rows L2
end Z
set_option maxHeartbeats 1000000
namespace Z
open PySem PySem.Spec PyProof.Rows L2
end Z
set_option maxHeartbeats 1000000
namespace Z
open PySem PySem.Spec PyProof.Rows L2
open He (ga ma)
end Z
set_option maxHeartbeats 1000000
namespace Z
open PySem PySem.Spec PyProof.Rows L2
open He (ga ma)
end Z
set_option maxHeartbeats 1000000
namespace Z
open PySem PySem.Spec PyProof.Rows L2
open PySem.W (minD AlikeAll min_list_data)
open He (ga ma)
section
variable {X : Cx}
def tCallI (C : Addr) (sp : Sp) (dvs : List V) (E : XK) (tf : TE) (t : TA) : TE := fun σ H Q => tf σ H fun y H1 => ∃ a, y = V.ref a ∧ t σ H1 fun vs H2 => (∃ dx fs, H2 a = some (.ins C dx fs)) ∧ sp ((V.ref a :: vs) ++ dvs) H2 Q E
variable {k : Nat} {f C : Addr} {ps : List Str} {sp : Sp} {dvs : List V} {pos : Pos} {e fe : Expr} {es : List Expr} {tf : TE} {t : TA} {E : XK}
end
theorem s_callI {σ : L2.St} {H : Hp} {Q : VK} {C : Addr} {sp : Sp} {dvs : List V} {E : XK} {tf : TE} {t : TA} (q : tf σ H fun y H1 => ∃ a, y = V.ref a ∧ t σ H1 fun vs H2 => (∃ dx fs, H2 a = some (.ins C dx fs)) ∧ sp ((V.ref a :: vs) ++ dvs) H2 Q E) : tCallI C sp dvs E tf t σ H Q := q
end Z
set_option maxHeartbeats 1000000
namespace Z
open PySem PySem.Spec PyProof.Rows L2
end Z
set_option maxHeartbeats 2000000
namespace Z
open PySem PySem.Spec PyProof.Rows L2
end Z
set_option maxHeartbeats 2000000
namespace Z
open PySem PySem.Spec PyProof.Rows L2
end Z
set_option maxHeartbeats 1000000
namespace Z
open PySem PySem.Spec PyProof.Rows L2
def isIntD (lo hi : Int) : PyData → Bool
  | .int i => decide (lo ≤ i ∧ i ≤ hi)
  | _ => false
def letters : List Nat := ("abcdefghijklmnopqrstuvwxyz" : Str).cps.toList
def isWord : PyData → Bool
  | .str z => !decide (V.str z = V.str "") && z.cps.toList.all fun c => decide (c ∈ letters)
  | _ => false
def isName (d : PyData) : Bool := isWord d && match d with
  | .str z => decide ((z.length : Int) ≤ 8)
  | _ => false
def isKind : PyData → Bool
  | .str z => inV (.str z) [.str "edge", .str "level"]
  | _ => false
def isSteps (n : Nat) : PyData → Bool
  | .tuple xs => decide ((1 : Int) ≤ xs.length) && decide ((xs.length : Int) ≤ n)
  | _ => false
def isLine : PyData → Bool
  | .tuple [a, b, c, e] => isName a && (isKind b && (isIntD 1 9 c && isSteps 8 e))
  | _ => false
theorem isLine_no {ds : List PyData} (h : ds.length ≠ 4) : isLine (.tuple ds) = false := by
  unfold isLine
  split
  · rename_i e
    cases e
    simp at h
  · rfl
def isWork : PyData → Bool
  | .tuple [a, b, c] => isName a && (isIntD 1 9 b && isIntD 1 99 c)
  | _ => false
theorem isWork_no {ds : List PyData} (h : ds.length ≠ 3) : isWork (.tuple ds) = false := by
  unfold isWork
  split
  · rename_i e
    cases e
    simp at h
  · rfl
abbrev lineWords : List V := [.str "ring", .str "quiet", .str "mask", .str "unmask"]
abbrev flagWords : List V := [.str "set", .str "clear", .str "await"]
def isStepX (kvs : List (Key × V)) (ws : List V) (w : Str) (x : PyData) : Bool :=
  if inV (.str w) lineWords = true then (match x with
    | .str y => (valV kvs (.inr y)).isSome && (!decide (V.str w = V.str "quiet") || decide (valV kvs (.inr y) = some (.str "level")))
    | _ => false)
  else if decide (V.str w = V.str "later") = true then (match x with
    | .str y => inV (.str y) ws
    | _ => false)
  else if inV (.str w) flagWords = true then isIntD 0 7 x
  else (decide (V.str w = V.str "run") && isIntD 1 99 x) || (decide (V.str w = V.str "bar") && isIntD 0 9 x)
def isStep (kvs : List (Key × V)) (ws : List V) : PyData → Bool
  | .tuple [.str w, x] => isStepX kvs ws w x
  | _ => false
def strVals (kvs : List (Key × V)) : Prop := ∀ k v, valV kvs k = some v → ∃ z, v = .str z
theorem isStep_no {kvs : List (Key × V)} {ws : List V} {ds : List PyData} (h : ds.length ≠ 2) : isStep kvs ws (.tuple ds) = false := by
  unfold isStep
  split
  · rename_i e
    cases e
    simp at h
  · rfl
def nameD : PyData → Str
  | .tuple (.str n :: _) => n
  | _ => ""
theorem isLine_name {d : PyData} (h : isLine d = true) : ∃ a b c e, d = .tuple [.str a, b, c, e] := by
  unfold isLine at h
  split at h
  · rename_i a b c e
    obtain ⟨h1, _⟩ := Bool.and_eq_true_iff.mp h
    obtain ⟨h2, _⟩ := Bool.and_eq_true_iff.mp (show (isWord a && _) = true from h1)
    cases a <;> try (cases h2; done)
    exact ⟨_, b, c, e, rfl⟩
  · cases h
theorem isWork_name {d : PyData} (h : isWork d = true) : ∃ a b c, d = .tuple [.str a, b, c] := by
  unfold isWork at h
  split at h
  · rename_i a b c
    obtain ⟨h1, _⟩ := Bool.and_eq_true_iff.mp h
    obtain ⟨h2, _⟩ := Bool.and_eq_true_iff.mp (show (isWord a && _) = true from h1)
    cases a <;> try (cases h2; done)
    exact ⟨_, b, c, rfl⟩
  · cases h
theorem isLine_name2 {d : PyData} (h : isLine d = true) : ∃ n r, d = .tuple (.str n :: r) := by
  obtain ⟨a, b, c, e, rfl⟩ := isLine_name h
  exact ⟨a, _, rfl⟩
theorem isWork_name2 {d : PyData} (h : isWork d = true) : ∃ n r, d = .tuple (.str n :: r) := by
  obtain ⟨a, b, c, rfl⟩ := isWork_name h
  exact ⟨a, _, rfl⟩
theorem inV_strs {x : Str} : ∀ {l : List Str}, inV (.str x) (l.map V.str) = decide (x ∈ l)
  | [] => rfl
  | y :: l => by
    show ((y == x) || inV (.str x) (l.map V.str)) = _
    rw [inV_strs (l := l)]
    by_cases h : x = y
    · subst h
      simp
    · have : (y == x) = false := beq_eq_false_iff_ne.mpr fun z => h z.symm
      simp [this, h]
theorem flat_strs : ∀ {l : List Str}, (l.map V.str).all flatV = true
  | [] => rfl
  | _ :: l => by
    show (true && (l.map V.str).all flatV) = true
    rw [flat_strs (l := l)]
    rfl
theorem nodup_take {α : Type} {l : List α} (h : l.Nodup) {i : Nat} {x : α} (e : l[i]? = some x) : ¬ x ∈ l.take i := fun hm => by
  obtain ⟨j, hj, ej⟩ := List.mem_iff_getElem.mp hm
  have hi : j < i := by rw [List.length_take] at hj; omega
  have e2 : l[j]? = some x := by
    rw [← ej, List.getElem_take]
    exact List.getElem?_eq_getElem _
  have := nd_ix h e2 e
  omega
end Z
set_option maxHeartbeats 1000000
namespace Z
open PySem PySem.Spec PyProof.Rows L2
open He (ga ma)
def tupO : HO → Bool
  | .tup _ => true
  | .frz _ _ => true
  | _ => false
def Fr (A : List Addr) (H H' : Hp) : Prop := (∀ a o, H a = some o → (a ∉ A ∨ tupO o = true) → H' a = some o) ∧ ∀ a, H' a = none → H a = none
section
variable {A B : List Addr} {H H1 H2 : Hp} {a : Addr} {o o' : HO}
theorem Fr.refl : Fr A H H := ⟨fun _ _ h _ => h, fun _ h => h⟩
theorem Fr.trans (x : Fr A H H1) (y : Fr A H1 H2) : Fr A H H2 := ⟨fun a o h n => y.1 a o (x.1 a o h n) n, fun a h => x.2 a (y.2 a h)⟩
theorem Fr.mono (x : Fr A H H1) (s : ∀ a ∈ A, a ∈ B) : Fr B H H1 := ⟨fun a o h n => x.1 a o h (n.imp (fun z z' => z (s a z')) id), x.2⟩
theorem Fr.same (x : Fr [] H H1) : Same H H1 := fun a o h => x.1 a o h (.inl (by simp))
theorem _root_.L2.Same.fr (s : Same H H1) : Fr A H H1 := ⟨fun a o h _ => s a o h, fun a h => by
  cases e : H a with
  | none => rfl
  | some o => rw [s a o e] at h; cases h⟩
theorem Fr.tk (x : Fr A H H1) : Tk H H1 := fun a h => by
  rcases h with ⟨xs, h⟩ | ⟨o, u, h⟩
  · rw [h, x.1 a _ h (.inr rfl)]
  · rw [h, x.1 a _ h (.inr rfl)]
theorem Fr.new (h : H a = none) : Fr A H (upd H a o) := (Same.new h).fr
theorem Fr.upd (hm : a ∈ A) (h : H a = some o) (ht : tupO o = false) : Fr A H (upd H a o') := by
  refine ⟨fun c u e n => ?_, fun c e => ?_⟩
  · by_cases z : c = a
    · subst z
      rw [h] at e
      cases e
      rcases n with n | n
      · exact absurd hm n
      · rw [ht] at n
        cases n
    · rw [upd_ne z]
      exact e
  · by_cases z : c = a
    · subst z
      rw [upd_same] at e
      cases e
    · rw [upd_ne z] at e
      exact e
theorem Fr.at (x : Fr A H H1) (h : H a = some o) (n : a ∉ A) : H1 a = some o := x.1 a o h (.inl n)
theorem Fr.back (x : Fr A H H1) (h : H1 a = none) : H a = none := x.2 a h
end
def kD : Key → PyData
  | .inl i => .int i
  | .inr z => .str z
structure Ln where
  nm : Str
  kd : Str
  rk : Int
  st : List (Str × Key)
structure Wk where
  nm : Str
  rk : Int
  tk : Int
structure Pl where
  ls : List Ln
  ws : List Wk
def dSt (s : Str × Key) : PyData := .tuple [.str s.1, kD s.2]
def dLn (l : Ln) : PyData := .tuple [.str l.nm, .str l.kd, .int l.rk, .tuple (l.st.map dSt)]
def dWk (w : Wk) : PyData := .tuple [.str w.nm, .int w.rk, .int w.tk]
def Pl.kinds (P : Pl) : List (Key × V) := P.ls.map fun l => (.inr l.nm, .str l.kd)
def Pl.names (P : Pl) : List Str := P.ls.map (·.nm)
def Pl.wnames (P : Pl) : List Str := P.ws.map (·.nm)
structure Pl.Ok (P : Pl) : Prop where
  ne : P.ls ≠ []
  l12 : P.ls.length ≤ 12
  w8 : P.ws.length ≤ 8
  lok : ∀ l ∈ P.ls, isLine (dLn l) = true
  wok : ∀ w ∈ P.ws, isWork (dWk w) = true
  lnd : P.names.Nodup
  wnd : P.wnames.Nodup
  sok : ∀ l ∈ P.ls, ∀ s ∈ l.st, isStep P.kinds (P.wnames.map V.str) (dSt s) = true
  shl : ∀ l ∈ P.ls, short (dLn l) = true
  shw : ∀ w ∈ P.ws, short (dWk w) = true ∧ (PyData.str w.nm).canLay0 = true
theorem tupd_kD (k : Key) : tupd (kD k) = true := by cases k <;> rfl
theorem tupds_map {α : Type} {f : α → PyData} (h : ∀ x, tupd (f x) = true) : ∀ l : List α, tupds (l.map f) = true
  | [] => rfl
  | x :: l => by
    show (tupd (f x) && tupds (l.map f)) = true
    rw [h x, tupds_map h l]
    rfl
theorem tupd_dSt (s : Str × Key) : tupd (dSt s) = true := by
  show (true && (tupd (kD s.2) && true)) = true
  rw [tupd_kD]
  rfl
theorem tupd_dLn (l : Ln) : tupd (dLn l) = true := by
  show (true && (true && (true && (tupds (l.st.map dSt) && true)))) = true
  rw [tupds_map tupd_dSt]
  rfl
theorem tupd_dWk (w : Wk) : tupd (dWk w) = true := rfl
theorem shorts_map {α : Type} {f : α → PyData} : ∀ {l : List α}, (∀ x ∈ l, short (f x) = true) → shorts (l.map f) = true
  | [], _ => rfl
  | x :: l, h => by
    show (short (f x) && shorts (l.map f)) = true
    rw [h x (by simp), shorts_map fun y hy => h y (List.mem_cons_of_mem _ hy)]
    rfl
def Pl.ln (P : Pl) (z : Str) : Ln := (P.ls.find? fun l => l.nm == z).getD ⟨z, "", 0, []⟩
def Pl.wk (P : Pl) (z : Str) : Wk := (P.ws.find? fun w => w.nm == z).getD ⟨z, 0, 0⟩
theorem find_nd {α : Type} {f : α → Str} : ∀ {l : List α} {x : α}, (l.map f).Nodup → x ∈ l → (l.find? fun y => f y == f x) = some x
  | y :: l, x, hn, hm => by
    rw [List.map_cons, List.nodup_cons] at hn
    rcases List.mem_cons.mp hm with rfl | hm
    · simp
    · have : (f y == f x) = false := beq_eq_false_iff_ne.mpr fun e => hn.1 (by rw [e]; exact List.mem_map_of_mem hm)
      rw [List.find?_cons, this]
      exact find_nd hn.2 hm
theorem Pl.Ok.ln_eq {P : Pl} (h : P.Ok) {l : Ln} (hl : l ∈ P.ls) : P.ln l.nm = l := by
  unfold Pl.ln
  rw [find_nd (f := Ln.nm) h.lnd hl]
  rfl
theorem Pl.Ok.wk_eq {P : Pl} (h : P.Ok) {w : Wk} (hl : w ∈ P.ws) : P.wk w.nm = w := by
  unfold Pl.wk
  rw [find_nd (f := Wk.nm) h.wnd hl]
  rfl
theorem Pl.Ok.ln_mem {P : Pl} (h : P.Ok) {z : Str} (hz : z ∈ P.names) : P.ln z ∈ P.ls ∧ (P.ln z).nm = z := by
  obtain ⟨l, hl, rfl⟩ := List.mem_map.mp hz
  rw [h.ln_eq hl]
  exact ⟨hl, rfl⟩
theorem Pl.Ok.wk_mem {P : Pl} (h : P.Ok) {z : Str} (hz : z ∈ P.wnames) : P.wk z ∈ P.ws ∧ (P.wk z).nm = z := by
  obtain ⟨l, hl, rfl⟩ := List.mem_map.mp hz
  rw [h.wk_eq hl]
  exact ⟨hl, rfl⟩
structure DictOf {α : Type} (K : Fg) (H : Hp) (rd : Addr) (nm : α → Str) (d : α → PyData) (l : List α) : Prop where
  at_ : ∃ kvs, H rd = some (.dK kvs) ∧ (∀ z, (valV kvs (.inr z)).isSome = decide (z ∈ l.map nm)) ∧ ∀ x ∈ l, ∃ v, valV kvs (.inr (nm x)) = some v ∧ Dp K H v (d x)
theorem DictOf.keep {α : Type} {K : Fg} {H H' : Hp} {rd : Addr} {nm : α → Str} {d : α → PyData} {l : List α} (h : DictOf K H rd nm d l) (e : H' rd = H rd) (t : Tk H H') (hd : ∀ x, tupd (d x) = true) : DictOf K H' rd nm d l := by
  obtain ⟨kvs, h1, h2, h3⟩ := h.at_
  refine ⟨kvs, by rw [e]; exact h1, h2, fun x hx => ?_⟩
  obtain ⟨v, h4, h5⟩ := h3 x hx
  exact ⟨v, h4, h5.tk t (hd x)⟩
def planF (a b rd wd : Addr) : List (Str × V) := [("line_rows", .ref a), ("work_rows", .ref b), ("rows_by_name", .ref rd), ("works_by_name", .ref wd)]
structure PA where
  p : Addr
  rd : Addr
  wd : Addr
def PA.own (D : PA) : List Addr := [D.p, D.rd, D.wd]
structure PlanAt (K : Fg) (H : Hp) (D : PA) (P : Pl) : Prop where
  ok : P.Ok
  ins : ∃ dx a b, H D.p = some (.ins (ga K "Setup") dx (planF a b D.rd D.wd)) ∧ Dp K H (.ref a) (.tuple (P.ls.map dLn)) ∧ Dp K H (.ref b) (.tuple (P.ws.map dWk))
  rows : DictOf K H D.rd (·.nm) dLn P.ls
  works : DictOf K H D.wd (·.nm) dWk P.ws
theorem PlanAt.keep {K : Fg} {H H' : Hp} {D : PA} {P : Pl} (h : PlanAt K H D P) {A : List Addr} (f : Fr A H H') (n : ∀ a ∈ D.own, a ∉ A) : PlanAt K H' D P := by
  obtain ⟨dx, a, b, h1, h2, h3⟩ := h.ins
  have e1 := f.at h1 (n _ (by simp [PA.own]))
  have e2 : H' D.rd = H D.rd := by
    obtain ⟨kvs, h1, _⟩ := h.rows.at_
    rw [h1, f.at h1 (n _ (by simp [PA.own]))]
  have e3 : H' D.wd = H D.wd := by
    obtain ⟨kvs, h1, _⟩ := h.works.at_
    rw [h1, f.at h1 (n _ (by simp [PA.own]))]
  refine ⟨h.ok, ⟨dx, a, b, e1, h2.tk f.tk (tupds_map tupd_dLn _), h3.tk f.tk (tupds_map tupd_dWk _)⟩, h.rows.keep e2 f.tk tupd_dLn, h.works.keep e3 f.tk tupd_dWk⟩
theorem PlanAt.same {K : Fg} {H H' : Hp} {D : PA} {P : Pl} (h : PlanAt K H D P) (f : Same H H') : PlanAt K H' D P := h.keep (A := []) f.fr (by simp)
theorem valV_notin {kvs : List (Key × V)} {k : Key} (h : k ∉ kvs.map (·.1)) : valV kvs k = none := by
  unfold valV
  rw [List.find?_eq_none.mpr fun x hx => ?_]
  · rfl
  · simp only [decide_eq_true_eq]
    intro e
    exact h (by rw [← e]; exact List.mem_map_of_mem hx)
theorem zip_fst {α β : Type} : ∀ {l : List α} {m : List β}, l.length = m.length → (l.zip m).map (·.1) = l
  | [], [], _ => rfl
  | _ :: l, _ :: m, h => by
    simp only [List.zip_cons_cons, List.map_cons]
    rw [zip_fst (by simpa using h)]
theorem dc_dat {K : Fg} {a : Addr} {xs : List V} {g : TG} {tt : TT} {tk tv : TE} {vs : List Nat} {σ : L2.St} {H1 : Hp} {D : Addr} {Qd : Hp → Prop} (ks : List Key) (vv : List V) (h1 : ks.length = xs.length) (h2 : ks.length = vv.length) (hnd : ks.Nodup) (hD : H1 D = none) (hT : SqT K H1 a xs) (hn : xs.length ≤ 40000)
    (hs : ∀ (i : Nat) (x : V) (k : Key) (v : V) (H : Hp) (Z : V → V → Hp → Prop) (N : Hp → Prop), xs[i]? = some x → ks[i]? = some k → vv[i]? = some v → Same H1 H → (∀ H5, Same H H5 → Z (kV k) v H5) →
      g x (wipe σ vs) H fun σ2 H2 => wipe σ2 vs = wipe σ vs ∧ tt σ2 H2 fun b H3 => if b = true then tk σ2 H3 fun y H4 => tv σ2 H4 fun z H5 => Z y z H5 else N H3)
    (hd : ∀ H', Same H1 H' → H' D = some (.dK (ks.zip vv)) → Qd H') :
    ∃ W : Nat → Nat → Hp → Prop, (∃ m, W 0 m (upd H1 D (.dK []))) ∧ ∀ i m H, W i m H →
      ((Itt K a).stop i H ∧ Qd H) ∨ ((Itt K a).go i H ∧ ∃ Nx : Hp → Prop, (∀ H', Nx H' → ∃ m', m' < m ∧ W (i + 1) m' H') ∧ ∀ x H', (Itt K a).yld i H x H' → g x (wipe σ vs) H' fun σ2 H2 => wipe σ2 vs = wipe σ vs ∧ tt σ2 H2 fun b H3 =>
        if b = true then tk σ2 H3 fun y H4 => tv σ2 H4 fun z H5 => ∃ kvs k, y = kV k ∧ H5 D = some (.dK kvs) ∧ kvs.length < sizeLine ∧ Nx (upd H5 D (.dK (putK kvs k z))) else Nx H3) := by
  have hz : (ks.zip vv).length = xs.length := by rw [List.length_zip]; omega
  refine dc_tup (fun i H => Same H1 H ∧ H D = some (.dK ((ks.zip vv).take i))) ⟨Same.new hD, upd_same⟩ (fun i H _ p => p.1.sqT hT) (fun i x H hx p => ?_) (fun H p => ?_)
  · obtain ⟨s1, e1⟩ := p
    have hi : i < xs.length := (List.getElem?_eq_some_iff.mp hx).1
    have hk : ks[i]? = some ks[i] := List.getElem?_eq_getElem (by omega)
    have hv : vv[i]? = some vv[i] := List.getElem?_eq_getElem (by omega)
    refine hs i x _ _ H (fun y z H5 => ∃ kvs k, y = kV k ∧ H5 D = some (.dK kvs) ∧ kvs.length < sizeLine ∧ (Same H1 (upd H5 D (.dK (putK kvs k z))) ∧ upd H5 D (.dK (putK kvs k z)) D = some (.dK ((ks.zip vv).take (i + 1))))) _ hx hk hv s1 fun H5 s5 => ?_
    refine ⟨_, _, rfl, s5 _ _ e1, ?_, fun c o h => ?_, ?_⟩
    · rw [List.length_take, sizeLine_eq]
      omega
    · rw [upd_ne (ne_of_none h hD)]
      exact s5 _ _ (s1 _ _ h)
    · have hzi : (ks.zip vv)[i]? = some (ks[i], vv[i]) := by
        rw [List.getElem?_eq_getElem (by omega), List.getElem_zip]
      have hno : valV ((ks.zip vv).take i) ks[i] = none := by
        refine valV_notin ?_
        rw [List.map_take, zip_fst h2]
        exact fun hm => by
          obtain ⟨j, hj, ej⟩ := List.mem_iff_getElem.mp hm
          have hji : j < i := by rw [List.length_take] at hj; omega
          have e2 : ks[j]? = some ks[i] := by
            rw [← ej, List.getElem_take]
            exact List.getElem?_eq_getElem _
          have := nd_ix hnd e2 hk
          omega
      rw [upd_same, putK_new _ hno, List.take_add_one, hzi]
      rfl
  · obtain ⟨s1, e1⟩ := p
    rw [← hz, List.take_length] at e1
    exact hd H s1 e1
theorem valV_zip {ks : List Key} {vv : List V} (hnd : ks.Nodup) {i : Nat} {k : Key} {v : V} (hk : ks[i]? = some k) (hv : vv[i]? = some v) : valV (ks.zip vv) k = some v := by
  induction ks generalizing vv i with
  | nil => simp at hk
  | cons a l ih =>
    cases vv with
    | nil => simp at hv
    | cons b m =>
      rw [List.nodup_cons] at hnd
      cases i with
      | zero =>
        simp at hk hv
        subst hk hv
        exact valV_pos rfl
      | succ i =>
        have hk2 : l[i]? = some k := by simpa using hk
        have hne : ¬ a = k := fun e => hnd.1 (by rw [e]; exact List.mem_of_getElem? hk2)
        rw [List.zip_cons_cons, valV_neg hne]
        exact ih hnd.2 hk2 (by simpa using hv)
theorem dictOf_zip {α : Type} {K : Fg} {H : Hp} {rd : Addr} {nm : α → Str} {d : α → PyData} {l : List α} {vv : List V} (h : H rd = some (.dK ((l.map fun x => (Sum.inr (nm x) : Key)).zip vv))) (hnd : (l.map nm).Nodup) (ha : DpAll K H vv (l.map d)) : DictOf K H rd nm d l := by
  have hl : vv.length = l.length := by rw [ha.len, List.length_map]
  have hk : (l.map fun x => (Sum.inr (nm x) : Key)) = (l.map nm).map Sum.inr := by rw [List.map_map]; rfl
  have hn2 : (l.map fun x => (Sum.inr (nm x) : Key)).Nodup := by
    rw [hk]
    exact List.Pairwise.map Sum.inr (fun a b h e => h (Sum.inr.inj e)) hnd
  refine ⟨_, h, fun z => ?_, fun x hx => ?_⟩
  · by_cases hz : z ∈ l.map nm
    · obtain ⟨i, hi⟩ := List.mem_iff_getElem?.mp hz
      have hil : i < l.length := by have := (List.getElem?_eq_some_iff.mp hi).1; rwa [List.length_map] at this
      have h1 : (l.map fun x => (Sum.inr (nm x) : Key))[i]? = some (.inr z) := by rw [hk, List.getElem?_map, hi]; rfl
      have h2 : vv[i]? = some vv[i] := List.getElem?_eq_getElem (by omega)
      rw [valV_zip hn2 h1 h2, decide_eq_true hz]
      rfl
    · rw [valV_notin, decide_eq_false hz]
      · rfl
      · rw [zip_fst (by rw [List.length_map, hl]), hk]
        intro hm
        obtain ⟨y, hy, e⟩ := List.mem_map.mp hm
        cases e
        exact hz hy
  · obtain ⟨i, hi⟩ := List.mem_iff_getElem?.mp hx
    have h1 : (l.map fun x => (Sum.inr (nm x) : Key))[i]? = some (.inr (nm x)) := by rw [List.getElem?_map, hi]; rfl
    have h3 : (l.map d)[i]? = some (d x) := by rw [List.getElem?_map, hi]; rfl
    obtain ⟨v, hv, hd⟩ := ha.get h3
    exact ⟨v, valV_zip hn2 h1 hv, hd⟩
end Z
set_option maxHeartbeats 1000000
namespace Z
open PySem PySem.Spec PyProof.Rows L2
open LamX (lamCx lamEnv inv_table run_ofS CodeO codeO_ne TabB TabS among_app)
theorem ixU {α : Type} : ∀ {l : List α} {i j : Nat} {x : α}, l.Nodup → l[i]? = some x → l[j]? = some x → i = j
  | [], _, _, _, _, h, _ => by simp at h
  | _ :: _, 0, 0, _, _, _, _ => rfl
  | y :: l, 0, j + 1, x, n, h1, h2 => by
    have e : y = x := by simpa using h1
    have m : x ∈ l := List.mem_of_getElem? (by simpa using h2)
    exact absurd (e ▸ m) (List.nodup_cons.mp n).1
  | y :: l, i + 1, 0, x, n, h1, h2 => by
    have e : y = x := by simpa using h2
    have m : x ∈ l := List.mem_of_getElem? (by simpa using h1)
    exact absurd (e ▸ m) (List.nodup_cons.mp n).1
  | _ :: l, i + 1, j + 1, x, n, h1, h2 => congrArg Nat.succ (ixU (l := l) (x := x) (List.nodup_cons.mp n).2 (by simpa using h1) (by simpa using h2))
section
variable {X : Cx} {pins : List (Addr × Obj)} {σ : L2.St} {H : Hp} {s : Shared}
theorem lamMake {c P : Addr} {params : Arguments} {body : Expr} {scope : Scope} {pos : Pos} {E Q : Value → Shared → Prop} (I : Inv X pins σ H s) (TB : TabB X.base X.mg c P) (hcode : X.env.code = .ref c) (hT : TabS H P (X.env.qual ++ "<lambda>")) (hdef : defaultsOf params X.env = ([], []))
    (hfree : ∀ y ∈ scope.names, y.2 = .free → ∃ c, X.env.cells.lookup y.1 = some c)
    (h : ∀ (f c' : Addr) (pm ctv : Value) (H1 : Hp) (s' : Shared), Inv X pins σ H1 s' → Fr [P] H H1 → TabS H1 P (X.env.qual ++ "<lambda>") → s'.heap.get? f = some (PySem.W.kla_obj "<lambda>" (X.env.qual ++ "<lambda>") params body scope (cloFrom X.env.cells scope.names []) pm c' ctv) → H1 f = none → f ∉ frs X.stack →
      H1 c' = some (CodeO c' (X.env.qual ++ "<lambda>")) → Q (.ref f) s') : wpAny (model X.prog X.w) X.A (eval (.Lambda params body scope pos) X.env) Q E s := by
  obtain ⟨ps, hP, ht, ha⟩ := hT
  refine PySem.W.kla_eval hdef ?_
  have pB : s.heap.BuiltinsAt X.mg P := TB.bm.keeps I.bk
  have pO : s.heap.get? P = some { cls := .none, data := .fields ps } := I.hok P _ hP
  have away : ∀ f, s.heap.objs.size ≤ f → f ∉ frs X.stack := fun f hf z => (List.mem_cons.mp (I.stkSub _ z)).elim (fun e => absurd (Nat.lt_of_lt_of_le (e ▸ I.lt) hf) (Nat.lt_irrefl _)) (I.nofs hf)
  cases hc : codeAmong pos ps.toList with
  | some cv =>
    obtain ⟨c', rfl, hco⟩ := ha pos cv hc
    refine PySem.W.kla_makeFunctionHit (mg := X.mg) (c := c) (P := P) (ps := ps) (closure_ok hfree) I.ok.glob (I.mod.glob.keeps I.bk) hcode (TB.code.keeps I.bk) pO ht hc pB fun ctv h' tk hx hz => ?_
    exact h h'.objs.size c' ((X.mg "__name__").getD .none) ctv H _ (I.kept fun b o e => Heap.get?_push_of_some _ (hx b o e)) Fr.refl ⟨ps, hP, ht, ha⟩ (Heap.get?_push_size _ rfl) (I.hok.fresh hz) (away _ hz) hco
  | none =>
    refine PySem.W.kla_makeFunction (mg := X.mg) (c := c) (P := P) (ps := ps) (closure_ok hfree) I.ok.glob (I.mod.glob.keeps I.bk) hcode (TB.code.keeps I.bk) pO ht hc TB.gP pB fun c' ctv h' tk hx hge hlt hrec htb => ?_
    obtain ⟨_, oc, vs, t, e2, ho, hd, hv⟩ := hrec
    cases e2
    have hz : s.heap.objs.size ≤ h'.objs.size := Nat.le_trans hge (Nat.le_of_lt hlt)
    have nc : H c' = none := I.hok.fresh hge
    have I1 := inv_table (t' := tk) (more := #[rawInt pos.line, rawInt pos.col, .ref c']) (h' := h'.push (PySem.W.kla_obj "<lambda>" (X.env.qual ++ "<lambda>") params body scope (cloFrom X.env.cells scope.names []) ((X.mg "__name__").getD .none) c' ctv)) I hP
      (fun b o hb e => Heap.get?_push_of_some _ (hx b o hb e)) (Heap.get?_push_of_some _ htb) hge ⟨oc, vs, t, Heap.get?_push_of_some _ ho, hd, hv⟩
    have nPc : P ≠ c' := ne_of_none hP nc
    have f1 : Fr [P] H (upd H P (.tbl (ps ++ #[rawInt pos.line, rawInt pos.col, .ref c']))) := Fr.upd (by simp) hP rfl
    have nc1 : (upd H P (.tbl (ps ++ #[rawInt pos.line, rawInt pos.col, .ref c']))) c' = none := by rw [upd_ne (Ne.symm nPc)]; exact nc
    have f2 := f1.trans (Fr.new (o := CodeO c' (X.env.qual ++ "<lambda>")) nc1)
    refine h h'.objs.size c' ((X.mg "__name__").getD .none) ctv _ _ I1 f2 ⟨ps ++ #[rawInt pos.line, rawInt pos.col, .ref c'], by rw [upd_ne nPc, upd_same], ?_, fun p' cv k => ?_⟩ (Heap.get?_push_size _ rfl) ?_ (away _ hz) upd_same
    · rw [Array.toList_append]
      exact PySem.TriplesOk_snoc _ _ _ _ ht
    · rw [Array.toList_append] at k
      rcases among_app _ ht k with k | k
      · obtain ⟨c0, e1, e2⟩ := ha p' cv k
        refine ⟨c0, e1, ?_⟩
        have n1 : c0 ≠ P := fun e => by
          rw [e, hP] at e2
          exact codeO_ne ps (Option.some.inj e2).symm
        rw [upd_ne (ne_of_none e2 nc), upd_ne n1]
        exact e2
      · exact ⟨c', k, upd_same⟩
    · rw [upd_ne (Nat.ne_of_gt hlt), upd_ne (Nat.ne_of_gt (Nat.lt_of_lt_of_le (Heap.lt_size pO) hz))]
      exact I.hok.fresh hz
end
section
variable {X : Cx} {pins : List (Addr × Obj)} {σ : L2.St} {H HZ : Hp} {s s1 : Shared}
abbrev inCx (X : Cx) (Ng : List Str) (qg : Str) (sg : Scope) (g : Addr) (cdg : Value) (s : Shared) (H : Hp) (E : XK) : Cx := cxOf (L2.CX X.prog X.w) X.prog X.w X.K X.mg X.base Ng qg sg g cdg X.A X.stack s H E
end
section
variable {X : Cx}
def codA (K : Fg) (f : Addr) : Addr := match (fdOf K f).code with
  | .ref c => c
  | _ => 0
def tabA (K : Fg) (f : Addr) : Addr := He.tabOf K (codA K f)
theorem okC {P : Program} {w : World} {K : Fg} {mg : Str → Option Value} {base : Heap} {x qual : Str} {params : Arguments} {body : List Stmt} {scope : Scope} {dvs : List V} {kws : List (Str × V)} {f : Addr} {CX : CXT} {N ps : List Str} {k : Nat} {sp : Sp} (F : FunD K x qual params body scope dvs kws f (fdOf K f)) (S : FnScope N ps scope)
    (len : ∀ vs H Q E, sp vs H Q E → vs.length = ps.length)
    (hbody : ∀ (A : Around) (outer : List Env) (s : Shared) (H : Hp) (vs : List V) (Q : VK) (E : XK), Room k (A.deeper (envOfC qual scope s.heap.objs.size f (.ref (codA K f)))) → sp vs H Q E →
      ∃ t, PSs (cxOf CX P w K mg base N qual scope f (.ref (codA K f)) A outer s H E) body t ∧ t { nx := fun _ H' => Q .non H', rt := Q } (L2.start N vs) H) : FnOk P w K mg base CX (k + 1) f (fdOf K f) ps sp := by
  obtain ⟨oc, od, dV, kV, doc, pm, an, cdv, ct, osl, e, lk, hcd, _, _⟩ := F.ex
  obtain ⟨c, rfl⟩ := He.codeIn_ref hcd
  have ec : codA K f = c := by
    unfold codA
    rw [e]
  rw [ec] at hbody
  rw [e] at lk ⊢
  exact fn_of lk hcd S len fun A outer s H vs Q E hr hsp => hbody A outer s H vs Q E hr hsp
end
end Z
set_option maxHeartbeats 1000000
namespace Z
open PySem PySem.Spec PyProof.Rows L2
open He (ga ma)
section
variable {K : Fg} {σ : L2.St} {H H1 : Hp} {Q : VK} {g : TG} {tt : TT} {te tk tv tl : TE} {vs : List Nat} {x : V} {a : Addr} {xs : List V} {α : Type} {l : List α} {da : α → PyData}
def LcQ (J : It) (g : TG) (tt : TT) (te : TE) (vs : List Nat) (σ : L2.St) (Q : VK) (H1 : Hp) : Prop := ∀ D, H1 D = none → ∃ W : Nat → Nat → Hp → Prop, (∃ m, W 0 m (upd H1 D (.lst []))) ∧ ∀ i m H, W i m H →
  (J.stop i H ∧ Q (.ref D) H) ∨ (J.go i H ∧ ∃ Nx : Hp → Prop, (∀ H', Nx H' → ∃ m', m' < m ∧ W (i + 1) m' H') ∧ ∀ x H', J.yld i H x H' → g x (wipe σ vs) H' fun σ2 H2 => wipe σ2 vs = wipe σ vs ∧ tt σ2 H2 fun b H3 =>
    if b = true then te σ2 H3 fun y H4 => ∃ acc, H4 D = some (.lst acc) ∧ acc.length < sizeLine ∧ Nx (upd H4 D (.lst (acc ++ [y]))) else Nx H3)
def LcT (K : Fg) (g : TG) (tt : TT) (te : TE) (vs : List Nat) (σ : L2.St) (Q : VK) (x : V) (H1 : Hp) : Prop := ∃ a, x = .ref a ∧ (∃ xs, SqT K H1 a xs) ∧ LcQ (Itt K a) g tt te vs σ Q H1
def LcL (K : Fg) (g : TG) (tt : TT) (te : TE) (vs : List Nat) (σ : L2.St) (Q : VK) (x : V) (H1 : Hp) : Prop := ∃ a, x = .ref a ∧ (∃ xs, SqL K H1 a xs) ∧ LcQ (Itl K a) g tt te vs σ Q H1
theorem s_lcT (q : tl σ H fun x H1 => LcT K g tt te vs σ Q x H1) : tLc (iTup K tl) g tt te vs σ H Q := q
theorem s_lcL (q : tl σ H fun x H1 => LcL K g tt te vs σ Q x H1) : tLc (iList K tl) g tt te vs σ H Q := q
theorem lcT_d (hT : SqT K H1 a xs) (hA : DpAll K H1 xs (l.map da)) (p : α → Bool) (f : α → PyData) (hn : l.length ≤ 40000) (hf : ∀ x ∈ l, tupd (f x) = true)
    (hs : ∀ (x : α) (v : V) (H : Hp) (Yes : VK) (No : Hp → Prop), x ∈ l → Same H1 H → Dp K H v (da x) → (p x = true → ∀ y H4, Same H H4 → Dp K H4 y (f x) → Yes y H4) → (p x = false → ∀ H3, Same H H3 → No H3) →
      g v (wipe σ vs) H fun σ2 H2 => wipe σ2 vs = wipe σ vs ∧ tt σ2 H2 fun b H3 => if b = true then te σ2 H3 Yes else No H3)
    (hd : ∀ D H' ys, H1 D = none → Same H1 H' → H' D = some (.lst ys) → DpAll K H' ys ((l.filter p).map f) → Q (.ref D) H') : LcT K g tt te vs σ Q (.ref a) H1 := by
  have hlen : xs.length = l.length := by rw [hA.len, List.length_map]
  refine ⟨a, rfl, ⟨xs, hT⟩, fun D hD => ?_⟩
  refine lc_dat (K := K) walk_tup (pAt l p) (dAt l f) hD (by rw [hlen]; exact hn) (dAt_tupd hf) (fun H s => s.sqT hT) (fun i H x H' y => by rw [y.1]; exact Same.refl H) (fun i x H H' Yes No hi s1 y yes no => ?_) (fun H' ys s1 e1 a1 => ?_)
  · obtain ⟨rfl, hx⟩ := y
    obtain ⟨d, hd', dd⟩ := hA.getv hx
    rw [List.getElem?_map] at hd'
    obtain ⟨z, hz, rfl⟩ := Option.map_eq_some_iff.mp hd'
    rw [pAt_eq hz, dAt_eq hz] at yes
    rw [pAt_eq hz] at no
    exact hs z x H' Yes No (List.mem_of_getElem? hz) s1 (dd.same s1) yes no
  · rw [hlen, keptD_list] at a1
    exact hd D H' ys hD s1 e1 a1
theorem lcL_d (hT : SqL K H1 a xs) (hA : DpAll K H1 xs (l.map da)) (p : α → Bool) (f : α → PyData) (hn : l.length ≤ 40000) (hf : ∀ x ∈ l, tupd (f x) = true)
    (hs : ∀ (x : α) (v : V) (H : Hp) (Yes : VK) (No : Hp → Prop), x ∈ l → Same H1 H → Dp K H v (da x) → (p x = true → ∀ y H4, Same H H4 → Dp K H4 y (f x) → Yes y H4) → (p x = false → ∀ H3, Same H H3 → No H3) →
      g v (wipe σ vs) H fun σ2 H2 => wipe σ2 vs = wipe σ vs ∧ tt σ2 H2 fun b H3 => if b = true then te σ2 H3 Yes else No H3)
    (hd : ∀ D H' ys, H1 D = none → Same H1 H' → H' D = some (.lst ys) → DpAll K H' ys ((l.filter p).map f) → Q (.ref D) H') : LcL K g tt te vs σ Q (.ref a) H1 := by
  have hlen : xs.length = l.length := by rw [hA.len, List.length_map]
  refine ⟨a, rfl, ⟨xs, hT⟩, fun D hD => ?_⟩
  refine lc_dat (K := K) walk_list (pAt l p) (dAt l f) hD (by rw [hlen]; exact hn) (dAt_tupd hf) (fun H s => s.seq hT) (fun i H x H' y => by rw [y.1]; exact Same.refl H) (fun i x H H' Yes No hi s1 y yes no => ?_) (fun H' ys s1 e1 a1 => ?_)
  · obtain ⟨rfl, hx⟩ := y
    obtain ⟨d, hd', dd⟩ := hA.getv hx
    rw [List.getElem?_map] at hd'
    obtain ⟨z, hz, rfl⟩ := Option.map_eq_some_iff.mp hd'
    rw [pAt_eq hz, dAt_eq hz] at yes
    rw [pAt_eq hz] at no
    exact hs z x H' Yes No (List.mem_of_getElem? hz) s1 (dd.same s1) yes no
  · rw [hlen, keptD_list] at a1
    exact hd D H' ys hD s1 e1 a1
def DcT (K : Fg) (g : TG) (tt : TT) (tk tv : TE) (vs : List Nat) (σ : L2.St) (Q : VK) (x : V) (H1 : Hp) : Prop := ∃ a, x = .ref a ∧ (∃ xs, SqT K H1 a xs) ∧ ∀ D, H1 D = none → ∃ W : Nat → Nat → Hp → Prop, (∃ m, W 0 m (upd H1 D (.dK []))) ∧ ∀ i m H, W i m H →
  ((Itt K a).stop i H ∧ Q (.ref D) H) ∨ ((Itt K a).go i H ∧ ∃ Nx : Hp → Prop, (∀ H', Nx H' → ∃ m', m' < m ∧ W (i + 1) m' H') ∧ ∀ x H', (Itt K a).yld i H x H' → g x (wipe σ vs) H' fun σ2 H2 => wipe σ2 vs = wipe σ vs ∧ tt σ2 H2 fun b H3 =>
    if b = true then tk σ2 H3 fun y H4 => tv σ2 H4 fun z H5 => ∃ kvs k, y = kV k ∧ H5 D = some (.dK kvs) ∧ kvs.length < sizeLine ∧ Nx (upd H5 D (.dK (putK kvs k z))) else Nx H3)
theorem s_dcT (q : tl σ H fun x H1 => DcT K g tt tk tv vs σ Q x H1) : tDc (iTup K tl) g tt tk tv vs σ H Q := q
theorem dcT_d (hT : SqT K H1 a xs) (hA : DpAll K H1 xs (l.map da)) (kf : α → Key) (vv : List V) (h2 : l.length = vv.length) (hnd : (l.map kf).Nodup) (hn : l.length ≤ 40000)
    (hs : ∀ (i : Nat) (x : α) (y v : V) (H : Hp) (Z : V → V → Hp → Prop) (N : Hp → Prop), x ∈ l → l[i]? = some x → xs[i]? = some y → vv[i]? = some v → Same H1 H → Dp K H y (da x) → (∀ H5, Same H H5 → Z (kV (kf x)) v H5) →
      g y (wipe σ vs) H fun σ2 H2 => wipe σ2 vs = wipe σ vs ∧ tt σ2 H2 fun b H3 => if b = true then tk σ2 H3 fun y H4 => tv σ2 H4 fun z H5 => Z y z H5 else N H3)
    (hd : ∀ D H', H1 D = none → Same H1 H' → H' D = some (.dK ((l.map kf).zip vv)) → Q (.ref D) H') : DcT K g tt tk tv vs σ Q (.ref a) H1 := by
  have hlen : xs.length = l.length := by rw [hA.len, List.length_map]
  refine ⟨a, rfl, ⟨xs, hT⟩, fun D hD => ?_⟩
  refine dc_dat (l.map kf) vv (by rw [List.length_map, hlen]) (by rw [List.length_map, h2]) hnd hD hT (by rw [hlen]; exact hn) (fun i x k v H Z N hx hk hv s1 z => ?_) (fun H' s1 e1 => hd D H' hD s1 e1)
  obtain ⟨d, hd', dd⟩ := hA.getv hx
  rw [List.getElem?_map] at hd' hk
  obtain ⟨w, hw, rfl⟩ := Option.map_eq_some_iff.mp hd'
  rw [hw] at hk
  cases hk
  exact hs i w x v H Z N (List.mem_of_getElem? hw) hw hx hv s1 (dd.same s1) z
theorem s_cval {C : Addr} {f : Str} {n : Int} {R : V → Prop} (h : ClsI K C f n) (q : R (.int n)) : ∃ C' mc v u, V.ref C = .ref C' ∧ ClX.CRead K C' mc ∧ ClX.CVal K C' mc f v u ∧ R v := by
  obtain ⟨mc, u, h1, h2⟩ := h
  exact ⟨C, mc, _, u, rfl, h1, h2, q⟩
theorem s_cvalg {ta : TE} {f : Str} (q : ta σ H fun x H1 => ∃ C mc v u, x = .ref C ∧ ClX.CRead K C mc ∧ ClX.CVal K C mc f v u ∧ Q v H1) : ClX.tCVal K ta f σ H Q := q
theorem s_eq0T {b : Addr} {neg : Bool} {xs : List V} (h1 : SqT K H a xs) (h2 : SqT K H b []) (q : Q (.bl (if neg then !xs.isEmpty else xs.isEmpty)) H) : rEq0 K neg (.ref a) (.ref b) H Q := ⟨a, b, xs, rfl, rfl, .inr ⟨h1, h2⟩, q⟩
theorem s_eq0L {b : Addr} {neg : Bool} {xs : List V} (h1 : SqL K H a xs) (h2 : SqL K H b []) (q : Q (.bl (if neg then !xs.isEmpty else xs.isEmpty)) H) : rEq0 K neg (.ref a) (.ref b) H Q := ⟨a, b, xs, rfl, rfl, .inl ⟨h1, h2⟩, q⟩
theorem s_ixO {C : Addr} {sp : Sp} {E : XK} {ta tb : TE} (q : ta σ H fun x H1 => tb σ H1 fun y H2 => ∃ a dx fs, x = .ref a ∧ H2 a = some (.ins C dx fs) ∧ sp [.ref a, y] H2 Q E) : tIxO C sp E ta tb σ H Q := q
variable {ea ec ed : L2.St → Hp → Prop} {eb : VK}
theorem s_fldS {ta tv : TE} {f : Str} (q : tv σ H fun y H1 => ta σ H1 fun x H2 => ∃ a C dx fs, x = .ref a ∧ H2 a = some (.ins C dx fs) ∧ Cls K C ∧ NoAttr K C f ∧ fs.length < 1000 ∧ ea σ (upd H2 a (.ins C dx (putF f y fs)))) : sFld K ta tv f (.mk ea eb ec ed) σ H := q
theorem s_fldput {C dx : Addr} {fs : List (Str × V)} {f : Str} {y : V} {R : Hp → Prop} (h : H a = some (.ins C dx fs)) (c : Cls K C) (n : NoAttr K C f) (hl : fs.length < 1000) (q : R (upd H a (.ins C dx (putF f y fs)))) :
    ∃ b C dx fs, V.ref a = .ref b ∧ H b = some (.ins C dx fs) ∧ Cls K C ∧ NoAttr K C f ∧ fs.length < 1000 ∧ R (upd H b (.ins C dx (putF f y fs))) := ⟨a, C, dx, fs, rfl, h, c, n, hl, q⟩
end
end Z
set_option maxHeartbeats 1000000
namespace Z
open PySem PySem.Spec PyProof.Rows L2
open He (ga ma)
def kI : Key → Int
  | .inl i => i
  | .inr _ => 0
def ordD (l : Ln) : PyData := .tuple [.int (0 - l.rk), .str l.nm]
def Pl.order (P : Pl) : List Str := (P.ls.mergeSort (PySem.W.dataLe false ordD)).map (·.nm)
def ticksOf (l : Ln) : Int := ((l.st.filter fun s => decide (s.1 = ("run" : Str))).map fun s => kI s.2).sum
theorem inV_str {w : Str} {l : List Str} (h : inV (.str w) (l.map V.str) = true) : w ∈ l := by
  rw [inV_strs] at h
  exact of_decide_eq_true h
theorem kinds_val {P : Pl} {z : Str} {v : V} (h : valV P.kinds (.inr z) = some v) : ∃ l ∈ P.ls, l.nm = z ∧ v = .str l.kd := by
  unfold valV at h
  obtain ⟨kv, h1, h2⟩ := Option.map_eq_some_iff.mp h
  obtain ⟨l, hl, rfl⟩ := List.mem_map.mp (List.mem_of_find?_eq_some h1)
  have h3 := List.find?_some h1
  exact ⟨l, hl, Sum.inr.inj (of_decide_eq_true h3), h2.symm⟩
theorem Pl.Ok.steps8 {P : Pl} (ok : P.Ok) {l : Ln} (hl : l ∈ P.ls) : l.st.length ≤ 8 := by
  have hk := ok.lok l hl
  simp only [isLine, dLn, isSteps, Bool.and_eq_true, decide_eq_true_eq, List.length_map] at hk
  omega
inductive StepIs (P : Pl) : Str × Key → Prop
  | run (i : Int) : 1 ≤ i → i ≤ 99 → StepIs P ("run", .inl i)
  | bar (i : Int) : 0 ≤ i → i ≤ 9 → StepIs P ("bar", .inl i)
  | later (z : Str) : z ∈ P.wnames → StepIs P ("later", .inr z)
  | flag (w : Str) (i : Int) : w ∈ (["set", "clear", "await"] : List Str) → 0 ≤ i → i ≤ 7 → StepIs P (w, .inl i)
  | line (w z : Str) : w ∈ (["ring", "quiet", "mask", "unmask"] : List Str) → z ∈ P.names → (w = "quiet" → (P.ln z).kd = "level") → StepIs P (w, .inr z)
theorem isInt_k {lo hi : Int} {k : Key} (h : isIntD lo hi (kD k) = true) : ∃ i, k = .inl i ∧ lo ≤ i ∧ i ≤ hi := by
  cases k with
  | inl i => exact ⟨i, rfl, of_decide_eq_true (show decide (lo ≤ i ∧ i ≤ hi) = true from h)⟩
  | inr z => cases h
theorem Pl.Ok.step {P : Pl} (ok : P.Ok) {l : Ln} (hl : l ∈ P.ls) {s : Str × Key} (hs : s ∈ l.st) : StepIs P s := by
  obtain ⟨w, k⟩ := s
  have h := ok.sok l hl _ hs
  have h' : isStepX P.kinds (P.wnames.map V.str) w (kD k) = true := h
  unfold isStepX at h'
  split at h'
  · rename_i hw
    have hw' : w ∈ (["ring", "quiet", "mask", "unmask"] : List Str) := inV_str (show inV (.str w) ((["ring", "quiet", "mask", "unmask"] : List Str).map V.str) = true from hw)
    cases k with
    | inl i => cases h'
    | inr z =>
      have h2 : ((valV P.kinds (.inr z)).isSome && (!decide (V.str w = V.str "quiet") || decide (valV P.kinds (.inr z) = some (.str "level")))) = true := h'
      obtain ⟨h3, h4⟩ := Bool.and_eq_true_iff.mp h2
      obtain ⟨v, hv⟩ := Option.isSome_iff_exists.mp h3
      obtain ⟨m, hm, rfl, rfl⟩ := kinds_val hv
      refine .line w _ hw' (List.mem_map_of_mem hm) fun e => ?_
      rw [ok.ln_eq hm]
      subst e
      rw [hv] at h4
      simpa using h4
  · split at h'
    · rename_i hw
      have hw' : w = "later" := by simpa using hw
      subst hw'
      cases k with
      | inl i => cases h'
      | inr z => exact .later z (inV_str h')
    · split at h'
      · rename_i hw
        have hw' : w ∈ (["set", "clear", "await"] : List Str) := inV_str (show inV (.str w) ((["set", "clear", "await"] : List Str).map V.str) = true from hw)
        obtain ⟨i, rfl, h1, h2⟩ := isInt_k h'
        exact .flag w i hw' h1 h2
      · rcases Bool.or_eq_true_iff.mp h' with h' | h'
        · obtain ⟨h1, h2⟩ := Bool.and_eq_true_iff.mp h'
          obtain ⟨i, rfl, h3, h4⟩ := isInt_k h2
          have hw' : w = "run" := by simpa using h1
          subst hw'
          exact .run i h3 h4
        · obtain ⟨h1, h2⟩ := Bool.and_eq_true_iff.mp h'
          obtain ⟨i, rfl, h3, h4⟩ := isInt_k h2
          have hw' : w = "bar" := by simpa using h1
          subst hw'
          exact .bar i h3 h4
theorem StepIs.run_int {P : Pl} {s : Str × Key} (h : StepIs P s) (e : s.1 = "run") : ∃ i, s.2 = .inl i ∧ 1 ≤ i ∧ i ≤ 99 := by
  cases h with
  | run i h1 h2 => exact ⟨i, rfl, h1, h2⟩
  | bar i _ _ => exact absurd (show ("bar" : Str) = "run" from e) (by decide)
  | later z _ => exact absurd (show ("later" : Str) = "run" from e) (by decide)
  | flag w i hw _ _ => simp only at e; subst e; exact absurd hw (by decide)
  | line w z hw _ _ => simp only at e; subst e; exact absurd hw (by decide)
theorem plF_lr {a b rd wd : Addr} : (planF a b rd wd).lookup ("line_rows" : Str) = some (.ref a) := by kernel_rfl
theorem plF_wr {a b rd wd : Addr} : (planF a b rd wd).lookup ("work_rows" : Str) = some (.ref b) := by kernel_rfl
theorem plF_rn {a b rd wd : Addr} : (planF a b rd wd).lookup ("rows_by_name" : Str) = some (.ref rd) := by kernel_rfl
theorem plF_wn {a b rd wd : Addr} : (planF a b rd wd).lookup ("works_by_name" : Str) = some (.ref wd) := by kernel_rfl
end Z
set_option maxHeartbeats 1000000
namespace Z
open PySem PySem.Spec PyProof.Rows L2
open He (ga ma)
structure Bd where
  shut : List Str
  wanted : List Str
  high : List Str
  taken : List Str
  raised : List Int
  joined : List (Str × Int)
def putL {α : Type} [DecidableEq α] (l : List α) (x : α) (b : Bool) : List α × Bool := if decide (x ∈ l) = b then (l, false) else (if b = true then l ++ [x] else l.erase x, true)
def bump (l : List (Str × Int)) (z : Str) : List (Str × Int) := l.map fun x => if x.1 = z then (x.1, x.2 + 1) else x
def Bd.ring (P : Pl) (B : Bd) (z : Str) : Bd × Bool :=
  if (P.ln z).kd = "edge" then (if z ∈ B.wanted then ({ B with joined := bump B.joined z }, false) else ({ B with wanted := B.wanted ++ [z] }, true))
  else (if z ∈ B.high then ({ B with joined := bump B.joined z }, false) else ({ B with high := B.high ++ [z] }, true))
def Bd.ended (B : Bd) (z : Str) : Bd := { B with taken := B.taken.erase z }
def kS : Key → Str
  | .inl _ => ""
  | .inr z => z
def Bd.carry (P : Pl) (B : Bd) (s : Str × Key) : Bd × Bool :=
  if s.1 = "ring" then B.ring P (kS s.2)
  else if s.1 = "quiet" then ({ B with high := (putL B.high (kS s.2) false).1 }, (putL B.high (kS s.2) false).2)
  else if s.1 = "mask" then ({ B with shut := (putL B.shut (kS s.2) true).1 }, (putL B.shut (kS s.2) true).2)
  else if s.1 = "unmask" then ({ B with shut := (putL B.shut (kS s.2) false).1 }, (putL B.shut (kS s.2) false).2)
  else if s.1 = "set" then ({ B with raised := (putL B.raised (kI s.2) true).1 }, (putL B.raised (kI s.2) true).2)
  else ({ B with raised := (putL B.raised (kI s.2) false).1 }, (putL B.raised (kI s.2) false).2)
structure Sub {α : Type} (l m : List α) : Prop where
  nd : l.Nodup
  sub : ∀ x ∈ l, x ∈ m
theorem Sub.nil {α : Type} {m : List α} : Sub [] m := ⟨.nil, by simp⟩
theorem Sub.add {α : Type} {l m : List α} {x : α} (h : Sub l m) (hn : x ∉ l) (hx : x ∈ m) : Sub (l ++ [x]) m := by
  refine ⟨?_, fun y hy => ?_⟩
  · rw [List.nodup_append]
    exact ⟨h.nd, by simp, fun a ha b hb e => by simp at hb; subst hb; subst e; exact hn ha⟩
  · rcases List.mem_append.mp hy with hy | hy
    · exact h.sub y hy
    · simp at hy
      subst hy
      exact hx
theorem Sub.erase {α : Type} [BEq α] [LawfulBEq α] {l m : List α} (x : α) (h : Sub l m) : Sub (l.erase x) m := ⟨h.nd.erase x, fun y hy => h.sub y (List.mem_of_mem_erase hy)⟩
theorem Sub.len {α : Type} [BEq α] [LawfulBEq α] : ∀ {l m : List α}, Sub l m → l.length ≤ m.length
  | [], _, _ => Nat.zero_le _
  | x :: l, m, h => by
    have hx := h.sub x (by simp)
    have hn := List.nodup_cons.mp h.nd
    have : Sub l (m.erase x) := ⟨hn.2, fun y hy => (List.mem_erase_of_ne fun e => hn.1 (by rw [← e]; exact hy)).mpr (h.sub y (List.mem_cons_of_mem _ hy))⟩
    have := this.len
    rw [List.length_erase_of_mem hx] at this
    have : 0 < m.length := List.length_pos_of_mem hx
    rw [List.length_cons]
    omega
theorem Sub.put {α : Type} [DecidableEq α] {l m : List α} {x : α} {b : Bool} (h : Sub l m) (hx : x ∈ m) : Sub (putL l x b).1 m := by
  unfold putL
  split
  · exact h
  · rename_i hn
    split
    · rename_i hb
      subst hb
      exact h.add (by simpa using hn) hx
    · exact h.erase x
def flagL : List Int := [0, 1, 2, 3, 4, 5, 6, 7]
theorem flagL_mem {i : Int} (h0 : 0 ≤ i) (h7 : i ≤ 7) : i ∈ flagL := by
  have : i = 0 ∨ i = 1 ∨ i = 2 ∨ i = 3 ∨ i = 4 ∨ i = 5 ∨ i = 6 ∨ i = 7 := by omega
  simp [flagL, this]
structure Bd.Ok (P : Pl) (B : Bd) : Prop where
  sh : Sub B.shut P.names
  wa : Sub B.wanted P.names
  hi : Sub B.high P.names
  ta : Sub B.taken P.names
  ra : Sub B.raised flagL
  jk : B.joined.map (·.1) = P.order
theorem bump_fst (l : List (Str × Int)) (z : Str) : (bump l z).map (·.1) = l.map (·.1) := by
  unfold bump
  rw [List.map_map]
  apply List.map_congr_left
  intro x _
  show (if x.1 = z then (x.1, x.2 + 1) else x).1 = x.1
  split <;> rfl
theorem Bd.Ok.ring {P : Pl} {B : Bd} (h : B.Ok P) {z : Str} (hz : z ∈ P.names) : (B.ring P z).1.Ok P := by
  unfold Bd.ring
  split
  · split
    · exact ⟨h.sh, h.wa, h.hi, h.ta, h.ra, by show (bump B.joined z).map (·.1) = _; rw [bump_fst]; exact h.jk⟩
    · rename_i hn
      exact ⟨h.sh, h.wa.add hn hz, h.hi, h.ta, h.ra, h.jk⟩
  · split
    · exact ⟨h.sh, h.wa, h.hi, h.ta, h.ra, by show (bump B.joined z).map (·.1) = _; rw [bump_fst]; exact h.jk⟩
    · rename_i hn
      exact ⟨h.sh, h.wa, h.hi.add hn hz, h.ta, h.ra, h.jk⟩
theorem Bd.Ok.ended {P : Pl} {B : Bd} (h : B.Ok P) (z : Str) : (B.ended z).Ok P := ⟨h.sh, h.wa, h.hi, h.ta.erase z, h.ra, h.jk⟩
def CarryIs (P : Pl) (s : Str × Key) : Prop := (s.1 ∈ (["ring", "quiet", "mask", "unmask"] : List Str) ∧ ∃ z, s.2 = .inr z ∧ z ∈ P.names) ∨ (s.1 ∈ (["set", "clear"] : List Str) ∧ ∃ i, s.2 = .inl i ∧ 0 ≤ i ∧ i ≤ 7)
theorem Bd.Ok.carry {P : Pl} {B : Bd} (h : B.Ok P) {s : Str × Key} (hs : CarryIs P s) : (B.carry P s).1.Ok P := by
  obtain ⟨w, k⟩ := s
  rcases hs with ⟨hw, z, e, hz⟩ | ⟨hw, i, e, h0, h7⟩
  · simp only at e hw
    subst e
    simp only [List.mem_cons, List.not_mem_nil, or_false] at hw
    rcases hw with rfl | rfl | rfl | rfl
    · exact h.ring hz
    · exact ⟨h.sh, h.wa, h.hi.put hz, h.ta, h.ra, h.jk⟩
    · exact ⟨h.sh.put hz, h.wa, h.hi, h.ta, h.ra, h.jk⟩
    · exact ⟨h.sh.put hz, h.wa, h.hi, h.ta, h.ra, h.jk⟩
  · simp only at e hw
    subst e
    simp only [List.mem_cons, List.not_mem_nil, or_false] at hw
    rcases hw with rfl | rfl
    · exact ⟨h.sh, h.wa, h.hi, h.ta, h.ra.put (flagL_mem h0 h7), h.jk⟩
    · exact ⟨h.sh, h.wa, h.hi, h.ta, h.ra.put (flagL_mem h0 h7), h.jk⟩
theorem Pl.Ok.len {P : Pl} (ok : P.Ok) : P.names.length ≤ 12 := by
  unfold Pl.names
  rw [List.length_map]
  exact ok.l12
theorem Sub.len12 {P : Pl} (ok : P.Ok) {l : List Str} (h : Sub l P.names) : l.length ≤ 12 := Nat.le_trans h.len ok.len
structure BA where
  b : Addr
  sh : Addr
  wa : Addr
  hi : Addr
  ta : Addr
  ra : Addr
  jo : Addr
def BA.own (D : BA) : List Addr := [D.b, D.sh, D.wa, D.hi, D.ta, D.ra, D.jo]
def boardF (p : Addr) (D : BA) : List (Str × V) := [("plan", .ref p), ("shut", .ref D.sh), ("wanted", .ref D.wa), ("high", .ref D.hi), ("taken", .ref D.ta), ("raised", .ref D.ra), ("joined", .ref D.jo)]
theorem bdF_plan {p : Addr} {D : BA} : (boardF p D).lookup ("plan" : Str) = some (.ref p) := by kernel_rfl
theorem bdF_sh {p : Addr} {D : BA} : (boardF p D).lookup ("shut" : Str) = some (.ref D.sh) := by kernel_rfl
theorem bdF_wa {p : Addr} {D : BA} : (boardF p D).lookup ("wanted" : Str) = some (.ref D.wa) := by kernel_rfl
theorem bdF_hi {p : Addr} {D : BA} : (boardF p D).lookup ("high" : Str) = some (.ref D.hi) := by kernel_rfl
theorem bdF_ta {p : Addr} {D : BA} : (boardF p D).lookup ("taken" : Str) = some (.ref D.ta) := by kernel_rfl
theorem bdF_ra {p : Addr} {D : BA} : (boardF p D).lookup ("raised" : Str) = some (.ref D.ra) := by kernel_rfl
theorem bdF_jo {p : Addr} {D : BA} : (boardF p D).lookup ("joined" : Str) = some (.ref D.jo) := by kernel_rfl
def joinK (l : List (Str × Int)) : List (Key × V) := l.map fun x => (.inr x.1, .int x.2)
structure BoardAt (K : Fg) (H : Hp) (p : Addr) (D : BA) (B : Bd) : Prop where
  nd : D.own.Nodup
  ins : ∃ dx, H D.b = some (.ins (ga K "Board") dx (boardF p D))
  sh : H D.sh = some (.lst (B.shut.map V.str))
  wa : H D.wa = some (.lst (B.wanted.map V.str))
  hi : H D.hi = some (.lst (B.high.map V.str))
  ta : H D.ta = some (.lst (B.taken.map V.str))
  ra : H D.ra = some (.lst (B.raised.map V.int))
  jo : H D.jo = some (.dK (joinK B.joined))
section
variable {K : Fg} {H H' : Hp} {p : Addr} {D : BA} {B : Bd}
theorem BoardAt.keep (h : BoardAt K H p D B) {A : List Addr} (f : Fr A H H') (n : ∀ a ∈ D.own, a ∉ A) : BoardAt K H' p D B := by
  have n' : D.b ∉ A ∧ D.sh ∉ A ∧ D.wa ∉ A ∧ D.hi ∉ A ∧ D.ta ∉ A ∧ D.ra ∉ A ∧ D.jo ∉ A := by simpa [BA.own] using n
  obtain ⟨n1, n2, n3, n4, n5, n6, n7⟩ := n'
  obtain ⟨dx, e⟩ := h.ins
  exact ⟨h.nd, ⟨dx, f.at e n1⟩, f.at h.sh n2, f.at h.wa n3, f.at h.hi n4, f.at h.ta n5, f.at h.ra n6, f.at h.jo n7⟩
theorem BoardAt.same (h : BoardAt K H p D B) (s : Same H H') : BoardAt K H' p D B := h.keep (A := []) s.fr (by simp)
local macro_rules | `(tactic| walk_at "bd") => `(tactic| (rw [upd_ne (by first | assumption | (apply Ne.symm; assumption))]; assumption))
local macro_rules | `(tactic| walk_at "bd") => `(tactic| exact upd_same)
end
end Z
set_option maxHeartbeats 2000000
namespace Z
open PySem PySem.Spec PyProof.Rows L2
def rLenO (C : Addr) (sp : Sp) : List V → Hp → VK → Prop := fun vs H Q => ∃ a dx fs, vs = [.ref a] ∧ H a = some (.ins C dx fs) ∧ sp [.ref a] H (fun v H2 => ∃ n : Int, v = .int n ∧ 0 ≤ n ∧ n < 2 ^ 63 ∧ Q (.int n) H2) E0
theorem cr_lenO {X : Cx} {k : Nat} {f C : Addr} {ps : List Str} {sp : Sp} (hs : PySem.W.findIn X.K (.ref C) "__len__" = some (some (.ref f))) (hfn : PySem.W.isFn X.K (.ref f) = true) (F : FnX X k f ps sp) (c : Cal X.K f ps []) (hr : Room (k + 1) X.A) : CallR X (.builtin "len") (rLenO C sp) := by
  intro pins s σ H vs us Q I r h
  obtain ⟨a, dx, fs, rfl, ea, q⟩ := h
  rw [Vals.ref1 r]
  obtain ⟨mA, O, _, _, _, _⟩ := ins_get I.hok ea
  obtain ⟨od, J, _⟩ := O.look
  obtain ⟨mf, fr⟩ := I.fr
  refine PySem.W.len_K fr I.mod.kin J hs hfn (thn (run_in1 F c hr passL I (.cons (show L2.RelV (.ref a) (.ref a) from rfl) .nil) q) fun u s' ⟨z, H2, I2, rz, n, ez, n0, n1, q2⟩ => ?_)
  subst ez
  obtain ⟨t, rfl⟩ := rz
  exact ⟨⟨n0, n1⟩, .int n, H2, I2.tok _, ⟨_, rfl⟩, q2⟩
end Z
set_option maxHeartbeats 1000000
namespace Z
open PySem PySem.Spec PyProof.Rows L2
open LamX (lamCx lamEnv run_ofS CodeO TabB TabS LamS pe_act)
open He (ga ma)
def oexB (x : Str) (K : Fg) : Bool := (match K.lookup (ga K x) with
  | some ⟨.type "type", _, .cls cd, sl⟩ => (match cd.mro, sl.toList with
    | .ref c :: bm, [_, _, _, _, some (.builtin n), _] => decide (c = ga K x) && (decide (n = "ValueError.__new__") && (cd.hasDict && (!cd.hasDel && PySem.HandSPX.refsVE bm)))
    | _, _ => false)
  | _ => false) && (decide (PySem.W.findIn K (.ref (ga K x)) "__setattr__" = some (some (.builtin "object.__setattr__"))) && (decide (PySem.W.subIn K (.ref (ga K x)) (.type "BaseException") = some true) && (decide (PySem.W.typeIn K (.ref (ga K x)) = some (.type "type")) && PySem.W.keepIn K (.ref (ga K x)))))
theorem oexB_ok {x : Str} {K : Fg} (h : oexB x K = true) : OexC K (ga K x) := by
  unfold oexB at h
  simp only [Bool.and_eq_true, decide_eq_true_eq] at h
  obtain ⟨h1, h2, h3, h4, h5⟩ := h
  refine ⟨?_, h2, h3, h4, h5⟩
  split at h1
  · rename_i dd cd sl e
    split at h1
    · rename_i c bm a0 a1 a2 a3 n a5 em es
      simp only [Bool.and_eq_true, decide_eq_true_eq, Bool.not_eq_true'] at h1
      obtain ⟨rfl, rfl, hd, hl, hr⟩ := h1
      obtain ⟨nm, bs, mro, ns, qn, hdc, sn, sb, ab, col, del⟩ := cd
      dsimp only at em hd hl
      subst em hd hl
      obtain ⟨l⟩ := sl
      have es : l = _ := es
      subst es
      exact ⟨_, _, _, _, _, _, _, _, _, _, _, _, _, _, _, e, hr⟩
    · cases h1
  · cases h1
structure OexI (K : Fg) (C f : Addr) : Prop where
  i : PySem.W.findIn K (.ref C) "__init__" = some (some (.ref f))
  t : PySem.W.typeIn K (.ref f) = some (.type "function")
def fOexI (x : Str) (K : Fg) : Bool := decide (PySem.W.findIn K (.ref (ga K x)) "__init__" = some (some (.ref (ma K (ga K x) "__init__")))) && decide (PySem.W.typeIn K (.ref (ma K (ga K x) "__init__")) = some (.type "function"))
theorem fOexI_ok {x : Str} {K : Fg} (h : fOexI x K = true) : OexI K (ga K x) (ma K (ga K x) "__init__") := by
  unfold fOexI at h
  simp only [Bool.and_eq_true, decide_eq_true_eq] at h
  exact ⟨h.1, h.2⟩
def excCB (x : Str) (K : Fg) : Bool := decide (PySem.W.findIn K (.ref (ga K x)) "__getattribute__" = some (some (.builtin "BaseException.__getattribute__"))) && (decide (PySem.W.findIn K (.ref (ga K x)) "__getattr__" = some none) && (decide (PySem.W.subIn K (.ref (ga K x)) (.type "BaseException") = some true) &&
  (PySem.W.hasDictIn K (ga K x) && (decide (PySem.W.findIn K (.ref (ga K x)) "__class__" = some (some (.builtin "object.__class__"))) && (decide (PySem.W.specialIn K (.builtin "object.__class__") "__get__" = some (some (.builtin "getset_descriptor.__get__"))) &&
  (decide (PySem.W.takesIn K (.builtin "object.__class__") = some true) && decide (PySem.W.mroIn K (ga K x) (.type "object") = some true)))))))
theorem excCB_ok {x : Str} {K : Fg} (h : excCB x K = true) : ExcC K (ga K x) := by
  unfold excCB at h
  simp only [Bool.and_eq_true, decide_eq_true_eq] at h
  obtain ⟨h1, h2, h3, h4, h5, h6, h7, h8⟩ := h
  exact ⟨h1, h2, h3, h4, h5, h6, h7, h8⟩
theorem ExcC.xf {K : Fg} {C : Addr} (h : ExcC K C) : XfC K C := ⟨h.hg, h.hk, h.hs, h.hd⟩
structure VeIn (K : Fg) (B : Addr) : Prop where
  r : ClX.CRead K B (.type "type")
  v : PySem.W.findCls K (.ref B) (.type "type") "__init__" = some (.val (.builtin "ValueError.__init__"))
def fVeIn (x : Str) (K : Fg) : Bool := PySem.W.readsIn K (ga K x) (.type "type") && (decide (PySem.W.specialIn K (.ref (ga K x)) "__getattribute__" = some (some (.builtin "type.__getattribute__"))) && (match PySem.W.findCls K (.ref (ga K x)) (.type "type") "__init__" with
  | some (.val (.builtin n)) => decide (n = "ValueError.__init__")
  | _ => false))
theorem fVeIn_ok {x : Str} {K : Fg} (h : fVeIn x K = true) : VeIn K (ga K x) := by
  unfold fVeIn at h
  simp only [Bool.and_eq_true, decide_eq_true_eq] at h
  obtain ⟨h1, h2, h3⟩ := h
  refine ⟨⟨h1, h2⟩, ?_⟩
  split at h3
  · rename_i n e
    rw [e, of_decide_eq_true h3]
  · cases h3
section
variable {X : Cx} {B : Addr} {o e : Expr} {es : List Expr} {to : TE} {ta : TA} {pos apos : Pos}
def tBin (B : Addr) (to t : TE) : TE := fun σ H Q => to σ H fun x H1 => x = .ref B ∧ t σ H1 Q
theorem z_veinit {pl : Sem Bool} (ho : PE X o to) (hB : VeIn X.K B) (ha : L2.PA X (e :: es) ta)
    (hst : starEach (e :: es) X.env = (false, eval e X.env) :: starEach es X.env := by rfl) (hpl : (backTo pos (starEach es X.env)).any (·.1) = false := by rfl)
    (ht : eval (.Call (.Attribute o "__init__" apos) (e :: es) [] pos) X.env = (do
      let ov ← eval o X.env
      standAt apos.atName
      let (f, first) ← holding [ov] (getMethod ov "__init__" pl)
      callWith pos f first (backTo pos (starEach (e :: es) X.env)) (backToKw pos (keywordEach [] X.env))) := by rfl) :
    PE X (.Call (.Attribute o "__init__" apos) (e :: es) [] pos) (tBin B to (tVeI X.K ta)) := by
  refine ⟨fun pins s σ H Q I h => ?_⟩
  refine PySem.W.methodCall_KW (pl := pl) (thn (ho.run pins s σ H _ I h) fun u s1 ⟨x, H1, I1, rx, ex, q⟩ => ?_) ht
  subst ex
  obtain rfl : u = Value.ref B := rx
  refine PySem.W.method_cls I1.kIn hB.r.ga (PySem.W.cls_value I1.kIn hB.r.rd hB.v (by rfl) ?_)
  have I2 := I1.tok (s1.toks + 1)
  refine PyProof.Rows.callWith_method1 (thn (ha.run pos pins _ σ H1 _ I2 q) fun us s2 ⟨vs, H2, I3, r2, a, C, ws, ev, hl, T, ea, q2⟩ => ?_) hst hpl
  subst ev
  cases r2 with
  | @cons _ u0 _ ur ra rw' =>
    obtain rfl : u0 = Value.ref a := ra
    have hn : ur.length ≤ sizeLine := by
      rw [← Paired.length rw', sizeLine_eq]
      omega
    exact oinit_ok T I3 ea hn fun s' J => ⟨.non, H2, J, rfl, q2⟩
end
def rIsX (K : Fg) (a : Addr) (cls : Value) (d : Option Addr) : List V → Hp → VK → Prop := fun xs H Q => ∃ (D : Addr) (c : V) (cv : Value) (b : Bool), xs = [.ref a, c] ∧ cls = .ref D ∧ ExcC K D ∧ (∀ u, RelV c u → u = cv) ∧ PySem.W.kitOne K cls cv = some b ∧ (∀ dd, d = some dd → ∃ fs, H dd = some (.xd fs)) ∧ Q (.bl b) H
theorem cr_isX {X : Cx} {a : Addr} {cls : Value} {d : Option Addr} {oe : Obj} {pn : List (Addr × Obj)} (hz : Zc cls d oe) (hf : ∃ vs, oe.data = .fields vs) : CallR (X.suite a ((a, oe) :: pn)) (.builtin "isinstance") (rIsX X.K a cls d) := by
  intro pins s σ H xs us Q I r h
  obtain ⟨D, c, cv, b, rfl, rfl, C, hcv, e, hdd, q⟩ := h
  cases r with | cons rx rr => ?_
  cases rr with | cons rt rr => ?_
  cases rr
  cases rx
  obtain rfl := hcv _ rt
  have hcl : (PySem.W.clsIn X.K D).isSome = true := by
    obtain ⟨cd, hc, _⟩ := PySem.W.any_some C.hd
    rw [hc]
    rfl
  obtain ⟨hget, _⟩ := I.pin (a, oe) (List.mem_append.mpr (.inl List.mem_cons_self))
  obtain ⟨vs, hv⟩ := hf
  obtain ⟨oc, od, oda, osl⟩ := oe
  obtain ⟨h1, h2⟩ := hz
  dsimp only at h1 h2 hv
  subst h1 h2 hv
  cases od with
  | none =>
    have J : PySem.W.InstAt s.heap a ⟨.ref D, none, .fields vs, osl⟩ D none := ⟨hget, rfl, rfl, trivial⟩
    exact PySem.W.kia_one (PySem.W.kitx_exc hcl C.hg C.hk C.hs C.ha C.hn C.ht C.hm) I.kIn J e (fun z => nomatch z) fun tk => ⟨.bl b, H, I.kept (t' := tk) fun _ _ z => z, rfl, q⟩
  | some dd =>
    obtain ⟨fs, hx⟩ := hdd dd rfl
    have ox : ObjOk X.prog X.w H s.heap dd (.xd fs) := I.hok dd _ hx
    obtain ⟨mA, hns, _⟩ := ox
    obtain ⟨od, ho, _⟩ := lookIn_ns hns
    have J : PySem.W.InstAt s.heap a ⟨.ref D, some dd, .fields vs, osl⟩ D (some od) := ⟨hget, rfl, rfl, ho⟩
    exact PySem.W.kia_one (PySem.W.kitx_exc hcl C.hg C.hk C.hs C.ha C.hn C.ht C.hm) I.kIn J e (fun z => nomatch z) fun tk => ⟨.bl b, H, I.kept (t' := tk) fun _ _ z => z, rfl, q⟩
theorem takes_len {X : Cx} {W : WX} (tk : Takes X W) : Takes X (fun cls d σ H => σ.length = X.N.length → W cls d σ H) := fun u s' ⟨a, B, sI, pins, σ, H, cls, d, e, I, nb, up, sky, na, os, ag, w⟩ => tk u s' ⟨a, B, sI, pins, σ, H, cls, d, e, I, nb, up, sky, na, os, ag, w I.len⟩
def GivesR (X : Cx) (Ng : List Str) (x : Str) (sg : Scope) (g : Addr) (cdg : Value) (bg : List Stmt) (a q : Str) (TT : (XK → Hp → VK → Prop) → Hp → VK → Prop) : Prop :=
  ∀ (f c' : Addr) (s : Shared) (H : Hp) (Q : VK) (tl : XK → Hp → VK → Prop), Room 2 (X.A.deeper (envOfC x sg s.heap.objs.size g cdg)) →
    (∀ (W : WX) (pn : List (Addr × Obj)) (xe : Value → Shared → Prop) (E : XK) (p1 p2 : Pos), Takes ((inCx X Ng x sg g cdg s H E0).tr pn xe) W → (∀ cls d (σ' : L2.St) H', σ'.length = Ng.length → E cls d H' → W cls d σ' H') →
      PE ((inCx X Ng x sg g cdg s H E0).tr pn xe) (.Call (.Name a p1) [] [] p2) (fun σZ HZ Q => σZ[0]? = some (some (.ref f)) ∧ HZ c' = some (CodeO c' q) ∧ tl E HZ Q)) →
    H c' = some (CodeO c' q) → TT tl H Q →
    ∃ t, PSs (inCx X Ng x sg g cdg s H E0) bg t ∧ t { nx := fun _ H' => Q .non H', rt := Q } (L2.start Ng [.ref f]) H
def tLamR (P : Addr) (q : Str) (TT : (XK → Hp → VK → Prop) → Hp → VK → Prop) (t : XK → TE) : TE := fun σ H Q => TabS H P q ∧ ∀ H3, Fr [P] H H3 → TabS H3 P q → TT (fun E H' Q' => t E σ H' Q') H3 Q
theorem z_lamR {X : Cx} {TT : (XK → Hp → VK → Prop) → Hp → VK → Prop} {x a : Str} {g c P : Addr} {k : Nat} {pg : Arguments} {bg : List Stmt} {sg : Scope} {Ng : List Str}
    {params : Arguments} {body : Expr} {scope : Scope} {t : XK → TE} {p lpos pos : Pos} (F : FunD X.K x x pg bg sg [] [] g (fdOf X.K g)) (cal : Cal X.K g [a] []) (hg : Gl X x) (hm : X.mg x = some (.ref g)) (Sg : FnScope Ng [a] sg) (hNg : Ng[0]? = some a) (hva : Vis sg a)
    (hG : ∀ cdv, GivesR X Ng x sg g cdv bg a (X.env.qual ++ "<lambda>") TT)
    (TB : TabB X.base X.mg c P) (hcode : X.env.code = .ref c) (hr : Room (k + 3) X.A) {sc : Scope} (hsc : X.env.scope = sc) (L : LamS sc scope) (hdef : defaultsOf params X.env = ([], []))
    (hbind : ∀ (q : Str) (cl : List (Str × Addr)) (pm cv ctv : Value), bindArgs (PySem.W.kla_fn "<lambda>" q params body scope cl pm cv ctv) ⟨[], []⟩ = pure [])
    (hbody : ∀ (A : Around) (outer : List Env) (s : Shared) (H : Hp) (E : XK) (f c' : Addr), Room k (A.deeper (lamEnv X scope s.heap.objs.size f c')) → PE (lamCx X A outer s H E scope f c') body (t E))
    (hdb : (x == ("__debug__" : Str)) = false := by decide) (hd : (a == ("__debug__" : Str)) = false := by decide) (hcd : (a == ("__classdict__" : Str)) = false := by decide) :
    PE X (.Call (.Name x p) [.Lambda params body scope lpos] [] pos) (tLamR P (X.env.qual ++ "<lambda>") TT t) := by
  subst hsc
  obtain ⟨oc, od, dV, kV, doc, pm, an, cdv, ct, osl, e, lk, hcg, _, _⟩ := F.ex
  obtain ⟨ds, hb, hds⟩ := cal.b
  cases hds
  rw [e] at lk hb
  refine ⟨fun pins s σ H Q I h => ?_⟩
  obtain ⟨hT, h⟩ := h
  refine wpAny_Call_Name_kw (ld_glob I hg hm ?_ hdb)
  refine PySem.W.callWith_K (h₀ := X.base) I.ok.mod.kin F.kp ?_ (by rfl) (by rfl)
  show wpAny _ _ (spliced ((false, eval (.Lambda params body scope lpos) X.env) :: backTo pos (starEach [] X.env))) _ _ s
  refine Calls.spliced_cons (lamMake I TB hcode hT hdef (L.has I.ok) fun f c' pm' ctv H3 s3 I3 eN T3 hf hfn hfr hco => ?_)
  refine Calls.spliced_nil ⟨I3.kIn, ?_⟩
  have rc : codeAny (model X.prog X.w) X.A (.call (.ref g) ⟨[.ref f], []⟩) (CR (L2.CX X.prog X.w) X.stack X.prog X.w H3 s3 Q E0) s3 := by
    refine run_ofS (N := Ng) (ps := [a]) (us := [.ref f]) (vs := [.ref f]) lk hcg Sg (k := k + 2) hr I3.env0 (by
      have := hb s3 [.ref f] I3.kIn rfl
      simpa using this) (.cons rfl .nil) rfl fun hr' => ?_
    exact hG cdv f c' s3 H3 Q (fun E H' Q' => t E σ H' Q') (hr'.mono (by omega)) (fun W pn xe E p1 p2 tk hW => pe_act (CXg := L2.CX X.prog X.w) (i := 0) (k := k) I3 L hf hfn hfr (hbind _ _ _ _ _) (takes_len tk) (fun cls d σ' H' h l => hW cls d σ' H' l h) (hr'.mono (by omega)) (fun A outer s H hr2 => hbody A outer s H E f c' hr2) hNg hva hd hcd) hco (h H3 eN T3)
  refine wpAny_call (codeAny_mono rc fun r s' hq => ?_)
  cases r with
  | error e => exact passL (X := X) pins σ H3 s3 e s' I3 hq
  | ok fl =>
    cases fl with
    | ret u => exact I3.after hq
    | next => exact False.elim hq
    | brk => exact False.elim hq
    | cont => exact False.elim hq
def tActR (W : WX) (n : Nat) (R : XK → TE) : TS := fun D σ H => ∃ E : XK, (∀ cls d (σ' : L2.St) H', σ'.length = n → E cls d H' → W cls d σ' H') ∧ R E σ H fun _ H' => D.nx σ H'
theorem z_actR {X : Cx} {e : Expr} {W : WX} {n : Nat} {R : XK → TE} {pos : Pos} (h : ∀ E : XK, (∀ cls d (σ' : L2.St) H', σ'.length = n → E cls d H' → W cls d σ' H') → PE X e (R E)) (hs : swapsWith e none pos.line X.env = pure false := by rfl) : PS X (.Expr e pos) (tActR W n R) := by
  refine ⟨fun pins s σ H D I h' => ?_⟩
  obtain ⟨E, hW, q⟩ := h'
  exact (ps_expr (pos := pos) (h E hW) hs).run pins s σ H D I q
theorem z_mkX {X : Cx} {x : Str} {C f : Addr} {k : Nat} {ps : List Str} {sp : Sp} {dvs : List V} {e : Expr} {es : List Expr} {ta : TA} {p pos : Pos} (T : OexC X.K C) (i : OexI X.K C f) (F1 : FnX X k f ps sp) (c : Cal X.K f ps dvs) (hr : Room (k + 1) X.A) (hg : Gl X x) (hm : X.mg x = some (.ref C)) (ha : L2.PA X (e :: es) ta)
    (hdb : (x == ("__debug__" : Str)) = false := by decide) (he : starEach (e :: es) X.env = (false, eval e X.env) :: starEach es X.env := by rfl) (hpl : (backTo pos (starEach es X.env)).any (·.1) = false := by rfl) : PMk X (.Call (.Name x p) (e :: es) [] pos) (tMkO C sp dvs ta) := by
  obtain ⟨ds, hb, hd⟩ := c.b
  exact pmk_oex T i.i i.t F1 hr hb hd passL hg hm ha hdb he hpl
end Z
set_option maxHeartbeats 1000000
namespace Z
open PySem PySem.Spec PyProof.Rows L2
open He (ga ma)
theorem _root_.L2.ExcC.xf {K : Fg} {C : Addr} (h : L2.ExcC K C) : XfC K C := ⟨h.hg, h.hk, h.hs, h.hd⟩
theorem s_bin {σ : L2.St} {H : Hp} {B : Addr} {to t : TE} {Q : VK} (q : to σ H fun x H1 => x = .ref B ∧ t σ H1 Q) : tBin B to t σ H Q := q
theorem same_xd {H : Hp} {a d : Addr} {o o2 u : HO} {fs : List (Str × V)} (ha : H a = none) (hd : H d = none) (n : d ≠ a) : Same H (upd (del (upd (upd (upd H a o) d u) a o2) a) d (.xd fs)) := fun b v e => by
  have b1 : b ≠ a := fun z => by
    rw [z, ha] at e
    cases e
  have b2 : b ≠ d := fun z => by
    rw [z, hd] at e
    cases e
  rw [upd_ne b2, del_ne b1, upd_ne b1, upd_ne b2, upd_ne b1]
  exact e
theorem str_len_app (a b : Str) : (a ++ b).length = a.length + b.length := by
  show (a.cps ++ b.cps).size = a.cps.size + b.cps.size
  exact Array.size_append
theorem mt_indexK {X : Cx} (K : Fg) (hK : X.K = K := by rfl) : MtR X "list.index" (rIndex K) := by subst hK; exact mt_index
end Z
set_option maxHeartbeats 1000000
namespace Z
open PySem PySem.Spec PyProof.Rows L2
section
variable {X : Cx} {k : Nat} {f C : Addr} {ps : List Str} {sp : Sp} {E : XK}
def rEqT (K : Fg) (C : Addr) (sp : Sp) (E : XK) : R2 := fun x y H Q => ∃ a b dx fs xs, x = .ref a ∧ y = .ref b ∧ H a = some (.ins C dx fs) ∧
  SqT K H b xs ∧ PySem.W.notFirst K C (.type "tuple") = true ∧ sp [.ref a, .ref b] H (fun v H2 => ∃ c, v = .bl c ∧ Q (.bl c) H2) E
theorem op_eqT {K : Fg} (hs : PySem.W.findIn X.K (.ref C) "__eq__" = some (some (.ref f))) (hfn : PySem.W.isFn X.K (.ref f) = true) (F : FnX X k f ps sp) (c : Cal X.K f ps []) (hr : Room k X.A) (hx : Passes (L2.CX X.prog X.w) X E) (hK : X.K = K := by rfl) : OpR X (compareOp .Eq) (rEqT K C sp E) := by
  subst hK
  intro pins s σ H x y v u Q I rx ry h
  obtain ⟨a, b, dx, fs, xs, rfl, rfl, ea, eb, nf, q⟩ := h
  obtain rfl : v = Value.ref a := rx
  obtain rfl : u = Value.ref b := ry
  obtain ⟨mA, O, _⟩ := ins_get I.hok ea
  obtain ⟨od, J, _⟩ := O.look
  obtain ⟨mf, fr⟩ := I.fr
  show wpAny (model X.prog X.w) X.A (richCompare .Eq (.ref a) (.ref b)) (EP X pins σ Q) X.xe s
  obtain ⟨its, rv, ⟨o, ho, hc, _⟩, hz⟩ := I.tuple eb
  have lk : PySem.W.Looks (model X.prog X.w) s.heap (typeOf (.ref b)) (.type "tuple") := hc ▸ (PySem.W.Looks.ld ho).andThen .now
  refine PySem.W.cmp_K (op := .Eq) (tb := .type "tuple") hr.units0 fr I.mod.kin J lk nf hs hfn (thn (run_in0 F c hr hx I (.cons (show L2.RelV (.ref a) (.ref a) from rfl) (.cons (show L2.RelV (.ref b) (.ref b) from rfl) .nil)) q) fun r s' ⟨z, H2, I2, rz, w, ez, q2⟩ => ?_)
  subst ez
  cases rz
  exact ⟨.bl w, H2, I2, rfl, q2⟩
end
end Z
set_option maxHeartbeats 2000000
namespace Z
open PySem PySem.Spec PyProof.Rows L2
def rCntD (K : Fg) : V → List V → Hp → VK → Prop := fun x xs H Q => ∃ (a : Addr) (y : V) (d : PyData) (ds : List PyData), x = V.ref a ∧ xs = [y] ∧ Dp K H (V.ref a) (.list ds) ∧ Dp K H y d ∧
  SeqAt.shaped (.list ds) = true ∧ SeqAt.shaped d = true ∧ Q (.int (ds.countP fun z => PyData.eqv z d : Nat)) H
section
variable {X : Cx}
theorem mt_countD (hu : X.A.units + 65 < cLine) : MtR X "list.count" (rCntD X.K) := by
  intro pins s σ H x xs v us Q I rx rxs h
  obtain ⟨a, y, d, ds, rfl, rfl, hl, hy, sl, sd, q⟩ := h
  cases rx
  cases rxs with
  | cons ry rt =>
    rename_i uy ut
    cases rt
    obtain ⟨bs, r1⟩ := Dp.reads I d y uy hy ry
    have hxs : PyData.canLayAll0 ds = true := SeqAt.canLay_of_shaped sl
    have hroom : X.A.units + 1 + min (PyData.depthAll ds) d.depth < cLine := room_in_shaped sd hu
    cases hl with
    | lst hs ha =>
      obtain ⟨its, rv, ⟨⟨cls, dd, data, sls⟩, n, ho, hc, hdn, hdt⟩, hlen⟩ := I.list hs
      simp only at hc hdt
      subst hc hdt
      obtain ⟨as, h4⟩ := Dp.readsAll I ds _ its ha rv
      have hmap : its.map (SeqAt.readOf s.heap) = ds := SeqAt.readsAll_map ds its as hxs h4
      refine call_meets PySem.F.slot_list_count ⟨_, ho, rfl⟩ PySem.F.entry_list_count (PySem.F.args_list_count_2 _ _)
        (SeqAt.list_countAt a its.toArray n dd sls uy (fun u => PyData.eqv (SeqAt.readOf s.heap u) d)) ⟨ho, SeqAt.items_eqAt (vs := its.toArray) (show ReadsAll s.heap its.toArray.toList ds as from h4) r1 hxs (SeqAt.canLay_of_shaped sd) hroom, ?_⟩
      have ec : its.toArray.toList.countP (fun u => PyData.eqv (SeqAt.readOf s.heap u) d) = ds.countP fun z => PyData.eqv z d := by
        rw [← hmap, List.countP_map]
        rfl
      refine ⟨.int (ds.countP fun z => PyData.eqv z d : Nat), H, I.tok _, ⟨s.toks, ?_⟩, q⟩
      show Value.int ((its.toArray.toList.countP (fun u => PyData.eqv (SeqAt.readOf s.heap u) d) : Nat) : Int) s.toks = Value.int ((ds.countP fun z => PyData.eqv z d : Nat) : Int) s.toks
      rw [ec]
theorem mt_countDK (K : Fg) (hu : X.A.units + 65 < cLine) (hK : X.K = K := by rfl) : MtR X "list.count" (rCntD K) := by subst hK; exact mt_countD hu
end
end Z
set_option maxHeartbeats 3200000
namespace Z
open PySem PySem.Spec PyProof.Rows L2 PySem.Froz
theorem sub_len : ∀ {l m : List Int}, l.Nodup → (∀ x ∈ l, x ∈ m) → l.length ≤ m.length
  | [], _, _, _ => Nat.zero_le _
  | x :: l, m, h, s => by
    rw [List.nodup_cons] at h
    have hx : x ∈ m := s x (by simp)
    have := sub_len (l := l) (m := m.erase x) h.2 fun y hy => (List.mem_erase_of_ne (fun e => h.1 (by rw [← e]; exact hy))).mpr (s y (by simp [hy]))
    rw [List.length_erase_of_mem hx] at this
    have := List.length_pos_of_mem hx
    simp
    omega
theorem setR_full {w : World} {h : Heap} {a : Addr} {ns : List Int} {c : Nat} (R : SetR w h a (fun j => decide (j ∈ ns)) c) (nd : ns.Nodup) : ns.length ≤ c := by
  obtain ⟨o, es, ep, t, _, _, _, _, _, hm, _, _, hn, _⟩ := R
  have := sub_len (m := es.toList.map keyOf) nd fun x hx => (hm x).mp (decide_eq_true hx)
  rw [List.length_map, show es.toList.length = es.size from Array.length_toList, hn] at this
  exact this
end Z
set_option maxHeartbeats 1000000
namespace Z
open PySem PySem.Spec PyProof.Rows L2
open LamX (lamCx lamEnv inv_table run_ofS CodeO codeO_ne TabB TabS among_app)
structure Lm where
  ps : Arguments
  body : Expr
  scope : Scope
  own : Option (Nat × Str × V)
def FnO (env : Env) (d : Lm) (dV : Value) (c' f : Addr) : HO := .ext fun h => ∃ doc pm ctv, h.get? f = some (PySem.W.kdv_obj "<lambda>" (env.qual ++ "<lambda>") d.ps (.expr d.body) d.scope (cloFrom env.cells d.scope.names []) dV doc pm c' ctv)
theorem fnO_ok {P : Program} {w : World} {H : Hp} {h : Heap} {env : Env} {d : Lm} {dV doc pm ctv : Value} {c' f : Addr} (e : h.get? f = some (PySem.W.kdv_obj "<lambda>" (env.qual ++ "<lambda>") d.ps (.expr d.body) d.scope (cloFrom env.cells d.scope.names []) dV doc pm c' ctv)) : ObjOk P w H h f (FnO env d dV c' f) :=
  ⟨⟨doc, pm, ctv, e⟩, ⟨_, e⟩, fun h1 h2 ⟨a, b, c, k⟩ st => ⟨a, b, c, st _ k⟩⟩
def DfltAt (d : Lm) (dV : Value) (H : Hp) : Prop := match d.own with
  | none => dV = .none
  | some (_, _, v) => ∃ t, dV = .ref t ∧ H t = some (.tup [v])
def Kept (env : Env) (d : Lm) (f : Addr) (H : Hp) : Prop := ∃ (c' : Addr) (dV : Value), H c' = some (CodeO c' (env.qual ++ "<lambda>")) ∧ H f = some (FnO env d dV c' f) ∧ DfltAt d dV H
theorem DfltAt.ext {d : Lm} {dV : Value} {H H' : Hp} (h : DfltAt d dV H) (e : ∀ t xs, H t = some (.tup xs) → H' t = some (.tup xs)) : DfltAt d dV H' := by
  unfold DfltAt at h ⊢
  split at h
  · exact h
  · obtain ⟨t, e1, e2⟩ := h
    exact ⟨t, e1, e _ _ e2⟩
theorem Kept.same {env : Env} {d : Lm} {f : Addr} {H H' : Hp} (h : Kept env d f H) (s : Same H H') : Kept env d f H' := by
  obtain ⟨c', dV, h1, h2, h3⟩ := h
  exact ⟨c', dV, s _ _ h1, s _ _ h2, h3.ext fun t xs e => s _ _ e⟩
def NoE (H : Hp) (a : Addr) : Prop := ∀ φ, H a ≠ some (.ext φ)
theorem Kept.fr {env : Env} {d : Lm} {f : Addr} {N : List Addr} {H H' : Hp} (h : Kept env d f H) (s : Fr N H H') (n : ∀ a ∈ N, NoE H a) : Kept env d f H' := by
  obtain ⟨c', dV, h1, h2, h3⟩ := h
  refine ⟨c', dV, s.at h1 fun z => n _ z _ h1, s.at h2 fun z => n _ z _ h2, h3.ext fun t xs e => ?_⟩
  exact s.1 t _ e (.inr rfl)
section
variable {X : Cx} {pins : List (Addr × Obj)} {σ : L2.St} {H : Hp} {s : Shared}
theorem lamTail {c P : Addr} {d : Lm} {dV : Value} {pos : Pos} {E Q : Value → Shared → Prop} (I : Inv X pins σ H s) (TB : TabB X.base X.mg c P) (hcode : X.env.code = .ref c) (hT : TabS H P (X.env.qual ++ "<lambda>"))
    (hfree : ∀ y ∈ d.scope.names, y.2 = .free → ∃ c, X.env.cells.lookup y.1 = some c)
    (h : ∀ (f c' : Addr) (H1 : Hp) (s' : Shared), Inv X pins σ H1 s' → Fr [P] H H1 → TabS H1 P (X.env.qual ++ "<lambda>") → H f = none → H1 f = some (FnO X.env d dV c' f) → H1 c' = some (CodeO c' (X.env.qual ++ "<lambda>")) → Q (.ref f) s') :
    wpAny (model X.prog X.w) X.A (makeTail "<lambda>" (X.env.qual ++ "<lambda>") d.ps (.expr d.body) d.scope X.env dV .none none pos pos.line) Q E s := by
  have hT0 := hT
  obtain ⟨ps, hP, ht, ha⟩ := hT
  have pB : s.heap.BuiltinsAt X.mg P := TB.bm.keeps I.bk
  have pO : s.heap.get? P = some { cls := .none, data := .fields ps } := I.hok P _ hP
  cases hc : codeAmong pos ps.toList with
  | some cv =>
    obtain ⟨c', rfl, hco⟩ := ha pos cv hc
    refine PySem.W.kdv_makeTailHit (mg := X.mg) (c := c) (P := P) (ps := ps) (closure_ok hfree) I.ok.glob (I.mod.glob.keeps I.bk) hcode (TB.code.keeps I.bk) pO ht hc pB fun ctv doc h' tk hx hz => ?_
    have nf : H h'.objs.size = none := I.hok.fresh hz
    have I1 := I.laid (a := h'.objs.size) (o := FnO X.env d dV c' h'.objs.size) (t' := tk) (h' := h'.push (PySem.W.kdv_obj "<lambda>" (X.env.qual ++ "<lambda>") d.ps (.expr d.body) d.scope (cloFrom X.env.cells d.scope.names []) dV doc ((X.mg "__name__").getD .none) c' ctv)) (fun b o e => Heap.get?_push_of_some _ (hx b o e)) hz (fnO_ok (Heap.get?_push_size _ rfl))
    refine h h'.objs.size c' _ _ I1 (Fr.new nf) (hT0.ext fun b o e => ?_) nf upd_same ?_
    · rw [upd_ne (ne_of_none e nf)]; exact e
    · rw [upd_ne (ne_of_none hco nf)]; exact hco
  | none =>
    refine PySem.W.kdv_makeTail (mg := X.mg) (c := c) (P := P) (ps := ps) (closure_ok hfree) I.ok.glob (I.mod.glob.keeps I.bk) hcode (TB.code.keeps I.bk) pO ht hc TB.gP pB fun c' ctv doc h' tk hx hge hlt hrec htb => ?_
    obtain ⟨_, oc, vs, t, e2, ho, hd, hv⟩ := hrec
    cases e2
    have hz : s.heap.objs.size ≤ h'.objs.size := Nat.le_trans hge (Nat.le_of_lt hlt)
    have nc : H c' = none := I.hok.fresh hge
    have nPc : P ≠ c' := ne_of_none hP nc
    have I1 := inv_table (t' := tk) (more := #[rawInt pos.line, rawInt pos.col, .ref c']) (h' := h') I hP (fun b o hb e => hx b o hb e) htb hge ⟨oc, vs, t, ho, hd, hv⟩
    generalize hH1 : upd (upd H P (.tbl (ps ++ #[rawInt pos.line, rawInt pos.col, .ref c']))) c' (CodeO c' (X.env.qual ++ "<lambda>")) = H1 at I1
    have nf : H1 h'.objs.size = none := I1.hok.fresh (Nat.le_refl _)
    have nf0 : H h'.objs.size = none := I.hok.fresh hz
    have f1 : Fr [P] H (upd H P (.tbl (ps ++ #[rawInt pos.line, rawInt pos.col, .ref c']))) := Fr.upd (by simp) hP rfl
    have nc1 : (upd H P (.tbl (ps ++ #[rawInt pos.line, rawInt pos.col, .ref c']))) c' = none := by rw [upd_ne (Ne.symm nPc)]; exact nc
    have f2 : Fr [P] H H1 := by
      rw [← hH1]
      exact f1.trans (Fr.new (o := CodeO c' (X.env.qual ++ "<lambda>")) nc1)
    have tb1 : TabS H1 P (X.env.qual ++ "<lambda>") := by
      rw [← hH1]
      refine ⟨ps ++ #[rawInt pos.line, rawInt pos.col, .ref c'], by rw [upd_ne nPc, upd_same], ?_, fun p' cv k => ?_⟩
      · rw [Array.toList_append]
        exact PySem.TriplesOk_snoc _ _ _ _ ht
      · rw [Array.toList_append] at k
        rcases among_app _ ht k with k | k
        · obtain ⟨c0, e1, e2⟩ := ha p' cv k
          refine ⟨c0, e1, ?_⟩
          have n1 : c0 ≠ P := fun e => by
            rw [e, hP] at e2
            exact codeO_ne ps (Option.some.inj e2).symm
          rw [upd_ne (ne_of_none e2 nc), upd_ne n1]
          exact e2
        · exact ⟨c', k, upd_same⟩
    have co1 : H1 c' = some (CodeO c' (X.env.qual ++ "<lambda>")) := by rw [← hH1]; exact upd_same
    have I2 := I1.laid (a := h'.objs.size) (o := FnO X.env d dV c' h'.objs.size) (t' := tk) (h' := h'.push (PySem.W.kdv_obj "<lambda>" (X.env.qual ++ "<lambda>") d.ps (.expr d.body) d.scope (cloFrom X.env.cells d.scope.names []) dV doc ((X.mg "__name__").getD .none) c' ctv)) (fun b o e => Heap.get?_push_of_some _ e) (Nat.le_refl _) (fnO_ok (Heap.get?_push_size _ rfl))
    refine h h'.objs.size c' _ _ I2 (f2.trans (Fr.new nf)) (tb1.ext fun b o e => ?_) nf0 upd_same ?_
    · rw [upd_ne (ne_of_none e nf)]; exact e
    · rw [upd_ne (ne_of_none co1 nf)]; exact co1
def tLamV (env : Env) (P : Addr) (d : Lm) : TE := fun σ H Q => TabS H P (env.qual ++ "<lambda>") ∧ ∀ f H1, Fr [P] H H1 → TabS H1 P (env.qual ++ "<lambda>") → H f = none → Kept env d f H1 → Q (.ref f) H1
theorem s_lamV {env : Env} {P : Addr} {d : Lm} {Q : VK} (q : TabS H P (env.qual ++ "<lambda>") ∧ ∀ f H1, Fr [P] H H1 → TabS H1 P (env.qual ++ "<lambda>") → H f = none → Kept env d f H1 → Q (.ref f) H1) : tLamV env P d σ H Q := q
theorem z_lamV0 {c P : Addr} {params : Arguments} {body : Expr} {scope : Scope} {pos : Pos} (TB : TabB X.base X.mg c P) (hcode : X.env.code = .ref c) {sc : Scope} (hsc : X.env.scope = sc)
    (hfr : ∀ y ∈ scope.names, y.2 = .free → sc.names.lookup y.1 = some .cell ∨ sc.names.lookup y.1 = some .free) (hdef : defaultsOf params X.env = ([], [])) : PE X (.Lambda params body scope pos) (tLamV X.env P ⟨params, body, scope, none⟩) := by
  subst hsc
  refine ⟨fun pins s σ H Q I h => ?_⟩
  obtain ⟨hT, h⟩ := h
  refine PySem.W.kla_eval hdef ?_
  rw [makeFunction_eq]
  simp only [List.zip_nil_right, List.filterMap_nil, List.isEmpty_nil, if_true, pure_bind]
  have hfree : ∀ y ∈ scope.names, y.2 = .free → ∃ c, X.env.cells.lookup y.1 = some c := fun y hy e => by
    rcases hfr y hy e with k | k
    · exact I.ok.has _ (.inl k)
    · exact I.ok.has _ (.inr k)
  exact lamTail (d := ⟨params, body, scope, none⟩) (dV := .none) I TB hcode hT hfree fun f c' H1 s' I1 fr t1 nf hf hc => ⟨.ref f, H1, I1, rfl, h f H1 fr t1 nf ⟨c', .none, hc, hf, rfl⟩⟩
theorem z_lamV1 {c P : Addr} {params : Arguments} {body e : Expr} {scope : Scope} {pos : Pos} {i : Nat} {y : Str} {v : V} (TB : TabB X.base X.mg c P) (hcode : X.env.code = .ref c) {sc : Scope} (hsc : X.env.scope = sc)
    (hfr : ∀ y ∈ scope.names, y.2 = .free → sc.names.lookup y.1 = some .cell ∨ sc.names.lookup y.1 = some .free) (hd : params.defaults = [e]) (hk : params.kw_defaults = []) (he : ∀ H s pins σ, Inv X pins σ H s → wpAny (model X.prog X.w) X.A (eval e X.env) (fun u s' => Inv X pins σ H s' ∧ RelV v u) X.xe s) :
    PE X (.Lambda params body scope pos) (tLamV X.env P ⟨params, body, scope, some (i, y, v)⟩) := by
  subst hsc
  refine ⟨fun pins s σ H Q I h => ?_⟩
  obtain ⟨hT, h⟩ := h
  refine PySem.W.kdv_lam (by rw [hd]; rfl) hk ?_
  rw [hd]
  refine PySem.W.kdv_all1 (thn (he H s pins σ I) fun u s1 ⟨I1, ru⟩ => PySem.W.kdv_all0 ?_)
  rw [makeFunction_eq]
  simp only [List.zip_nil_right, List.filterMap_nil, List.isEmpty_nil, if_true, pure_bind, List.isEmpty_cons, Bool.false_eq_true, if_false]
  refine wpAny_bind (wpAny_newTextTuple ?_)
  have hfree : ∀ y ∈ scope.names, y.2 = .free → ∃ c, X.env.cells.lookup y.1 = some c := fun y hy e => by
    rcases hfr y hy e with k | k
    · exact I.ok.has _ (.inl k)
    · exact I.ok.has _ (.inr k)
  have nt : H s1.heap.objs.size = none := I1.hok.fresh (Nat.le_refl _)
  have I2 := I1.laid (a := s1.heap.objs.size) (o := .tup [v]) (t' := s1.toks) (h' := s1.heap.push { cls := .type "tuple", data := .seq ([u] : List Value).toArray }) (fun b o e => Heap.get?_push_of_some _ e) (Nat.le_refl _) ⟨by rw [sizeLine_eq, List.length_singleton]; decide, [u], .cons ru .nil, IsTup.new s1.heap _⟩
  have s2 : Same H (upd H s1.heap.objs.size (.tup [v])) := fun b o e => by rw [upd_ne (ne_of_none e nt)]; exact e
  exact lamTail (d := ⟨params, body, scope, some (i, y, v)⟩) (dV := .ref s1.heap.objs.size) I2 TB hcode (hT.ext fun b o e => s2 _ _ e) hfree fun f c' H1 s' I3 fr t1 nf hf hc =>
    ⟨.ref f, H1, I3, rfl, h f H1 ((Fr.new nt).trans fr) t1 (by
      cases e : H f with
      | none => rfl
      | some o => rw [s2 _ _ e] at nf; cases nf) ⟨c', _, hc, hf, _, rfl, fr.1 _ _ upd_same (.inr rfl)⟩⟩
end
end Z
set_option maxHeartbeats 1000000
namespace Z
open PySem PySem.Spec PyProof.Rows L2
open LamX (lamCx lamEnv run_ofS CodeO TabB TabS)
structure LmS (sc scope : Scope) (y : Option Str) : Prop where
  kind : scope.kind = .function
  co : scope.isCoroutine = false
  gen : scope.isGenerator = false
  par : ∀ x, y = some x → scope.names.lookup x = some .local
  own : ∀ z ∈ scope.names, z.2 ≠ .cell ∧ (z.2 = .local → y = some z.1)
  free : ∀ z ∈ scope.names, z.2 = .free → sc.names.lookup z.1 = some .cell ∨ sc.names.lookup z.1 = some .free
def lmSB (sc scope : Scope) (y : Option Str) : Bool :=
  decide (scope.kind = .function) && (!scope.isCoroutine && (!scope.isGenerator && ((match y with
    | none => true
    | some x => decide (scope.names.lookup x = some .local)) && scope.names.all fun z => !decide (z.2 = .cell) && ((!decide (z.2 = .local) || decide (y = some z.1)) && (!decide (z.2 = .free) || (decide (sc.names.lookup z.1 = some .cell) || decide (sc.names.lookup z.1 = some .free)))))))
theorem lmS_by {sc scope : Scope} {y : Option Str} (h : lmSB sc scope y = true) : LmS sc scope y := by
  unfold lmSB at h
  simp only [Bool.and_eq_true, Bool.or_eq_true, Bool.not_eq_true', decide_eq_true_eq, decide_eq_false_iff_not, List.all_eq_true] at h
  obtain ⟨a, b, c, d, e⟩ := h
  refine ⟨a, b, c, fun x k => ?_, fun z hz => ⟨(e z hz).1, fun k => ?_⟩, fun z hz k => ?_⟩
  · subst k
    simpa using d
  · exact (e z hz).2.1.elim (fun n => absurd k n) id
  · exact (e z hz).2.2.elim (fun n => absurd k n) id
def setOwn (o : Option (Nat × Str × V)) (σ : L2.St) : L2.St := match o with
  | none => σ
  | some (i, _, v) => σ.set i (some v)
def OwnB (N : List Str) (o : Option (Nat × Str × V)) (bs : List (Str × Value)) : Prop := match o with
  | none => bs = []
  | some (i, y, v) => N[i]? = some y ∧ ∃ u, RelV v u ∧ bs = [(y, u)]
section
variable {X : Cx} {pins : List (Addr × Obj)} {σ : L2.St} {H HZ : Hp} {s s1 : Shared}
theorem lm_start {A : Around} {outer : List Env} {E : XK} {scope : Scope} {f c' : Addr} {h1 : Heap} {tk : Nat} {o : Option (Nat × Str × V)} {bs : List (Str × Value)} {ex : List Addr} (I : Inv X pins σ H s) (L : LmS X.env.scope scope (o.map (·.2.1))) (ho : OwnB X.N o bs) (hnd : X.N.Nodup)
    (e0 : Env0 X.prog X.w X.K X.mg X.base A outer s1 HZ) (hd : A.handled = none) (un : Un (frs X.stack) ex H HZ s.heap s1.heap) (hex : ∀ z c, X.env.cells.lookup z = some c → c ∉ ex) (hns : h1.Ns s1.heap.objs.size fun z => bs.reverse.lookup z) (kp : ∀ b o, s1.heap.get? b = some o → h1.get? b = some o) :
    Inv (lamCx X A outer s1 HZ E scope f c') [] (setOwn o σ) HZ { s1 with heap := h1, toks := tk } := by
  have hth : ∀ z ∈ scope.names, z.2 = .free → ∃ c, X.env.cells.lookup z.1 = some c := fun z hz e => (L.free z hz e).elim (fun k => I.ok.has _ (.inl k)) fun k => I.ok.has _ (.inr k)
  have back : ∀ {z c}, (cloFrom X.env.cells scope.names []).lookup z = some c → X.env.cells.lookup z = some c := fun {z c} e => by
    rcases cloFrom_mem (PySem.mem_of_lookup e) with k | ⟨k1, k2⟩
    · cases k
    · obtain ⟨d, hc⟩ := hth _ k1 rfl
      have hc : X.env.cells.lookup z = some d := hc
      rw [show c = d by rw [k2, hc] <;> rfl]
      exact hc
  have find : ∀ {z}, scope.names.lookup z = some .free → ∃ c, (cloFrom X.env.cells scope.names []).lookup z = some c := fun {z} hl =>
    mem_lookup (cloFrom_has (cells := X.env.cells) (acc := []) (show (z, NameKind.free) ∈ scope.names from PySem.mem_of_lookup hl))
  have cellS : ∀ {c : Addr} {v : Option Value}, H c = none → c ∉ ex → s.heap.IsCell c v → h1.IsCell c v := fun {c v} n nx ⟨o, ho, hd⟩ => by
    obtain ⟨sl, q⟩ := un.any ho n nx
    exact ⟨_, kp _ _ q, hd⟩
  have none_ : ∀ b : Addr, b ∉ (lamCx X A outer s1 HZ E scope f c').ex := fun b z => by
    have z : b ∈ ([] : List Addr) := z
    simp at z
  have hl0 : (setOwn o σ).length = X.N.length := by
    rw [← I.len]
    unfold setOwn
    split
    · rfl
    · exact List.length_set
  refine ⟨⟨e0.mod, L.kind, rfl, rfl, Nat.le_refl _, fun z z' c e1 e2 => I.ok.inj z z' c (back e1) (back e2), fun z hz => ?_, fun z c k _ => ?_, fun _ => hd, Around.frames_deeper e0.frames, .inr ⟨rfl, rfl⟩, fun b z => absurd z (none_ b), e0.bs, e0.bsz, fun b _ _ => none_ b, fun b z => absurd z (none_ b), e0.funs, e0.frf⟩,
    rfl, e0.bare, Un.kept kp, ⟨_, hns, fun j z v' e1 e2 e3 => ?_⟩, fun z c e => ?_, e0.hok.fresh (Nat.le_refl _), fun z c e => ?_, fun q hq => ?_, e0.hok.kept kp, ?_⟩
  · have hz : scope.names.lookup z = some .cell ∨ scope.names.lookup z = some .free := hz
    rcases hz with hz | hz
    · exact absurd rfl (L.own _ (PySem.mem_of_lookup hz)).1
    · exact find hz
  · have z' : false = true := k
    cases z'
  · have e1 : X.N[j]? = some z := e1
    have e3 : Vis scope z := e3
    rcases e3 with k | k | k
    · have ez := (L.own _ (PySem.mem_of_lookup k)).2 rfl
      unfold OwnB at ho
      unfold setOwn at e2
      cases o with
      | none => cases ez
      | some w =>
        obtain ⟨i, y, v⟩ := w
        dsimp only at ho e2
        obtain ⟨hi, u, ru, rfl⟩ := ho
        cases ez
        have ej : j = i := ixU hnd e1 hi
        subst ej
        have hil : j < σ.length := by
          rw [I.len]
          exact (List.getElem?_eq_some_iff.mp hi).1
        rw [List.getElem?_set_self hil] at e2
        have e2 : v = v' := Option.some.inj (Option.some.inj e2)
        subst e2
        refine ⟨u, ru, .inl ⟨k, ?_⟩⟩
        simp
    · exact absurd rfl (L.own _ (PySem.mem_of_lookup k)).1
    · have e2 : σ[j]? = some (some v') := by
        unfold OwnB at ho
        unfold setOwn at e2
        cases o with
        | none => exact e2
        | some w =>
          obtain ⟨i, y, v⟩ := w
          dsimp only at ho e2
          obtain ⟨hi, _⟩ := ho
          have hj : i ≠ j := fun e => by
            subst e
            rw [hi] at e1
            have e1 : y = z := Option.some.inj e1
            have kp2 := L.par y rfl
            rw [e1, k] at kp2
            cases kp2
          rw [List.getElem?_set_ne hj] at e2
          exact e2
      obtain ⟨m, hn, hl⟩ := I.loc
      have vis : Vis X.env.scope z := .inr (L.free _ (PySem.mem_of_lookup k) rfl)
      obtain ⟨w', r, q⟩ := hl j z v' e1 e2 vis
      obtain ⟨c2, h2⟩ := find k
      refine ⟨w', r, .inr ⟨.inr k, c2, h2, ?_⟩⟩
      have c1 := back h2
      rcases q with ⟨k', _⟩ | ⟨_, c3, e', zz⟩
      · have k' : X.env.scope.names.lookup z = some .local := k'
        rcases L.free _ (PySem.mem_of_lookup k) rfl with k2 | k2 <;> rw [show X.env.scope.names.lookup z = _ from k2] at k' <;> cases k'
      · rw [c1] at e'
        cases e'
        exact cellS (I.freeC z _ c1) (hex _ _ c1) zz
  · obtain ⟨w', k⟩ := I.cell z c (back e)
    exact ⟨w', cellS (I.freeC z c (back e)) (hex _ _ (back e)) k⟩
  · obtain ⟨v', o, ho, hd⟩ := I.cell z c (back e)
    exact un.free c o ho (I.freeC z c (back e)) (hex _ _ (back e))
  · have hq : q ∈ ([] : List (Addr × Obj)) ++ [] := hq
    simp at hq
  · exact hl0
def BindL (d : Lm) : Prop := ∀ (q : Str) (cl : List (Str × Addr)) (dV doc pm cv ctv : Value), match d.own with
  | none => dV = .none → bindArgs (PySem.W.kdv_fn "<lambda>" q d.ps (.expr d.body) d.scope cl dV doc pm cv ctv) ⟨[], []⟩ = pure []
  | some (_, y, _) => ∃ k, bindArgs (PySem.W.kdv_fn "<lambda>" q d.ps (.expr d.body) d.scope cl dV doc pm cv ctv) ⟨[], []⟩ = seqItems? dV >>= k ∧ ∀ u : Value, k (some #[u]) = pure [(y, u)]
theorem pe_actK {CXg : CXT} {Eg : XK} {Ng : List Str} {qg : Str} {sg : Scope} {g f : Addr} {cdg : Value} {d : Lm} {k i : Nat} {a : Str} {pn : List (Addr × Obj)} {xe : Value → Shared → Prop} {W : WX} {E : XK} {tb : TE} {p1 p2 : Pos} {s0 : Shared} {H0 : Hp} {ex : List Addr} {c' : Addr}
    (I : Inv X pins σ H0 s0) (un : Un (frs X.stack) ex H0 H s0.heap s.heap) (hex : ∀ z c, X.env.cells.lookup z = some c → c ∉ ex) (hnd : X.N.Nodup) (L : LmS X.env.scope d.scope (d.own.map (·.2.1))) (hi : ∀ i y v, d.own = some (i, y, v) → X.N[i]? = some y) (hb : BindL d)
    (tk : Takes ((cxOf CXg X.prog X.w X.K X.mg X.base Ng qg sg g cdg X.A X.stack s H Eg).tr pn xe) W) (hW : ∀ cls d σ' H', E cls d H' → W cls d σ' H') (hr : Room (k + 1) (X.A.deeper (envOfC qg sg s.heap.objs.size g cdg)))
    (hbody : ∀ (A : Around) (outer : List Env) (s : Shared) (H : Hp) (c' : Addr), Room k (A.deeper (lamEnv X d.scope s.heap.objs.size f c')) → PE (lamCx X A outer s H E d.scope f c') d.body tb)
    (hN : Ng[i]? = some a) (hv : Vis sg a) (hd : (a == ("__debug__" : Str)) = false := by decide) (hcd : (a == ("__classdict__" : Str)) = false := by decide) :
    PE ((cxOf CXg X.prog X.w X.K X.mg X.base Ng qg sg g cdg X.A X.stack s H Eg).tr pn xe) (.Call (.Name a p1) [] [] p2)
      (fun σZ HZ Q => σZ[i]? = some (some (.ref f)) ∧ Kept X.env d f HZ ∧ tb (setOwn d.own σ) HZ Q) := by
  refine ⟨fun pinsZ sZ σZ HZ Q IZ h => ?_⟩
  obtain ⟨hs, hk, ht⟩ := h
  refine wpAny_Call_Name_kw (thn ((pe_var (pos := p1) (i := i) hN hv hd hcd).run pinsZ sZ σZ HZ (fun v H1 => v = .ref f ∧ H1 = HZ) IZ ⟨.ref f, hs, rfl, rfl⟩) fun u s1 ⟨v, H1, I1, r1, q1⟩ => ?_)
  obtain ⟨ev, eH⟩ := q1
  subst ev
  rw [eH] at I1
  obtain rfl : u = Value.ref f := r1
  obtain ⟨c1, dV, hc, hf, hdf⟩ := hk
  obtain ⟨⟨doc, pm, ctv, of1⟩, _, _⟩ := I1.hok f _ hf
  refine PySem.W.callWith_F0 ⟨_, _, _, _, of1⟩ ?_
  have un1 : Un (frs X.stack) [] H HZ s.heap s1.heap := I1.base
  have un2 : Un (frs X.stack) ex H0 HZ s0.heap s1.heap := un.trans (un1.mono (fun _ z => z) fun b z => absurd z (by simp))
  obtain ⟨⟨oc, vs, t, hoc, hdc, hvc⟩, _, _⟩ := I1.hok c1 _ hc
  have rc : codeAny (model X.prog X.w) (X.A.deeper (envOfC qg sg s.heap.objs.size g cdg)) (.call (.ref f) ⟨[], []⟩) (CR (L2.CX X.prog X.w) (envOfC qg sg s.heap.objs.size g cdg :: X.stack) X.prog X.w HZ s1 Q E) s1 := by
    have fin : ∀ bs : List (Str × Value), OwnB X.N d.own bs → (∀ y ∈ bs, d.scope.names.lookup y.1 = some .local) → wpAny (model X.prog X.w) (X.A.deeper (envOfC qg sg s.heap.objs.size g cdg)).in1
        (newFunctionEnv d.scope mainGlobals (cloFrom X.env.cells d.scope.names []) bs ((X.env.qual ++ "<lambda>") ++ ".<locals>.") (some f) (.ref c1) none builtinsNs)
        (fun env s₂ => s₂.heap.NoLimit ∧ codeAny (model X.prog X.w) (X.A.deeper (envOfC qg sg s.heap.objs.size g cdg)) (.expr d.body env) (CR (L2.CX X.prog X.w) (envOfC qg sg s.heap.objs.size g cdg :: X.stack) X.prog X.w HZ s1 Q E) s₂) (fun e s' => CR (L2.CX X.prog X.w) (envOfC qg sg s.heap.objs.size g cdg :: X.stack) X.prog X.w HZ s1 Q E (.error e) s') s1 := by
      intro bs hob hloc
      refine wpAny_newFunctionEnv (fun y hy => (L.own y hy).1) hloc (fun h₁ hns hsb => ⟨I1.nolimit.fresh _ hsb, ?_⟩) L.kind
      show codeAny _ _ (.expr d.body (lamEnv X d.scope s1.heap.objs.size f c1)) _ _
      have kp : ∀ b o, s1.heap.get? b = some o → h₁.get? b = some o := fun b o e => hsb.extBut b o (Nat.ne_of_lt (Heap.lt_size e)) (Heap.get?_push_of_some _ e)
      have J := lm_start (E := E) (f := f) (c' := c1) (tk := s1.toks + bs.length) (A := X.A.deeper (envOfC qg sg s.heap.objs.size g cdg)) (outer := envOfC qg sg s.heap.objs.size g cdg :: X.stack) I L hob hnd I1.env0 hr.hd un2 hex hns kp
      refine PySem.W.kla_codeExpr (wpAny_mono ((hbody _ _ s1 HZ c1 (hr.deeper _)).run [] _ _ HZ Q J ht) (fun v s' hq => ?_) fun e s' hq => hq)
      obtain ⟨w', H', J', rv, q⟩ := hq
      exact ⟨w', H', J'.os, J'.bare, J'.base, J'.hok, rv, q⟩
    refine PySem.W.kla_callFunE hr.depth of1 rfl L.co L.gen rfl ⟨c1, oc, vs, t, rfl, hoc, hdc, hvc⟩ ?_
    have hb := hb (X.env.qual ++ "<lambda>") (cloFrom X.env.cells d.scope.names []) dV doc pm (.ref c1) ctv
    unfold DfltAt at hdf
    cases e : d.own with
    | none =>
      rw [e] at hb hdf
      have hb := hb hdf
      rw [hb]
      exact wpAny_pure (fin [] (by rw [e]; rfl) (by simp))
    | some w =>
      obtain ⟨i, y, v⟩ := w
      rw [e] at hb hdf
      obtain ⟨kk, hb1, hb2⟩ := hb
      obtain ⟨T0, rfl, hT0⟩ := hdf
      obtain ⟨_, its, rv, ob, hob, hcl, n, hdt⟩ := I1.hok T0 _ hT0
      obtain ⟨u, rfl, ru⟩ : ∃ u, its = [u] ∧ RelV v u := by
        cases rv with
        | cons h t =>
          cases t
          exact ⟨_, rfl, h⟩
      refine BindsTo.of_defaults (binds := [(y, u)]) rfl hob hdt hb1 (hb2 u) _ _ _ _ ?_
      exact fin [(y, u)] (by rw [e]; exact ⟨hi i y v e, u, ru, rfl⟩) (by
        intro z hz
        rw [List.mem_singleton.mp hz]
        exact L.par y (by rw [e]; rfl))
  have hx : Passes (L2.CX X.prog X.w) ((cxOf CXg X.prog X.w X.K X.mg X.base Ng qg sg g cdg X.A X.stack s H Eg).tr pn xe) E := passes_call tk hW
  refine wpAny_call (codeAny_mono rc fun r s' hq => ?_)
  cases r with
  | error e => exact hx pinsZ σZ HZ s1 e s' I1 hq
  | ok fl =>
    cases fl with
    | ret u => exact I1.after hq
    | next => exact False.elim hq
    | brk => exact False.elim hq
    | cont => exact False.elim hq
end
end Z
set_option maxHeartbeats 1000000
namespace Z
open PySem PySem.Spec PyProof.Rows L2
open LamX (lamCx lamEnv run_ofS CodeO TabB TabS)
structure LmT where
  d : Lm
  t : XK → TE
def tCallL (env : Env) (ds : List LmT) (TT : (XK → Hp → VK → Prop) → Hp → VK → Prop) (te : TE) (σ0 : L2.St) : TE := fun σ H Q => te σ H fun v H1 => ∃ f z, v = .ref f ∧ z ∈ ds ∧ Kept env z.d f H1 ∧ TT (fun E H' Q' => Kept env z.d f H' ∧ z.t E (setOwn z.d.own σ0) H' Q') H1 Q
theorem s_callL {env : Env} {ds : List LmT} {TT : (XK → Hp → VK → Prop) → Hp → VK → Prop} {te : TE} {σ0 σ : L2.St} {H : Hp} {Q : VK} (q : te σ H fun v H1 => ∃ f z, v = .ref f ∧ z ∈ ds ∧ Kept env z.d f H1 ∧ TT (fun E H' Q' => Kept env z.d f H' ∧ z.t E (setOwn z.d.own σ0) H' Q') H1 Q) : tCallL env ds TT te σ0 σ H Q := q
structure LmOk (X : Cx) (k : Nat) (z : LmT) : Prop where
  s : LmS X.env.scope z.d.scope (z.d.own.map (·.2.1))
  i : ∀ i y v, z.d.own = some (i, y, v) → X.N[i]? = some y
  b : BindL z.d
  p : ∀ (A : Around) (outer : List Env) (s : Shared) (H : Hp) (E : XK) (f c' : Addr), Room k (A.deeper (lamEnv X z.d.scope s.heap.objs.size f c')) → PE (lamCx X A outer s H E z.d.scope f c') z.d.body (z.t E)
section
variable {X : Cx} {k : Nat} {ds : List LmT} {TT : (XK → Hp → VK → Prop) → Hp → VK → Prop} {x a : Str} {g : Addr} {pg : Arguments} {bg : List Stmt} {sg : Scope} {Ng : List Str}
theorem callL_at {s0 sY sI : Shared} {H0 HY H : Hp} {envY : Env} {outY : List Env} {exY : List Addr} {fnY : Str → Bool} {calmY : Bool} {pnY pins pinsY : List (Addr × Obj)} {xeY : Value → Shared → Prop} {σ0 σ : L2.St} {ex : List Addr} {z : LmT} {f : Addr} {Q : VK}
    (F : FunD X.K x x pg bg sg [] [] g (fdOf X.K g)) (cal : Cal X.K g [a] []) (Sg : FnScope Ng [a] sg) (hNg : Ng[0]? = some a) (hva : Vis sg a) (hG : ∀ cdv, GivesR X Ng x sg g cdv bg a (X.env.qual ++ "<lambda>") TT) (hr : Room (k + 3) X.A)
    (I0 : Inv X pins σ0 H0 s0) (un : Un (frs X.stack) ex H0 H s0.heap sI.heap) (hex : ∀ z c, X.env.cells.lookup z = some c → c ∉ ex) (hnd : X.N.Nodup) (hz : LmOk X k z)
    (I : Inv { X with s_0 := sY, H_0 := HY, env := envY, outer := outY, ex := exY, fn := fnY, calm := calmY, pn := pnY, xe := xeY } pinsY σ H sI) (hk : Kept X.env z.d f H) (h : TT (fun E H' Q' => Kept X.env z.d f H' ∧ z.t E (setOwn z.d.own σ0) H' Q') H Q) (hd : (a == ("__debug__" : Str)) = false) (hcd : (a == ("__classdict__" : Str)) = false) :
    wpAny (model X.prog X.w) X.A (call (.ref g) [.ref f]) (EP { X with s_0 := sY, H_0 := HY, env := envY, outer := outY, ex := exY, fn := fnY, calm := calmY, pn := pnY, xe := xeY } pinsY σ Q) xeY sI := by
  obtain ⟨oc, od, dV, kV, doc, pm, an, cdv, ct, osl, e, lk, hcg, _, _⟩ := F.ex
  obtain ⟨dz, hb, hdz⟩ := cal.b
  cases hdz
  rw [e] at lk hb
  have hk0 := hk
  obtain ⟨c', dV', hco, _, _⟩ := hk0
  have rc : codeAny (model X.prog X.w) X.A (.call (.ref g) ⟨[.ref f], []⟩) (CR (L2.CX X.prog X.w) X.stack X.prog X.w H sI Q E0) sI := by
    refine run_ofS (N := Ng) (ps := [a]) (us := [.ref f]) (vs := [.ref f]) lk hcg Sg (k := k + 2) hr I.env0 (by
      have := hb sI [.ref f] I.kIn rfl
      simpa using this) (.cons rfl .nil) rfl fun hr' => ?_
    refine hG cdv f c' sI H Q _ (hr'.mono (by omega)) (fun W pn xe E p1 p2 tk hW => ?_) hco h
    have P1 := pe_actK (CXg := L2.CX X.prog X.w) (i := 0) (k := k) (p1 := p1) (p2 := p2) (tb := z.t E) (c' := c') I0 un hex hnd hz.s hz.i hz.b (takes_len tk) (fun cls d σ' H' h l => hW cls d σ' H' l h) (hr'.mono (by omega)) (fun A outer s H c2 hr2 => hz.p A outer s H E f c2 hr2) hNg hva hd hcd
    exact ⟨fun pz sz σz Hz Qz Iz hh => P1.run pz sz σz Hz Qz Iz ⟨hh.1, hh.2.2.1, hh.2.2.2⟩⟩
  refine wpAny_call (codeAny_mono rc fun r s' hq => ?_)
  cases r with
  | error e => exact passL (X := { X with s_0 := sY, H_0 := HY, env := envY, outer := outY, ex := exY, fn := fnY, calm := calmY, pn := pnY, xe := xeY }) pinsY σ H sI e s' I hq
  | ok fl =>
    cases fl with
    | ret u => exact I.after hq
    | next => exact False.elim hq
    | brk => exact False.elim hq
    | cont => exact False.elim hq
theorem z_callLB {e : Expr} {te : TE} {p pos : Pos} {scope : Scope} {cl : List (Str × Addr)} {C : Addr} {fp : List Addr} {pins : List (Addr × Obj)} {σ0 : L2.St} {H0 : Hp} {s0 : Shared} (I0 : Inv X pins σ0 H0 s0) (hfp : ∀ b ∈ fp, FpOk X pins H0 b) (hds : ∀ z ∈ ds, LmOk X k z) (hnd : X.N.Nodup)
    (F : FunD X.K x x pg bg sg [] [] g (fdOf X.K g)) (cal : Cal X.K g [a] []) (hg : Gl (X.blk s0 H0 scope (compEnvC scope cl C X.env) fp) x) (hm : X.mg x = some (.ref g)) (Sg : FnScope Ng [a] sg) (hNg : Ng[0]? = some a) (hva : Vis sg a)
    (hG : ∀ cdv, GivesR X Ng x sg g cdv bg a (X.env.qual ++ "<lambda>") TT) (hr : Room (k + 3) X.A) (he : PE (X.blk s0 H0 scope (compEnvC scope cl C X.env) fp) e te)
    (hst : starEach [e] (compEnvC scope cl C X.env) = (false, eval e (compEnvC scope cl C X.env)) :: starEach [] (compEnvC scope cl C X.env) := by rfl) (hpl : (backTo pos (starEach [] (compEnvC scope cl C X.env))).any (·.1) = false := by rfl) (hbk : backTo pos (starEach [e] (compEnvC scope cl C X.env)) = [(false, eval e (compEnvC scope cl C X.env))] := by rfl)
    (hdb : (x == ("__debug__" : Str)) = false := by decide) (hd : (a == ("__debug__" : Str)) = false := by decide) (hcd : (a == ("__classdict__" : Str)) = false := by decide) :
    PE (X.blk s0 H0 scope (compEnvC scope cl C X.env) fp) (.Call (.Name x p) [e] [] pos) (tCallL X.env ds TT te σ0) := by
  refine ⟨fun pins1 s σ H Q I h => ?_⟩
  refine wpAny_Call_Name_kw (ld_glob I hg hm ?_ hdb)
  refine PySem.W.callWith_K (h₀ := X.base) I.ok.mod.kin F.kp ?_ hst hpl
  rw [hbk]
  refine Calls.spliced_cons (thn (he.run pins1 s σ H _ I h) fun u s1 ⟨v, H1, I1, r1, f, z, ev, hz, hk, q⟩ => ?_)
  subst ev
  obtain rfl : u = Value.ref f := r1
  refine Calls.spliced_nil ⟨I1.kIn, ?_⟩
  have un : Un (frs X.stack) fp H0 H1 s0.heap s1.heap := I1.base
  exact callL_at (X := X) (sY := s0) (HY := H0) (envY := compEnvC scope cl C X.env) (outY := X.stack) (exY := fp) (fnY := fun x => scope.names.lookup x == some .cell) (calmY := X.calm) (pnY := []) (xeY := fun _ _ => False) F cal Sg hNg hva hG hr I0 un (fun y c e k => (hfp c k).2.2.2.2.1 y c e rfl) hnd (hds z hz) I1 hk q hd hcd
end
section
variable {X : Cx}
def tLcKept (wi : TI) (g : TG) (tt : L2.St → TT) (te : L2.St → TE) (vs : List Nat) : TE := fun σ => tLc wi g (tt σ) (te σ) vs σ
theorem s_lcKept {wi : TI} {g : TG} {tt : L2.St → TT} {te : L2.St → TE} {vs : List Nat} {σ : L2.St} {H : Hp} {Q : VK} (q : tLc wi g (tt σ) (te σ) vs σ H Q) : tLcKept wi g tt te vs σ H Q := q
theorem pe_lcKept {elt tg iter : Expr} {ifs : List Expr} {scope : Scope} {own : List (Str × Nat)} {pos : Pos} {wi : TI} {g : TG} {tt : L2.St → TT} {te : L2.St → TE} (calm : X.calm = true) (nd : X.N.Nodup) (pi : PI X tg iter wi) (ok : BlkOk X.N X.env.scope scope own)
    (hg : ∀ (s : Shared) (H : Hp) (C : Addr) (cl : List (Str × Addr)) (fp : List Addr), PG (X.blk s H scope (compEnvC scope cl C X.env) fp) tg g)
    (ht : ∀ (s : Shared) (H : Hp) (C : Addr) (cl : List (Str × Addr)) (fp : List Addr) (pins : List (Addr × Obj)) (σ : L2.St), Inv X pins σ H s → (∀ b ∈ fp, FpOk X pins H b) → PTs (X.blk s H scope (compEnvC scope cl C X.env) fp) ifs (tt σ))
    (he : ∀ (s : Shared) (H : Hp) (C : Addr) (cl : List (Str × Addr)) (fp : List Addr) (pins : List (Addr × Obj)) (σ : L2.St), Inv X pins σ H s → (∀ b ∈ fp, FpOk X pins H b) → PE (X.blk s H scope (compEnvC scope cl C X.env) fp) elt (te σ))
    (hs : ∀ x, foldedSetIterable iter X.env x = pure x := by intro _; rfl) :
    PE X (.ListComp elt [⟨tg, iter, ifs, 0⟩] scope pos) (tLcKept wi g tt te (own.map (·.2))) := by
  refine ⟨fun pins s0 σ H0 Q J0 wish => ?_⟩
  rw [eval_ListComp]
  have has : ∀ y ∈ scope.names, y.2 = .free → ∃ c, X.env.cells.lookup y.1 = some c := fun y hy e => (ok.free y hy e).elim (fun k => J0.ok.has _ (.inl k)) fun k => J0.ok.has _ (.inr k)
  -- what is walked, then the new list at D
  refine wpAny_comprehension_free (use := none) rfl hs (closure_ok has) ok.kind (fun y hy e => by rw [ok.uniq y hy, e]) (thn (pi.run pins s0 σ H0 _ J0 wish) fun xv sa hx => thn hx fun iv sb hb => ?_)
  obtain ⟨it, fp, tn, W0, Hb, ei, Jb, tu, stb, fb, q⟩ := hb
  subst ei
  refine wpAny_newObj_type (newEnv_comp ?_) (by show 0 ≤ sizeLine; decide)
  have Dn : Hb sb.heap.objs.size = none := Jb.hok.fresh (Nat.le_refl _)
  obtain ⟨W, ⟨m0, w0⟩, turn⟩ := q _ Dn
  obtain ⟨sc, esc⟩ : ∃ sc : Shared, ({ sb with heap := sb.heap.push { cls := .type "list", data := .seq ([] : List Value).toArray } } : Shared) = sc := ⟨_, rfl⟩
  have hpc : sc.heap = sb.heap.push { cls := .type "list", data := .seq ([] : List Value).toArray } := by rw [← esc]
  have Jc0 : Inv X pins σ (upd Hb sb.heap.objs.size (.lst [])) sc := by
    rw [← esc]
    exact Jb.laid (t' := sb.toks) (fun b o e => Heap.get?_push_of_some _ e) (Nat.le_refl _) ⟨Nat.zero_le _, [], 0, .nil, Heap.get?_push_size _ rfl⟩
  generalize eHc : upd Hb sb.heap.objs.size (.lst []) = Hc at w0 Jc0
  generalize eD : sb.heap.objs.size = D at *
  have young : ∀ b ∈ fp, b < sb.heap.objs.size := fun b hb => by
    obtain ⟨o, e, _⟩ := tu.obj _ _ stb b hb
    exact Heap.lt_size e
  have fc : ∀ b ∈ fp, FpOk X pins Hc b ∧ b < sc.heap.objs.size := fun b hb => by
    have lt := young b hb
    obtain ⟨z1, z2⟩ := fb b hb
    refine ⟨⟨?_, z2⟩, by rw [hpc, Heap.size_push]; exact Nat.lt_succ_of_lt lt⟩
    rw [← eHc, upd_ne (by rw [← eD]; exact Nat.ne_of_lt lt)]
    exact z1
  have stc : tn 0 sc.heap := tu.keep _ _ _ stb fun b _ o e => by rw [hpc]; exact Heap.get?_push_of_some _ e
  have Jd := block_start Jc0 ok nd fc
  have pg := hg sc Hc sc.heap.objs.size (cellsFrom (sc.heap.objs.size + 1) scope.names (cloFrom X.env.cells scope.names [])) fp
  have pt := ht sc Hc sc.heap.objs.size (cellsFrom (sc.heap.objs.size + 1) scope.names (cloFrom X.env.cells scope.names [])) fp pins σ Jc0 fun b hb => (fc b hb).1
  have pe := he sc Hc sc.heap.objs.size (cellsFrom (sc.heap.objs.size + 1) scope.names (cloFrom X.env.cells scope.names [])) fp pins σ Jc0 fun b hb => (fc b hb).1
  rw [esc]
  show codeAny _ _ (.compStart (.ListComp elt [⟨tg, iter, ifs, 0⟩] scope pos) 0 (.ref it) (.ref D) (compEnvC scope (cellsFrom (sc.heap.objs.size + 1) scope.names (cloFrom X.env.cells scope.names [])) sc.heap.objs.size X.env)) (compPost (model X.prog X.w) X.A X.xe none (EP X pins σ Q) (.ref D) sc.heap.objs.size) { sc with heap := pushCells (sc.heap.push { cls := .type "dict", data := .dict #[] }) scope.names }
  generalize ece : compEnvC scope (cellsFrom (sc.heap.objs.size + 1) scope.names (cloFrom X.env.cells scope.names [])) sc.heap.objs.size X.env = ce at Jd pg pt pe ⊢
  have eL : ce.locals = sc.heap.objs.size := by rw [← ece]; rfl
  have std : tn 0 (pushCells (sc.heap.push { cls := .type "dict", data := .dict #[] }) scope.names) := tu.keep _ _ _ stc fun b _ o e => pushCells_keeps _ _ _ _ (Heap.get?_push_of_some _ e)
  have free_ : ∀ {σ' : L2.St} {H' : Hp} {s' : Shared}, Inv (X.blk sc Hc scope ce fp) [] σ' H' s' → (∀ b ∈ fp, H' b = none) → ∀ b ∈ fp, FpOk (X.blk sc Hc scope ce fp) [] H' b := fun {σ' H' s'} J n b hb =>
    ⟨n b hb, (J.ok.exf b hb).1, J.ok.exfs b hb, .inl hb, fun x c e => (J.ok.exf b hb).2 x c e, fun p hp => absurd (show p ∈ ([] : List (Addr × Obj)) ++ [] from hp) (by simp)⟩
  have loop : codeAny (model X.prog X.w) X.A (.compLoop (.ListComp elt [⟨tg, iter, ifs, 0⟩] scope pos) 0 (.ref it) (.ref D) ce) (compPost (model X.prog X.w) X.A X.xe none (EP X pins σ Q) (.ref D) sc.heap.objs.size) { sc with heap := pushCells (sc.heap.push { cls := .type "dict", data := .dict #[] }) scope.names } := by
    refine compLoop_any (fun n s' => ∃ i H', Inv (X.blk sc Hc scope ce fp) [] (wipe σ (own.map (·.2))) H' s' ∧ tn i s'.heap ∧ (∀ b ∈ fp, H' b = none) ∧ W i n H') (fun n s5 inv => ?_) m0 ⟨0, Hc, Jd, std, fun b hb => (fc b hb).1.1, w0⟩
    obtain ⟨i, H5, J5, st5, n5, w5⟩ := inv
    rcases turn i n H5 w5 with ⟨stop, fin⟩ | ⟨go, Nx, less, step⟩
    · refine thnF (tu.done (X.blk sc Hc scope ce fp) rfl rfl rfl calm i [] s5 _ H5 (fun _ _ => False) J5 (free_ J5 n5) st5 stop) fun r s6 ⟨er, J6⟩ => ?_
      subst er
      -- behind the block: the def's own context again
      have back : Inv X pins σ H5 s6 := Jc0.call' (ch := fp) J6.os J6.base J6.hok J6.bare fun b hb => by
        obtain ⟨⟨_, z2, z3, z4, z5, z6⟩, _⟩ := fc b hb
        exact ⟨z4, z2, z5, z6⟩
      have nL : H5 sc.heap.objs.size = none := by
        have z : H5 ce.locals = none := J6.free
        rwa [eL] at z
      obtain ⟨m, hn, _⟩ := J6.loc
      have hn : s6.heap.Ns ce.locals m := hn
      rw [eL] at hn
      obtain ⟨z0, z1, z2, z3, z4, z5⟩ := Jc0.fpOk (H' := H5) (Nat.le_refl _) nL
      exact ⟨m, hn, fun h'' sm => ⟨.ref D, H5, back.turned (t' := s6.toks) (fun b o hb e => (sm.2 b hb).trans e) z0 z1 z3 z4 z5, rfl, fin⟩⟩
    · refine thnF (tu.item (X.blk sc Hc scope ce fp) rfl rfl rfl calm i [] s5 _ H5 (fun _ _ => False) J5 (free_ J5 n5) st5 go) fun r s6 ⟨u, hr, h6⟩ => ?_
      subst hr
      refine thnF h6 fun _ s7 ⟨xv, H7, J7, r7, y7, st7, n7⟩ => ?_
      refine thnF (pg.run _ s7 _ H7 xv u _ (J7.pinned (free_ J7 n7) (tu.obj _ _ st7)) r7 (step xv H7 y7)) fun _ s8 ⟨σ8, H8, J8, hw, q8⟩ => ?_
      refine thnF (pt.run _ s8 σ8 H8 _ J8 q8) fun b s9 ⟨H9, J9, q9⟩ => ?_
      have close : ∀ {s' : Shared} {H' : Hp}, Inv (X.blk sc Hc scope ce fp) ([] ++ pinsAt fp s7.heap) σ8 H' s' → Nx H' → ∃ m, m < n ∧ ∃ i H', Inv (X.blk sc Hc scope ce fp) [] (wipe σ (own.map (·.2))) H' s' ∧ tn i s'.heap ∧ (∀ b ∈ fp, H' b = none) ∧ W i m H' := fun {s' H'} J nx => by
        obtain ⟨m', lt, w'⟩ := less H' nx
        have stay : ∀ b ∈ fp, ∀ o, s7.heap.get? b = some o → s'.heap.get? b = some o ∧ H' b = none := fun b hb o e => by
          obtain ⟨z1, z2, _⟩ := J.pin (b, o) (List.mem_append_right _ (List.mem_append_right _ (mem_pinsAt hb e)))
          exact ⟨z1, z2⟩
        refine ⟨m', lt, i + 1, H', (J.unpinned (pins := [])).weak (by rw [← wipe_length σ8, hw]) (fun j v e => ?_), tu.keep _ _ _ st7 fun b hb o e => (stay b hb o e).1, fun b hb => ?_, w'⟩
        · rw [← hw] at e
          exact (wipe_some e).1
        · obtain ⟨o, e, _⟩ := tu.obj _ _ st7 b hb
          exact (stay b hb o e).2
      cases b with
      | false =>
        simp only [Bool.false_eq_true, if_false] at q9 ⊢
        exact close J9 q9
      | true =>
        simp only [if_true] at q9 ⊢
        refine thnF (pe.run _ s9 σ8 H9 _ J9 q9) fun zv s10 ⟨yv, H10, J10, r10, acc, eD10, lz, nx⟩ => ?_
        exact app_ok (X := X.blk sc Hc scope ce fp) J10 eD10 lz r10 fun s11 J11 => close J11 nx
  exact codeAny_compStart_list loop (tu.self X.A 0 _ _ _ std loop)
end
end Z
set_option maxHeartbeats 1000000
namespace Z
open PySem PySem.Spec PyProof.Rows L2
open LamX (TabB TabS CodeO)
def stIn : Stmt → Nat → Stmt
  | .For _ _ b _ _, k => b.getD k (.Pass ⟨0, 0, 0, 0⟩)
  | .While _ b _ _, k => b.getD k (.Pass ⟨0, 0, 0, 0⟩)
  | .If _ b _ _, k => b.getD k (.Pass ⟨0, 0, 0, 0⟩)
  | s, _ => s
def noEx : Expr := .Name "" ⟨0, 0, 0, 0⟩
def stEx : Stmt → Expr
  | .Assign _ e _ => e
  | .Expr e _ => e
  | .Return (some e) _ => e
  | .If e _ _ _ => e
  | _ => noEx
def exIn : Expr → Nat → Expr
  | .List es _, k => es.getD k noEx
  | .Tuple es _ _, k => es.getD k noEx
  | .BinOp l _ r _, k => if k = 0 then l else r
  | .BoolOp _ es _, k => es.getD k noEx
  | .Compare l _ cs _, k => if k = 0 then l else cs.getD (k - 1) noEx
  | .Call f as _ _, k => if k = 0 then f else as.getD (k - 1) noEx
  | e, _ => e
def lmAt (e : Expr) (own : Option (Nat × Str × V)) : Lm := match e with
  | .Lambda ps b sc _ => ⟨ps, b, sc, own⟩
  | e => ⟨⟨[], [], none, [], [], none, []⟩, e, { kind := .function, names := [], isGenerator := false, isCoroutine := false }, own⟩
section
variable {X : Cx} {d : Lm}
theorem z_lam0 {c P : Addr} {params : Arguments} {body : Expr} {scope : Scope} {pos : Pos} (d : Lm) (hd : d = ⟨params, body, scope, none⟩) (TB : TabB X.base X.mg c P) (hcode : X.env.code = .ref c) {sc : Scope} (hsc : X.env.scope = sc) (L : LmS sc d.scope none)
    (hdef : defaultsOf params X.env = ([], [])) : PE X (.Lambda params body scope pos) (tLamV X.env P d) := by
  subst hd
  exact z_lamV0 TB hcode hsc L.free hdef
theorem z_lam1 {c P : Addr} {params : Arguments} {body e : Expr} {scope : Scope} {pos : Pos} {i : Nat} {y : Str} {v : V} (d : Lm) (hd : d = ⟨params, body, scope, some (i, y, v)⟩) (TB : TabB X.base X.mg c P) (hcode : X.env.code = .ref c) {sc : Scope} (hsc : X.env.scope = sc) (L : LmS sc d.scope (some y))
    (hdd : params.defaults = [e]) (hk : params.kw_defaults = []) (he : PE X e (tC v)) : PE X (.Lambda params body scope pos) (tLamV X.env P d) := by
  subst hd
  refine z_lamV1 TB hcode hsc L.free hdd hk fun H s pins σ I => thn (he.run pins s σ H (fun x H1 => x = v ∧ H1 = H) I ⟨rfl, rfl⟩) fun u s' ⟨x, H1, I1, r, ex, eH⟩ => ?_
  subst ex eH
  exact ⟨I1, r⟩
theorem own0 {N : List Str} (h : d.own = none) : ∀ i y v, d.own = some (i, y, v) → N[i]? = some y := fun i y v e => by
  rw [h] at e
  cases e
theorem own1 {N : List Str} {j : Nat} {x : Str} {u : V} (h : d.own = some (j, x, u)) (hN : N[j]? = some x) : ∀ i y v, d.own = some (i, y, v) → N[i]? = some y := fun i y v e => by
  rw [h] at e
  cases e
  exact hN
theorem bindL0 (h : d.own = none) (b : ∀ (q : Str) (cl : List (Str × Addr)) (doc pm cv ctv : Value), bindArgs (PySem.W.kdv_fn "<lambda>" q d.ps (.expr d.body) d.scope cl .none doc pm cv ctv) ⟨[], []⟩ = pure []) : BindL d := fun q cl dV doc pm cv ctv => by
  rw [h]
  intro e
  subst e
  exact b q cl doc pm cv ctv
theorem bindL1 {j : Nat} {x : Str} {w : V} (h : d.own = some (j, x, w)) (b : ∀ (q : Str) (cl : List (Str × Addr)) (dV doc pm cv ctv : Value), ∃ k, bindArgs (PySem.W.kdv_fn "<lambda>" q d.ps (.expr d.body) d.scope cl dV doc pm cv ctv) ⟨[], []⟩ = seqItems? dV >>= k ∧ ∀ u : Value, k (some #[u]) = pure [(x, u)]) : BindL d := fun q cl dV doc pm cv ctv => by
  rw [h]
  exact b q cl dV doc pm cv ctv
theorem lms_nil {k : Nat} : ∀ z ∈ ([] : List LmT), LmOk X k z := fun _ h => nomatch h
theorem lms_cons {k : Nat} {z : LmT} {ds : List LmT} (h : LmOk X k z) (t : ∀ z ∈ ds, LmOk X k z) : ∀ y ∈ z :: ds, LmOk X k y := fun y hy => by
  rcases List.mem_cons.mp hy with rfl | hy
  · exact h
  · exact t y hy
theorem lmOk {k : Nat} {t : XK → TE} {sc : Scope} (d : Lm) (hsc : X.env.scope = sc) (s : LmS sc d.scope (d.own.map (·.2.1))) (i : ∀ i y v, d.own = some (i, y, v) → X.N[i]? = some y) (b : BindL d)
    (p : ∀ (A : Around) (outer : List Env) (s : Shared) (H : Hp) (E : XK) (f c' : Addr), Room k (A.deeper (LamX.lamEnv X d.scope s.heap.objs.size f c')) → PE (LamX.lamCx X A outer s H E d.scope f c') d.body (t E)) : LmOk X k ⟨d, t⟩ := by
  subst hsc
  exact ⟨s, i, b, p⟩
end
end Z
set_option maxHeartbeats 1000000
namespace Z
open PySem PySem.Spec PyProof.Rows L2
open He (ga ma)
def fmtV : V → Option Str
  | .str y => if y.length ≤ 1000 then some y else none
  | .int i => if i.natAbs.log2 < 1920 then some (toString i) else none
  | .non => some "None"
  | .bl b => some (if b then "True" else "False")
  | _ => none
end Z
set_option maxHeartbeats 1000000
namespace Z
open PySem PySem.Spec PyProof.Rows L2
def FmtOk (K : Fg) (H : Hp) (v : V) : Prop := (∃ y, fmtV v = some y ∧ y.length ≤ 1000) ∨ ∃ a l, v = .ref a ∧ SqT K H a (l.map V.str) ∧ (∀ y ∈ l, ∀ c ∈ y.cps.toList, c < 16 ^ 8) ∧ fmtCost l + 7 ≤ 1000
theorem FmtOk.same {K : Fg} {H H' : Hp} {v : V} (h : FmtOk K H v) (s : Same H H') : FmtOk K H' v := by
  rcases h with h | ⟨a, l, e, h1, h2, h3⟩
  · exact .inl h
  · exact .inr ⟨a, l, e, s.sqT h1, h2, h3⟩
theorem FmtOk.tk {K : Fg} {H H' : Hp} {v : V} (h : FmtOk K H v) (s : Tk H H') : FmtOk K H' v := by
  rcases h with h | ⟨a, l, e, h1, h2, h3⟩
  · exact .inl h
  · exact .inr ⟨a, l, e, s.sqT h1, h2, h3⟩
def tFmtB (K : Fg) (te : TE) : TE := fun σ H Q => te σ H fun x H1 => FmtOk K H1 x ∧ ∀ y : Str, y.length ≤ 1000 → Q (.str y) H1
theorem pe_fmtB {X : Cx} {e : Expr} {te : TE} {pos : Pos} {k : Nat} (hr : Room k X.A) (he : PE X e te) : PE X (.FormattedValue e (-1) none pos) (tFmtB X.K te) := by
  refine ⟨fun pins s σ H Q I h => ?_⟩
  refine wpAny_FormattedValue_plain (thn (he.run pins s σ H _ I h) fun u s1 ⟨x, H1, I1, rx, hx, q⟩ => ?_)
  rcases hx with ⟨y, hy, hl⟩ | ⟨a, l, rfl, ht, hc, hz⟩
  · cases x with
    | str z =>
      obtain ⟨t, rfl⟩ := rx
      unfold fmtV at hy
      dsimp only at hy
      split at hy
      · rename_i hz
        cases hy
        exact wpAny_formatField_str ⟨.str _, H1, I1, ⟨t, rfl⟩, q _ hl⟩ ⟨.str _, H1, I1.tok _, ⟨_, rfl⟩, q _ hl⟩ (by rw [sizeLine_eq]; omega)
      · cases hy
    | int i =>
      obtain ⟨t, rfl⟩ := rx
      unfold fmtV at hy
      dsimp only at hy
      split at hy
      · rename_i hz
        cases hy
        exact wpAny_formatField_int hz ⟨.str _, H1, I1.tok _, ⟨_, rfl⟩, q _ hl⟩
      · cases hy
    | non =>
      cases rx
      cases hy
      exact wpAny_formatField_none ⟨.str "None", H1, I1.tok _, ⟨_, rfl⟩, q _ hl⟩
    | bl b =>
      cases rx
      cases hy
      exact wpAny_formatField_bool ⟨.str _, H1, I1.tok _, ⟨_, rfl⟩, q _ hl⟩
    | byt b => cases hy
    | flt b => cases hy
    | ref a => cases hy
    | ty n => cases hy
  · obtain rfl : u = Value.ref a := rx
    obtain ⟨its, rv, ⟨o, ho, hcl, n, hd⟩, _⟩ := I1.tuple ht
    have k1 := fmt_piled l hc
    have k2 := fmt_text (l.map reprText)
    have hu := hr.units
    have sz := sizeLine_eq
    refine fmt_tuple (ts := l.map reprText) (by omega) ho hcl hd (repr_all rv fun y hy => ?_) (by rw [sz]; omega) fun m w tk hm => ⟨.str m, H1, I1.tok _, ⟨w, rfl⟩, q m (by omega)⟩
    have k3 := StrLaws.reprText_len y (hc y hy)
    have k4 := fmtCost_mem hy
    rw [sz]
    omega
end Z
set_option maxHeartbeats 1000000
namespace Z
open PySem PySem.Spec PyProof.Rows L2
end Z
set_option maxHeartbeats 1000000
namespace Z
open PySem PySem.Spec PyProof.Rows L2
open LamX (lamCx lamEnv run_ofS CodeO TabB TabS)
def KeptC (d : Lm) (f : Addr) (H : Hp) : Prop := ∃ env, Kept env d f H
theorem KeptC.same {d : Lm} {f : Addr} {H H' : Hp} (h : KeptC d f H) (s : Same H H') : KeptC d f H' := h.elim fun env k => ⟨env, k.same s⟩
theorem KeptC.fr {d : Lm} {f : Addr} {N : List Addr} {H H' : Hp} (h : KeptC d f H) (s : Fr N H H') (n : ∀ a ∈ N, NoE H a) : KeptC d f H' := h.elim fun env k => ⟨env, k.fr s n⟩
end Z
set_option maxHeartbeats 1000000
namespace Z
open PySem PySem.Spec PyProof.Rows L2
open He (ga ma)
section
variable {K : Fg} {σ : L2.St} {H H1 : Hp} {Q : VK} {te tk tv tl td ty : TE} {a : Addr} {xs : List V} {kvs : List (Key × V)} {ea ec ed : L2.St → Hp → Prop} {eb : VK}
theorem s_daugg {rd : V → V → Hp → VK → Prop} (q : td σ H fun x H1 => ty σ H1 fun y H2 => ∃ a v, x = .ref a ∧ DGet H2 a y (some v) ∧ tv σ H2 fun y2 H3 => rd v y2 H3 fun z H4 => ∃ H5, DPut H4 a y z H5 ∧ ea σ H5) : sDAug td ty tv rd (.mk ea eb ec ed) σ H := q
theorem s_add {i j : Int} (q : Q (.int (i + j)) H) : rAdd (.int i) (.int j) H Q := ⟨i, j, rfl, rfl, q⟩
theorem s_disp {trs : List (TE × TE)} (q : ∀ p, H p = none → tPairs trs σ (upd H p (.dK [])) fun ps H2 => H2 p = some (.dK []) ∧ ∃ kvs : List (Key × V), ps = kvs.map (fun kv => (kV kv.1, kv.2)) ∧ kvs.length ≤ 15 ∧ Q (.ref p) (upd H2 p (.dK (mergeK [] kvs)))) : tDisp trs σ H Q := q
theorem s_pnil {R : List (V × V) → Hp → Prop} (q : R [] H) : tPairs [] σ H R := q
theorem s_pcons {R : List (V × V) → Hp → Prop} {trs : List (TE × TE)} (q : tk σ H fun x H1 => tv σ H1 fun y H2 => tPairs trs σ H2 fun ps H3 => R ((x, y) :: ps) H3) : tPairs ((tk, tv) :: trs) σ H R := q
theorem s_setL {p : Addr} {k : Int} {v : V} {j : Nat} {R : Hp → Prop} (h : H p = some (.lst xs)) (e : ixN xs.length k = some j) (q : R (upd H p (.lst (xs.set j v)))) : rSetL (.ref p) (.int k) v H R := ⟨p, xs, k, j, rfl, rfl, h, e, q⟩
theorem s_gsub {to ti : TE} {t : TSet} {v : V} {R : L2.St → Hp → Prop} (q : to σ H fun o H1 => ti σ H1 fun i H2 => t o i v H2 fun H3 => R σ H3) : gSub to ti t v σ H R := q
theorem s_augS {to ti : TE} {tget : V → V → Hp → VK → Prop} {tip : TIp} {tset : TSet} (q : to σ H fun o H1 => ti σ H1 fun i H2 => tget o i H2 fun x H3 => te σ H3 fun y H4 => tip x y H4 fun z H5 => tset o i z H5 fun H6 => ea σ H6) : tAugS to ti te tget tip tset (.mk ea eb ec ed) σ H := q
theorem s_ipI {f : Int → Int → Int} {i j : Int} (q : Q (.int (f i j)) H) : ipI f (.int i) (.int j) H Q := ⟨i, j, rfl, rfl, q⟩
theorem s_cat {b : Addr} {zs : List V} (h : H a = some (.lst xs)) (h2 : H b = some (.lst zs)) (hl : xs.length + zs.length ≤ sizeLine) (q : ∀ p, H p = none → Q (.ref p) (upd H p (.lst (xs ++ zs)))) : rCat (.ref a) (.ref b) H Q := ⟨a, b, xs, zs, rfl, rfl, h, h2, hl, q⟩
theorem s_fldaug {ta : TE} {rd : V → V → Hp → VK → Prop} {f : Str} (q : ta σ H fun x H1 => ∃ a C dx fs v, x = .ref a ∧ H1 a = some (.ins C dx fs) ∧ Cls K C ∧ NoAttr K C f ∧ fs.lookup f = some v ∧
  tv σ H1 fun y H2 => rd v y H2 fun z H3 => ∃ dx' fs', H3 a = some (.ins C dx' fs') ∧ fs'.length < 1000 ∧ ea σ (upd H3 a (.ins C dx' (putF f z fs')))) : sFldAug K ta tv rd f (.mk ea eb ec ed) σ H := q
end
theorem Fr.fresh {A : List Addr} {H H' : Hp} {a : Addr} (f : Fr A H H') (hn : a ∉ A) (h : H' a = none) : H a = none := f.back h
end Z
set_option maxHeartbeats 1000000
namespace Z
open PySem PySem.Spec PyProof.Rows L2
open He (ga ma)
structure Frm where
  ln : Str
  st : Nat
  tk : Nat
  kp : Int
structure Cr where
  frames : List Frm
  limit : Int
  jobs : List (Str × Nat)
abbrev Ev := Str × Str
def dEv (e : Ev) : PyData := .tuple [.str e.1, .str e.2]
def frV (f : Frm) : List V := [.str f.ln, .int f.st, .int f.tk, .int f.kp]
def jbV (j : Str × Nat) : List V := [.str j.1, .int j.2]
def leave (jobs : List (Str × Nat)) (z : Str) : List (Str × Nat) := if (z, 0) ∈ jobs then jobs else jobs ++ [(z, 0)]
def stepFx (P : Pl) (lim : Int) (jobs : List (Str × Nat)) (B : Bd) (s : Str × Key) : Int × List (Str × Nat) × Bd :=
  if s.1 = "bar" then (kI s.2, jobs, B) else if s.1 = "later" then (lim, leave jobs (kS s.2), B) else if s.1 ≠ "await" then (lim, jobs, (B.carry P s).1) else (lim, jobs, B)
def stops (B : Bd) (s : Str × Key) : Bool := decide (s.1 = ("run" : Str)) || (decide (s.1 = ("await" : Str)) && !decide (kI s.2 ∈ B.raised))
def passL (P : Pl) (fs : List Frm) (f : Frm) (lim : Int) (jobs : List (Str × Nat)) (B : Bd) : List (Str × Key) → Cr × Bd × List Ev
  | [] => (⟨fs, f.kp, jobs⟩, B.ended f.ln, [("end", f.ln)])
  | s :: r => if stops B s = true then (⟨fs ++ [f], lim, jobs⟩, B, []) else
    passL P fs { f with st := f.st + 1 } (stepFx P lim jobs B s).1 (stepFx P lim jobs B s).2.1 (stepFx P lim jobs B s).2.2 r
inductive Lsts (H : Hp) : List Addr → List (List V) → Prop
  | nil : Lsts H [] []
  | cons {a : Addr} {xs : List V} {as : List Addr} {xss : List (List V)} : H a = some (.lst xs) → Lsts H as xss → Lsts H (a :: as) (xs :: xss)
section
variable {H H' : Hp}
theorem Lsts.len : ∀ {as : List Addr} {xss : List (List V)}, Lsts H as xss → as.length = xss.length
  | _, _, .nil => rfl
  | _, _, .cons _ t => by rw [List.length_cons, List.length_cons, t.len]
theorem Lsts.keep {A : List Addr} (f : Fr A H H') : ∀ {as : List Addr} {xss : List (List V)}, Lsts H as xss → (∀ a ∈ as, a ∉ A) → Lsts H' as xss
  | _, _, .nil, _ => .nil
  | _, _, .cons h t, n => .cons (f.at h (n _ (by simp))) (t.keep f fun a ha => n a (List.mem_cons_of_mem _ ha))
theorem Lsts.get : ∀ {as : List Addr} {xss : List (List V)} {i : Nat} {a : Addr}, Lsts H as xss → as[i]? = some a → ∃ xs, xss[i]? = some xs ∧ H a = some (.lst xs)
  | _, _, _, _, .nil, h => by simp at h
  | _, _, 0, _, .cons h _, e => by
    simp at e
    subst e
    exact ⟨_, rfl, h⟩
  | _, _, i + 1, _, .cons _ t, e => by
    obtain ⟨xs, h1, h2⟩ := t.get (i := i) (by simpa using e)
    exact ⟨xs, by simpa using h1, h2⟩
theorem Lsts.app : ∀ {as bs : List Addr} {xss yss : List (List V)}, Lsts H as xss → Lsts H bs yss → Lsts H (as ++ bs) (xss ++ yss)
  | _, _, _, _, .nil, s => s
  | _, _, _, _, .cons h t, s => .cons h (t.app s)
theorem Lsts.snoc {as : List Addr} {xss : List (List V)} {x : List V} (h : Lsts H as (xss ++ [x])) : ∃ bs a, as = bs ++ [a] ∧ Lsts H bs xss ∧ H a = some (.lst x) := by
  induction xss generalizing as with
  | nil =>
    cases h with
    | cons h t =>
      cases t
      exact ⟨[], _, rfl, .nil, h⟩
  | cons y yss ih =>
    cases h with
    | cons h t =>
      obtain ⟨bs, a, rfl, h1, h2⟩ := ih t
      exact ⟨_ :: bs, a, rfl, .cons h h1, h2⟩
theorem Lsts.set : ∀ {as : List Addr} {xss : List (List V)} {a : Addr} {xs : List V} (i : Nat), Lsts H as xss → H a = some (.lst xs) → Lsts H (as.set i a) (xss.set i xs)
  | _, _, _, _, _, .nil, _ => .nil
  | _, _, _, _, 0, .cons h t, e => .cons e t
  | _, _, _, _, i + 1, .cons h t, e => .cons h (t.set i e)
theorem Lsts.take : ∀ {as : List Addr} {xss : List (List V)} (n : Nat), Lsts H as xss → Lsts H (as.take n) (xss.take n)
  | _, _, 0, _ => .nil
  | _, _, _ + 1, .nil => .nil
  | _, _, n + 1, .cons h t => .cons h (t.take n)
theorem Lsts.drop : ∀ {as : List Addr} {xss : List (List V)} (n : Nat), Lsts H as xss → Lsts H (as.drop n) (xss.drop n)
  | _, _, 0, h => h
  | _, _, _ + 1, .nil => .nil
  | _, _, n + 1, .cons _ t => t.drop n
theorem Lsts.dp {K : Fg} {α : Type} {f : α → List V} {d : α → List PyData} (hd : ∀ x, DpAll K H (f x) (d x)) : ∀ {as : List Addr} {l : List α}, Lsts H as (l.map f) → DpAll K H (as.map V.ref) (l.map fun x => .list (d x))
  | _, [], .nil => .nil
  | _, _ :: _, .cons h t => .cons (.lst (SqL.of h) (hd _)) (Lsts.dp hd t)
end
structure CA where
  c : Addr
  fr : Addr
  jo : Addr
  fs : List Addr
  js : List Addr
def CA.own (D : CA) : List Addr := D.c :: D.fr :: D.jo :: (D.fs ++ D.js)
def coreF (p fr jo : Addr) (lim : Int) : List (Str × V) := [("plan", .ref p), ("frames", .ref fr), ("limit", .int lim), ("jobs", .ref jo)]
theorem coF_plan {p fr jo : Addr} {lim : Int} : (coreF p fr jo lim).lookup ("plan" : Str) = some (.ref p) := by kernel_rfl
theorem coF_fr {p fr jo : Addr} {lim : Int} : (coreF p fr jo lim).lookup ("frames" : Str) = some (.ref fr) := by kernel_rfl
theorem coF_lim {p fr jo : Addr} {lim : Int} : (coreF p fr jo lim).lookup ("limit" : Str) = some (.int lim) := by kernel_rfl
theorem coF_jo {p fr jo : Addr} {lim : Int} : (coreF p fr jo lim).lookup ("jobs" : Str) = some (.ref jo) := by kernel_rfl
structure CoreAt (K : Fg) (H : Hp) (p : Addr) (D : CA) (C : Cr) : Prop where
  nd : D.own.Nodup
  ins : ∃ dx, H D.c = some (.ins (ga K "Core") dx (coreF p D.fr D.jo C.limit))
  fr : H D.fr = some (.lst (D.fs.map V.ref))
  jo : H D.jo = some (.lst (D.js.map V.ref))
  fs : Lsts H D.fs (C.frames.map frV)
  js : Lsts H D.js (C.jobs.map jbV)
section
variable {K : Fg} {H H' : Hp} {p : Addr} {D : CA} {C : Cr}
theorem CoreAt.keep (h : CoreAt K H p D C) {A : List Addr} (f : Fr A H H') (n : ∀ a ∈ D.own, a ∉ A) : CoreAt K H' p D C := by
  obtain ⟨dx, e⟩ := h.ins
  refine ⟨h.nd, ⟨dx, f.at e (n _ (by simp [CA.own]))⟩, f.at h.fr (n _ (by simp [CA.own])), f.at h.jo (n _ (by simp [CA.own])), h.fs.keep f fun a ha => n a (by simp [CA.own, ha]), h.js.keep f fun a ha => n a (by simp [CA.own, ha])⟩
theorem CoreAt.same (h : CoreAt K H p D C) (s : Same H H') : CoreAt K H' p D C := h.keep (A := []) s.fr (by simp)
structure CA.Sep (D : CA) : Prop where
  cfr : D.c ≠ D.fr
  cjo : D.c ≠ D.jo
  frjo : D.fr ≠ D.jo
  cfs : D.c ∉ D.fs
  cjs : D.c ∉ D.js
  frfs : D.fr ∉ D.fs
  frjs : D.fr ∉ D.js
  jofs : D.jo ∉ D.fs
  jojs : D.jo ∉ D.js
  fsn : D.fs.Nodup
  jsn : D.js.Nodup
  fj : ∀ a ∈ D.fs, a ∉ D.js
theorem CA.Sep.own {D : CA} (h : D.Sep) : D.own.Nodup := by
  simp only [CA.own, List.nodup_cons, List.mem_cons, List.mem_append, not_or]
  exact ⟨⟨h.cfr, h.cjo, h.cfs, h.cjs⟩, ⟨h.frjo, h.frfs, h.frjs⟩, ⟨h.jofs, h.jojs⟩, List.nodup_append.mpr ⟨h.fsn, h.jsn, fun a ha b hb e => h.fj a ha (by rw [e]; exact hb)⟩⟩
end
def EvAt (K : Fg) (H : Hp) (l : Addr) (es : List Ev) : Prop := ∃ xs, H l = some (.lst xs) ∧ DpAll K H xs (es.map dEv)
theorem tupd_dEv (e : Ev) : tupd (dEv e) = true := rfl
theorem EvAt.keep {K : Fg} {H H' : Hp} {l : Addr} {es : List Ev} {A : List Addr} (h : EvAt K H l es) (f : Fr A H H') (n : l ∉ A) : EvAt K H' l es := by
  obtain ⟨xs, h1, h2⟩ := h
  exact ⟨xs, f.at h1 n, h2.tk f.tk (tupds_map tupd_dEv _)⟩
end Z
set_option maxHeartbeats 1000000
namespace Z
open PySem PySem.Spec PyProof.Rows L2
open He (ga ma)
structure JOk (P : Pl) (jobs : List (Str × Nat)) : Prop where
  sub : ∀ j ∈ jobs, j.1 ∈ P.wnames
  pw : jobs.Pairwise fun a b => a.1 = b.1 → a.2 ≠ 0 ∧ b.2 = 0
theorem JOk.nil {P : Pl} : JOk P [] := ⟨by simp, .nil⟩
theorem pw_half {jobs : List (Str × Nat)} (h : jobs.Pairwise fun a b => a.1 = b.1 → a.2 ≠ 0 ∧ b.2 = 0) (p : Str × Nat → Bool) (hp : ∀ a b, p a = true → p b = true → ¬ (a.2 ≠ 0 ∧ b.2 = 0)) : ((jobs.filter p).map (·.1)).Nodup := by
  refine List.Pairwise.map (R := fun a b => p a = true ∧ p b = true ∧ (a.1 = b.1 → a.2 ≠ 0 ∧ b.2 = 0)) _ (fun a b hab e => hp a b hab.1 hab.2.1 (hab.2.2 e)) ?_
  have h1 := List.Pairwise.filter p h
  have h2 : ∀ a ∈ jobs.filter p, p a = true := fun a ha => (List.mem_filter.mp ha).2
  clear h
  generalize jobs.filter p = l at h1 h2
  induction h1 with
  | nil => exact .nil
  | cons hx ht ih =>
    refine .cons (fun b hb => ⟨h2 _ (by simp), h2 b (List.mem_cons_of_mem _ hb), hx b hb⟩) (ih fun a ha => h2 a (List.mem_cons_of_mem _ ha))
theorem JOk.len {P : Pl} (ok : P.Ok) {jobs : List (Str × Nat)} (h : JOk P jobs) : jobs.length ≤ 16 := by
  have w8 : P.wnames.length ≤ 8 := by unfold Pl.wnames; rw [List.length_map]; exact ok.w8
  have k1 : Sub ((jobs.filter fun a => decide (a.2 = 0)).map (·.1)) P.wnames := ⟨pw_half h.pw _ fun a b ha hb => by simp at ha; simp [ha], fun x hx => by
    obtain ⟨j, hj, rfl⟩ := List.mem_map.mp hx
    exact h.sub j (List.mem_filter.mp hj).1⟩
  have k2 : Sub ((jobs.filter fun a => !decide (a.2 = 0)).map (·.1)) P.wnames := ⟨pw_half h.pw _ fun a b ha hb => by simp at hb; simp [hb], fun x hx => by
    obtain ⟨j, hj, rfl⟩ := List.mem_map.mp hx
    exact h.sub j (List.mem_filter.mp hj).1⟩
  have l1 := k1.len
  have l2 := k2.len
  rw [List.length_map] at l1 l2
  have e : jobs.length = (jobs.filter fun a => decide (a.2 = 0)).length + (jobs.filter fun a => !decide (a.2 = 0)).length := by
    have e2 := List.length_eq_countP_add_countP (p := fun a : Str × Nat => decide (a.2 = 0)) (l := jobs)
    rw [← List.countP_eq_length_filter, ← List.countP_eq_length_filter]
    have e3 : (fun a : Str × Nat => decide (¬ (decide (a.2 = 0)) = true)) = fun a => !decide (a.2 = 0) := by
      funext a
      simp
    rw [e3] at e2
    exact e2
  omega
def Stands (P : Pl) (f : Frm) : Prop := ∃ s, (P.ln f.ln).st[f.st]? = some s ∧ (s.1 = "run" ∨ s.1 = "await")
structure FOk (P : Pl) (fs : List Frm) (B : Bd) : Prop where
  nm : ∀ f ∈ fs, f.ln ∈ P.names
  tk : ∀ f ∈ fs, f.ln ∈ B.taken
  nd : (fs.map (·.ln)).Nodup
  st : ∀ f ∈ fs, Stands P f
theorem FOk.len {P : Pl} (ok : P.Ok) {fs : List Frm} {B : Bd} (h : FOk P fs B) : fs.length ≤ 12 := by
  have : Sub (fs.map (·.ln)) P.names := ⟨h.nd, fun x hx => by
    obtain ⟨f, hf, rfl⟩ := List.mem_map.mp hx
    exact h.nm f hf⟩
  have := this.len12 ok
  rwa [List.length_map] at this
structure CSt (K : Fg) (H : Hp) (PD : PA) (P : Pl) (D : CA) (C : Cr) (E : BA) (B : Bd) : Prop where
  pl : PlanAt K H PD P
  co : CoreAt K H PD.p D C
  bd : BoardAt K H PD.p E B
  pd : ∀ a ∈ PD.own, a ∉ D.own ∧ a ∉ E.own
  de : ∀ a ∈ D.own, a ∉ E.own
  bok : B.Ok P
  jok : JOk P C.jobs
structure Chg (H : Hp) (D : CA) (E : BA) (H' : Hp) (D' : CA) : Prop where
  fr : Fr (D.own ++ E.own) H H'
  c : D'.c = D.c
  own : ∀ a ∈ D'.own, a ∈ D.own ∨ H a = none
theorem Chg.refl {H : Hp} {D : CA} {E : BA} : Chg H D E H D := ⟨Fr.refl, rfl, fun _ h => .inl h⟩
theorem Chg.trans {H H1 H2 : Hp} {D D1 D2 : CA} {E : BA} (x : Chg H D E H1 D1) (y : Chg H1 D1 E H2 D2) : Chg H D E H2 D2 := by
  refine ⟨⟨fun a o h n => ?_, fun a h => x.fr.back (y.fr.back h)⟩, y.c.trans x.c, fun a ha => ?_⟩
  · refine y.fr.1 a o (x.fr.1 a o h n) ?_
    rcases n with n | n
    · refine .inl fun z => n ?_
      rcases List.mem_append.mp z with z | z
      · rcases x.own a z with z | z
        · exact List.mem_append_left _ z
        · rw [h] at z
          cases z
      · exact List.mem_append_right _ z
    · exact .inr n
  · rcases y.own a ha with h | h
    · exact x.own a h
    · exact .inr (x.fr.back h)
theorem PlanAt.ex {K : Fg} {H : Hp} {D : PA} {P : Pl} (h : PlanAt K H D P) : ∀ a ∈ D.own, H a ≠ none := by
  obtain ⟨_, _, _, h1, _⟩ := h.ins
  obtain ⟨_, h2, _⟩ := h.rows.at_
  obtain ⟨_, h3, _⟩ := h.works.at_
  simp [PA.own, h1, h2, h3]
theorem BoardAt.ex {K : Fg} {H : Hp} {p : Addr} {D : BA} {B : Bd} (h : BoardAt K H p D B) : ∀ a ∈ D.own, H a ≠ none := by
  obtain ⟨_, h1⟩ := h.ins
  simp [BA.own, h1, h.sh, h.wa, h.hi, h.ta, h.ra, h.jo]
theorem Lsts.ex {H : Hp} : ∀ {as : List Addr} {xss : List (List V)}, Lsts H as xss → ∀ a ∈ as, H a ≠ none
  | _, _, .nil, _, h => by simp at h
  | _, _, .cons e t, a, h => by
    rcases List.mem_cons.mp h with rfl | h
    · simp [e]
    · exact t.ex a h
theorem CoreAt.ex {K : Fg} {H : Hp} {p : Addr} {D : CA} {C : Cr} (h : CoreAt K H p D C) : ∀ a ∈ D.own, H a ≠ none := by
  obtain ⟨_, h1⟩ := h.ins
  intro a ha
  simp only [CA.own, List.mem_cons, List.mem_append] at ha
  rcases ha with rfl | rfl | rfl | ha | ha
  · simp [h1]
  · simp [h.fr]
  · simp [h.jo]
  · exact h.fs.ex a ha
  · exact h.js.ex a ha
section
variable {K : Fg} {H H' : Hp} {PD : PA} {P : Pl} {D D' : CA} {C C' : Cr} {E : BA} {B B' : Bd}
theorem CSt.same (h : CSt K H PD P D C E B) (s : Same H H') : CSt K H' PD P D C E B := ⟨h.pl.same s, h.co.same s, h.bd.same s, h.pd, h.de, h.bok, h.jok⟩
theorem Chg.same (s : Same H H') : Chg H D E H' D := ⟨s.fr, rfl, fun _ h => .inl h⟩
end
end Z
set_option maxHeartbeats 1000000
namespace Z
open PySem PySem.Spec PyProof.Rows L2
open He (ga ma)
theorem StepIs.carry {P : Pl} {s : Str × Key} (h : StepIs P s) (h1 : s.1 ≠ "run") (h2 : s.1 ≠ "bar") (h3 : s.1 ≠ "later") (h4 : s.1 ≠ "await") : CarryIs P s := by
  cases h with
  | run i _ _ => exact absurd rfl h1
  | bar i _ _ => exact absurd rfl h2
  | later z _ => exact absurd rfl h3
  | flag w i hm h0 h7 =>
    refine .inr ⟨?_, i, rfl, h0, h7⟩
    simp only [List.mem_cons, List.not_mem_nil, or_false] at hm ⊢
    rcases hm with rfl | rfl | rfl
    · exact .inl rfl
    · exact .inr rfl
    · exact absurd rfl h4
  | line w z hm hz _ => exact .inl ⟨hm, z, rfl, hz⟩
structure PassOk (P : Pl) (r : Cr × Bd × List Ev) : Prop where
  bok : r.2.1.Ok P
  jok : JOk P r.1.jobs
  fok : FOk P r.1.frames r.2.1
theorem FOk.taken {P : Pl} {fs : List Frm} {B B' : Bd} (h : FOk P fs B) (e : B'.taken = B.taken) : FOk P fs B' := ⟨h.nm, fun f hf => by rw [e]; exact h.tk f hf, h.nd, h.st⟩
theorem FOk.snoc {P : Pl} {fs : List Frm} {f : Frm} {B : Bd} (h : FOk P fs B) (h1 : f.ln ∈ P.names) (h2 : f.ln ∈ B.taken) (h3 : f.ln ∉ fs.map (·.ln)) (h4 : Stands P f) : FOk P (fs ++ [f]) B := by
  refine ⟨fun g hg => ?_, fun g hg => ?_, ?_, fun g hg => ?_⟩
  · rcases List.mem_append.mp hg with hg | hg
    · exact h.nm g hg
    · rw [List.mem_singleton.mp hg]; exact h1
  · rcases List.mem_append.mp hg with hg | hg
    · exact h.tk g hg
    · rw [List.mem_singleton.mp hg]; exact h2
  · rw [List.map_append, List.nodup_append]
    refine ⟨h.nd, by simp, fun a ha b hb e => ?_⟩
    rw [List.map_singleton, List.mem_singleton] at hb
    subst hb
    subst e
    exact h3 ha
  · rcases List.mem_append.mp hg with hg | hg
    · exact h.st g hg
    · rw [List.mem_singleton.mp hg]; exact h4
theorem FOk.init {P : Pl} {fs : List Frm} {f : Frm} {B : Bd} (h : FOk P (fs ++ [f]) B) : FOk P fs B ∧ f.ln ∈ P.names ∧ f.ln ∈ B.taken ∧ f.ln ∉ fs.map (·.ln) ∧ Stands P f := by
  have hn := h.nd
  rw [List.map_append, List.nodup_append] at hn
  refine ⟨⟨fun g hg => h.nm g (List.mem_append_left _ hg), fun g hg => h.tk g (List.mem_append_left _ hg), hn.1, fun g hg => h.st g (List.mem_append_left _ hg)⟩, h.nm f (by simp), h.tk f (by simp), fun hm => ?_, h.st f (by simp)⟩
  exact hn.2.2 _ hm f.ln (by simp) rfl
def left1 (P : Pl) (f : Frm) : Nat := (P.ln f.ln).st.length - f.st + 1
def left (P : Pl) (fs : List Frm) : Nat := (fs.map (left1 P)).sum
end Z
set_option maxHeartbeats 1000000
namespace Z
open PySem PySem.Spec PyProof.Rows L2
open He (ga ma)
section
variable {K : Fg} {H H' : Hp} {a p : Addr} {o : HO} {xs : List V} {v : V} {d : PyData} {ds : List PyData}
theorem at_same (s : Same H H') (h : H a = some o) : H' a = some o := s a o h
theorem sqT_same (s : Same H H') (h : SqT K H a xs) : SqT K H' a xs := s.sqT h
theorem sqL_same (s : Same H H') (h : SqL K H a xs) : SqL K H' a xs := s.seq h
theorem dp_same (s : Same H H') (h : Dp K H v d) : Dp K H' v d := h.same s
theorem dpA_same (s : Same H H') (h : DpAll K H xs ds) : DpAll K H' xs ds := h.same s
theorem pl_same {D : PA} {P : Pl} (s : Same H H') (h : PlanAt K H D P) : PlanAt K H' D P := h.same s
theorem bd_same {D : BA} {B : Bd} (s : Same H H') (h : BoardAt K H p D B) : BoardAt K H' p D B := h.same s
theorem co_same {D : CA} {C : Cr} (s : Same H H') (h : CoreAt K H p D C) : CoreAt K H' p D C := h.same s
theorem cst_same {PD : PA} {P : Pl} {D : CA} {C : Cr} {E : BA} {B : Bd} (s : Same H H') (h : CSt K H PD P D C E B) : CSt K H' PD P D C E B := h.same s
theorem ev_same {l : Addr} {es : List Ev} (s : Same H H') (h : EvAt K H l es) : EvAt K H' l es := h.keep (A := []) s.fr (by simp)
end
theorem at0 {a : V} {r : List V} : atI (a :: r) 0 = some a := at_of (j := 0) rfl rfl
theorem at1 {a b : V} {r : List V} : atI (a :: b :: r) 1 = some b := at_of (j := 1) rfl rfl
theorem at2 {a b c : V} {r : List V} : atI (a :: b :: c :: r) 2 = some c := at_of (j := 2) rfl rfl
theorem at3 {a b c d : V} {r : List V} : atI (a :: b :: c :: d :: r) 3 = some d := at_of (j := 3) rfl rfl
theorem at4 {a b c d e : V} {r : List V} : atI (a :: b :: c :: d :: e :: r) 4 = some e := at_of (j := 4) rfl rfl
end Z
set_option maxHeartbeats 1000000
namespace Z
open PySem PySem.Spec PyProof.Rows L2
open He (ga ma)
structure COk (P : Pl) (C : Cr) (B : Bd) : Prop where
  bok : B.Ok P
  jok : JOk P C.jobs
  fok : FOk P C.frames B
theorem PassOk.cok {P : Pl} {r : Cr × Bd × List Ev} (h : PassOk P r) : COk P r.1 r.2.1 := ⟨h.bok, h.jok, h.fok⟩
theorem FOk.inj {P : Pl} {fs : List Frm} {f g : Frm} {B : Bd} (h : FOk P (fs ++ [f]) B) (e : g.ln = f.ln) (hs : Stands P g) : FOk P (fs ++ [g]) B := by
  obtain ⟨h1, h2, h3, h4, h5⟩ := h.init
  exact h1.snoc (by rw [e]; exact h2) (by rw [e]; exact h3) (by rw [e]; exact h4) hs
theorem left_le {P : Pl} (ok : P.Ok) {fs : List Frm} (h : ∀ f ∈ fs, f.ln ∈ P.names) : left P fs ≤ 9 * fs.length := by
  unfold left
  induction fs with
  | nil => exact Nat.le_refl _
  | cons f fs ih =>
    have h1 := ok.steps8 (ok.ln_mem (h f (by simp))).1
    have h2 := ih fun g hg => h g (List.mem_cons_of_mem _ hg)
    rw [List.map_cons, List.sum_cons, List.length_cons]
    have : left1 P f ≤ 9 := by unfold left1; omega
    omega
section
variable {K : Fg} {σ : L2.St} {H H1 : Hp} {Q : VK} {g : TG} {tt : TT} {te : TE} {vs : List Nat} {a : Addr} {xs : List V} {α : Type} {l : List α} {da : α → PyData}
def LcE (K : Fg) (g : TG) (tt : TT) (te : TE) (vs : List Nat) (σ : L2.St) (Q : VK) (us : List V) (H1 : Hp) : Prop := ∃ a xs, us = [.ref a] ∧ SqL K H1 a xs ∧ LcQ (Ite K a) g tt te vs σ Q H1
theorem s_lcE {ta : TA} (q : ta σ H fun us H1 => LcE K g tt te vs σ Q us H1) : tLc (iEnum K ta) g tt te vs σ H Q := q
end
section
variable {K : Fg} {σ : L2.St} {H : Hp} {Q : VK} {a : Addr} {xs : List V}
theorem s_sl {r : V → Option Int → Option Int → Hp → VK → Prop} {te : TE} {tl th : TO} (q : te σ H fun x H1 => tl σ H1 fun l H2 => th σ H2 fun u H3 => r x l u H3 Q) : L2.tSl r te tl th σ H Q := q
theorem s_nop {R : Option Int → Hp → Prop} (q : R none H) : tNoPart σ H R := q
theorem s_part {R : Option Int → Hp → Prop} {t : TE} (q : t σ H fun x H1 => ∃ i, x = .int i ∧ R (some i) H1) : tPart t σ H R := q
theorem s_slL {lo hi : Option Int} (h : SqL K H a xs) (q : ∀ p, H p = none → Q (.ref p) (upd H p (.lst (cutV xs lo hi)))) : rSlL K (.ref a) lo hi H Q := ⟨a, xs, rfl, h, q⟩
theorem cut_take (xs : List V) (k : Nat) : cutV xs none (some (k : Int)) = xs.take k := by
  unfold cutV
  rw [HT.sIx_none, HT.sIx_nat, List.drop_zero, Nat.sub_zero]
  by_cases h : k ≤ xs.length
  · rw [Nat.min_eq_left h]
  · rw [Nat.min_eq_right (by omega), List.take_of_length_le (by omega), List.take_of_length_le (by omega)]
theorem cut_drop (xs : List V) (k : Nat) : cutV xs (some (k : Int)) none = xs.drop k := by
  unfold cutV
  rw [HT.sIx_none, HT.sIx_nat]
  by_cases h : k ≤ xs.length
  · rw [Nat.min_eq_left h, List.take_of_length_le (by rw [List.length_drop]; omega)]
  · rw [Nat.min_eq_right (by omega), List.drop_of_length_le (by omega), List.drop_of_length_le (by omega), List.take_nil]
end
end Z
set_option maxHeartbeats 1000000
namespace Z
open PySem PySem.Spec PyProof.Rows L2
open He (ga ma)
theorem while_e {c : TT} {tb : TS} {D : Ends} {σ : L2.St} {H : Hp} (Ex : L2.St → Hp → Prop) (hx : ∀ σ H, Ex σ H → D.nx σ H) (h : (∀ σ H, Ex σ H → D.nx σ H) → tWhile c tb D σ H) : tWhile c tb D σ H := h hx
theorem EvAt.ne {K : Fg} {H : Hp} {l : Addr} {es : List Ev} (h : EvAt K H l es) : H l ≠ none := by
  obtain ⟨xs, e, _⟩ := h
  rw [e]
  simp
theorem EvAt.len {K : Fg} {H : Hp} {l : Addr} {es : List Ev} (h : EvAt K H l es) : ∃ xs, H l = some (.lst xs) ∧ xs.length = es.length ∧ DpAll K H xs (es.map dEv) := by
  obtain ⟨xs, e, d⟩ := h
  exact ⟨xs, e, by rw [d.len, List.length_map], d⟩
theorem COk.len {P : Pl} (ok : P.Ok) {C : Cr} {B : Bd} (h : COk P C B) : left P C.frames ≤ 108 := by
  have h1 := left_le ok h.fok.nm
  have h2 := h.fok.len ok
  omega
end Z
set_option maxHeartbeats 1000000
namespace Z
open PySem PySem.Spec PyProof.Rows L2
open He (ga ma)
structure Sg where
  B : Bd
  C : Cr
  time : Int
  sums : List (Str × Int)
def sumKeys : List Str := ["call", "spun", "work", "idle"]
def Sg.start (P : Pl) : Sg := ⟨⟨[], [], [], [], [], P.order.map fun z => (z, 0)⟩, ⟨[], 0, []⟩, 0, sumKeys.map fun k => (k, 0)⟩
def Sg.ring (P : Pl) (G : Sg) (z : Str) : Sg := { G with B := (G.B.ring P z).1 }
structure SA where
  s : Addr
  su : Addr
  PD : PA
  D : CA
  E : BA
def SA.own (A : SA) : List Addr := A.s :: A.su :: (A.D.own ++ A.E.own)
def singF (A : SA) (time : Int) : List (Str × V) := [("plan", .ref A.PD.p), ("board", .ref A.E.b), ("core", .ref A.D.c), ("time", .int time), ("sums", .ref A.su)]
theorem sgF_plan {A : SA} {t : Int} : (singF A t).lookup ("plan" : Str) = some (.ref A.PD.p) := by kernel_rfl
theorem sgF_board {A : SA} {t : Int} : (singF A t).lookup ("board" : Str) = some (.ref A.E.b) := by kernel_rfl
theorem sgF_core {A : SA} {t : Int} : (singF A t).lookup ("core" : Str) = some (.ref A.D.c) := by kernel_rfl
theorem sgF_time {A : SA} {t : Int} : (singF A t).lookup ("time" : Str) = some (.int t) := by kernel_rfl
theorem sgF_sums {A : SA} {t : Int} : (singF A t).lookup ("sums" : Str) = some (.ref A.su) := by kernel_rfl
structure SgAt (K : Fg) (H : Hp) (A : SA) (P : Pl) (G : Sg) : Prop where
  cst : CSt K H A.PD P A.D G.C A.E G.B
  fok : FOk P G.C.frames G.B
  ins : ∃ dx, H A.s = some (.ins (ga K "Single") dx (singF A G.time))
  su : H A.su = some (.dK (joinK G.sums))
  sk : G.sums.map (·.1) = sumKeys
  ssu : A.s ≠ A.su
  sn : A.s ∉ A.PD.own ∧ A.s ∉ A.D.own ∧ A.s ∉ A.E.own
  sun : A.su ∉ A.PD.own ∧ A.su ∉ A.D.own ∧ A.su ∉ A.E.own
structure ChS (H : Hp) (A : SA) (H' : Hp) (A' : SA) : Prop where
  fr : Fr A.own H H'
  s : A'.s = A.s
  su : A'.su = A.su
  PD : A'.PD = A.PD
  E : A'.E = A.E
  c : A'.D.c = A.D.c
  own : ∀ a ∈ A'.own, a ∈ A.own ∨ H a = none
theorem ChS.refl {H : Hp} {A : SA} : ChS H A H A := ⟨Fr.refl, rfl, rfl, rfl, rfl, rfl, fun _ h => .inl h⟩
theorem ChS.same {H H' : Hp} {A : SA} (s : Same H H') : ChS H A H' A := ⟨s.fr, rfl, rfl, rfl, rfl, rfl, fun _ h => .inl h⟩
theorem Fr.seq {M N : List Addr} {H H1 H2 : Hp} (x : Fr M H H1) (y : Fr N H1 H2) (h : ∀ a ∈ N, a ∈ M ∨ H a = none) : Fr M H H2 := by
  refine ⟨fun a o e n => y.1 a o (x.1 a o e n) ?_, fun a e => x.back (y.back e)⟩
  rcases n with n | n
  · refine .inl fun z => ?_
    rcases h a z with z | z
    · exact n z
    · rw [e] at z
      cases z
  · exact .inr n
theorem ChS.trans {H H1 H2 : Hp} {A A1 A2 : SA} (x : ChS H A H1 A1) (y : ChS H1 A1 H2 A2) : ChS H A H2 A2 := by
  refine ⟨x.fr.seq y.fr x.own, y.s.trans x.s, y.su.trans x.su, y.PD.trans x.PD, y.E.trans x.E, y.c.trans x.c, fun a ha => ?_⟩
  rcases y.own a ha with h | h
  · exact x.own a h
  · exact .inr (x.fr.back h)
section
variable {K : Fg} {H H' : Hp} {A : SA} {P : Pl} {G : Sg}
theorem SgAt.keep (h : SgAt K H A P G) {N : List Addr} (f : Fr N H H') (n : ∀ a ∈ A.own, a ∉ N) (n2 : ∀ a ∈ A.PD.own, a ∉ N) : SgAt K H' A P G := by
  obtain ⟨dx, e⟩ := h.ins
  have hD : ∀ a ∈ A.D.own, a ∉ N := fun a ha => n a (by simp [SA.own, ha])
  have hE : ∀ a ∈ A.E.own, a ∉ N := fun a ha => n a (by simp [SA.own, ha])
  exact ⟨⟨h.cst.pl.keep f n2, h.cst.co.keep f hD, h.cst.bd.keep f hE, h.cst.pd, h.cst.de, h.cst.bok, h.cst.jok⟩, h.fok, ⟨dx, f.at e (n _ (by simp [SA.own]))⟩, f.at h.su (n _ (by simp [SA.own])), h.sk, h.ssu, h.sn, h.sun⟩
theorem SgAt.same (h : SgAt K H A P G) (s : Same H H') : SgAt K H' A P G := h.keep (N := []) s.fr (by simp) (by simp)
theorem SgAt.ex (h : SgAt K H A P G) : ∀ a ∈ A.own, H a ≠ none := by
  obtain ⟨dx, e⟩ := h.ins
  intro a ha
  simp only [SA.own, List.mem_cons, List.mem_append] at ha
  rcases ha with rfl | rfl | ha | ha
  · simp [e]
  · simp [h.su]
  · exact h.cst.co.ex a ha
  · exact h.cst.bd.ex a ha
theorem sg_same (s : Same H H') (h : SgAt K H A P G) : SgAt K H' A P G := h.same s
end
theorem s_make {C : Addr} {sp : Sp} {dvs : List V} {E : XK} {t : TA} {σ : L2.St} {H : Hp} {Q : VK} (q : t σ H fun vs H1 => ∀ x dx, H1 x = none → H1 dx = none → dx ≠ x →
  sp (.ref x :: (vs ++ dvs)) (upd (upd H1 dx (.own x)) x (.ins C dx [])) (fun v H2 => v = .non ∧ Q (.ref x) H2) E) : tMake C sp dvs E t σ H Q := q
theorem mkS {H H2 : Hp} {x dx : Addr} {o u : HO} (hx : H x = none) (hd : H dx = none) (e : upd (upd H dx o) x u = H2) : Same H H2 := by
  subst e
  intro a v h
  rw [upd_ne (ne_of_none h hx), upd_ne (ne_of_none h hd)]
  exact h
theorem mkE {H H2 : Hp} {x dx : Addr} {o u : HO} (e : upd (upd H dx o) x u = H2) : H2 x = some u := by
  subst e
  exact upd_same
end Z
set_option maxHeartbeats 1000000
namespace Z
open PySem PySem.Spec PyProof.Rows L2
open He (ga ma)
def dJob (j : Str × Nat) : PyData := .tuple [.str j.1, .int j.2]
theorem Fr.sqL {K : Fg} {N : List Addr} {H H' : Hp} {a : Addr} {xs : List V} (f : Fr N H H') (h : SqL K H a xs) (n : a ∉ N) : SqL K H' a xs := by
  rcases h with (h | ⟨o, h⟩) | h
  · exact .inl (.inl (f.at h n))
  · exact .inl (.inr ⟨o, f.at h n⟩)
  · exact .inr h
theorem Fr.scr {K : Fg} {H H' : Hp} {r a : Addr} {xs : List V} (f : Fr [r] H H') (h : SqL K H a xs) (n : a ≠ r ∨ ∀ H, SqL K H a xs) : SqL K H' a xs := n.elim (fun n => f.sqL h (by simp [n])) fun z => z H'
structure RowAt (K : Fg) (H : Hp) (r sc : Addr) (ns : List Int) : Prop where
  row : ∃ i seed rest : Int, H r = some (.lst [.ref sc, .int i, .int seed, .int rest]) ∧ 0 ≤ i ∧ 0 ≤ seed ∧ seed < 2147483647
  scr : SqL K H sc (ns.map V.int)
  ne : sc ≠ r ∨ ∀ H, SqL K H sc (ns.map V.int)
theorem RowAt.keep {K : Fg} {H H' : Hp} {r sc : Addr} {ns : List Int} {N : List Addr} (h : RowAt K H r sc ns) (f : Fr N H H') (n1 : r ∉ N) (n2 : sc ∉ N ∨ ∀ H, SqL K H sc (ns.map V.int)) : RowAt K H' r sc ns := by
  obtain ⟨i, seed, rest, e, h1⟩ := h.row
  exact ⟨⟨i, seed, rest, f.at e n1, h1⟩, n2.elim (f.sqL h.scr) fun z => z H', h.ne⟩
theorem RowAt.same {K : Fg} {H H' : Hp} {r sc : Addr} {ns : List Int} (h : RowAt K H r sc ns) (s : Same H H') : RowAt K H' r sc ns := h.keep (N := []) s.fr (by simp) (.inl (by simp))
theorem RowAt.ex {K : Fg} {H : Hp} {r sc : Addr} {ns : List Int} (h : RowAt K H r sc ns) : H r ≠ none := by
  obtain ⟨i, seed, rest, e, _⟩ := h.row
  rw [e]
  simp
theorem row_same {K : Fg} {H H' : Hp} {r sc : Addr} {ns : List Int} (s : Same H H') (h : RowAt K H r sc ns) : RowAt K H' r sc ns := h.same s
end Z
set_option maxHeartbeats 1000000
namespace Z
open PySem PySem.Spec PyProof.Rows L2
open He (ga ma)
def plainW : HO → Bool
  | .tbl _ => false
  | .ext _ => false
  | _ => true
def NoW (H : Hp) (a : Addr) : Prop := ∀ o, H a = some o → plainW o = true
theorem NoW.of {H : Hp} {a : Addr} {o : HO} (h : H a = some o) (k : plainW o = true) : NoW H a := fun o2 h2 => by
  rw [h] at h2
  cases h2
  exact k
theorem NoW.none {H : Hp} {a : Addr} (h : H a = none) : NoW H a := fun o2 h2 => by
  rw [h] at h2
  cases h2
theorem tabs_kW {H H' : Hp} {N : List Addr} {t : Addr} {q : Str} (h : LamX.TabS H t q) (f : Fr N H H') (n : ∀ a ∈ N, NoW H a) : LamX.TabS H' t q := by
  obtain ⟨ps, e, h2, h3⟩ := h
  refine ⟨ps, f.at e fun z => ?_, h2, fun pos cv k => ?_⟩
  · exact absurd (n _ z _ e) (by simp [plainW])
  · obtain ⟨c, e1, e2⟩ := h3 pos cv k
    refine ⟨c, e1, f.at e2 fun z => ?_⟩
    exact absurd (n _ z _ e2) (by simp [plainW, LamX.CodeO])
theorem RowAt.noW {K : Fg} {H : Hp} {r sc : Addr} {ns : List Int} (h : RowAt K H r sc ns) : NoW H r := by
  obtain ⟨_, _, _, e, _⟩ := h.row
  exact NoW.of e rfl
theorem RowAt.tabW {K : Fg} {H H' : Hp} {r sc t : Addr} {ns : List Int} {q : Str} (h : RowAt K H r sc ns) (x : LamX.TabS H t q) (f : Fr [t] H H') : RowAt K H' r sc ns := by
  obtain ⟨ps, e, _⟩ := x
  refine h.keep f (fun z => ?_) ?_
  · have := h.noW _ (by rw [List.mem_singleton.mp z]; exact e)
    simp [plainW] at this
  · rcases h.scr with (k | ⟨o, k⟩) | k
    · exact .inl fun z => by rw [List.mem_singleton.mp z, e] at k; cases k
    · exact .inl fun z => by rw [List.mem_singleton.mp z, e] at k; cases k
    · exact .inr fun _ => .inr k
end Z
set_option maxHeartbeats 1000000
namespace Z
open PySem PySem.Spec PyProof.Rows L2
end Z
set_option maxHeartbeats 3200000
namespace Z
open PySem PySem.Spec PyProof.Rows L2 PySem.Froz
theorem full_nodup : ∀ {l m : List Int}, l.Nodup → (∀ x ∈ l, x ∈ m) → m.length ≤ l.length → m.Nodup ∧ ∀ y ∈ m, y ∈ l
  | [], m, _, _, h => by
    have : m = [] := List.length_eq_zero_iff.mp (by simpa using h)
    subst this
    exact ⟨.nil, fun y hy => hy⟩
  | x :: l, m, h, s, hl => by
    rw [List.nodup_cons] at h
    have hx : x ∈ m := s x (by simp)
    have el := List.length_erase_of_mem hx
    have hp := List.length_pos_of_mem hx
    rw [List.length_cons] at hl
    obtain ⟨i1, i2⟩ := full_nodup (l := l) (m := m.erase x) h.2 (fun y hy => (List.mem_erase_of_ne (fun e => h.1 (by rw [← e]; exact hy))).mpr (s y (by simp [hy]))) (by omega)
    have pm := List.perm_cons_erase hx
    refine ⟨pm.nodup_iff.mpr (List.nodup_cons.mpr ⟨fun z => h.1 (i2 x z), i1⟩), fun y hy => ?_⟩
    rcases List.mem_cons.mp (pm.mem_iff.mp hy) with rfl | z
    · simp
    · exact List.mem_cons_of_mem _ (i2 y z)
theorem setR_nodup {w : World} {h : Heap} {a : Addr} {ns : List Int} {c : Nat} (R : SetR w h a (fun j => decide (j ∈ ns)) c) (hc : ns.length ≤ c) : ns.Nodup := by
  obtain ⟨o, es, ep, t, _, _, _, _, nd, hm, _, _, hn, _⟩ := R
  refine (full_nodup nd (fun x hx => of_decide_eq_true ((hm x).mpr hx)) ?_).1
  rw [List.length_map, show es.toList.length = es.size from Array.length_toList, hn]
  exact hc
section
variable {X : Cx}
def rSetC (K : Fg) (w : World) : List V → Hp → VK → Prop := fun vs H Q => ∃ (a : Addr) (ns : List Int), vs = [V.ref a] ∧ SqL K H a (ns.map V.int) ∧ ns.length < 4000 ∧ ∀ p c, H p = none → c ≤ ns.length → (ns.length ≤ c ↔ ns.Nodup) → Q (.ref p) (upd H p (SetO w p (fun j => decide (j ∈ ns)) c))
theorem cr_setC (hc : X.calm = true) : CallR X (.type "set") (rSetC X.K X.w) := by
  intro pins s σ H vs us Q I r h
  obtain ⟨a, ns, rfl, hq, hz, q⟩ := h
  rw [Vals.ref1 r]
  have hn : H s.heap.objs.size = none := I.hok.fresh (Nat.le_refl _)
  obtain ⟨its, rv, pl, _⟩ := I.list hq
  refine call_set_i (I.ok.hd hc) pl.isList (by simpa using ints_of_vals rv) (by unfold scanBound; omega) fun h' tk c q1 q2 k => ?_
  exact ⟨.ref _, upd H s.heap.objs.size (SetO X.w s.heap.objs.size (fun j => decide (j ∈ ns)) c), I.laid (t' := tk) k (Nat.le_refl _) (setO_new q1), rfl, q _ c hn q2 ⟨fun h => setR_nodup q1 h, fun nd => setR_full q1 nd⟩⟩
theorem cr_setCK (K : Fg) (hc : X.calm = true) (hK : X.K = K := by rfl) : CallR X (.type "set") (rSetC K X.w) := by subst hK; exact cr_setC hc
end
end Z
set_option maxHeartbeats 1000000
namespace Z
open PySem PySem.Spec PyProof.Rows L2
section
variable {X : Cx} {k : Nat} {f C : Addr} {ps : List Str} {sp : Sp} {E : XK}
def rSubA (K : Fg) (C : Addr) (sp : Sp) (E : XK) : R2 := fun x y H Q => ∃ a dx fs, x = .ref a ∧ H a = some (.ins C dx fs) ∧
  ((∃ z, y = .str z) ∨ y = .non ∨ (∃ i, y = .int i) ∨ ∃ b xs, y = .ref b ∧ SqT K H b xs) ∧ sp [.ref a, y] H (fun v H2 => (∃ p, v = .ref p) ∧ Q v H2) E
theorem tupNoSub : typeLookup (.type "tuple") (dunder "sub") = pure none := by rw [typeLookup_type, builtinLookup_eq_fast]; kernel_rfl
theorem tupNoRsub : typeLookup (.type "tuple") (dunderR "sub") = pure none := by rw [typeLookup_type, builtinLookup_eq_fast]; kernel_rfl
theorem tup_fills {M : Model} {A : Around} {s : Shared} {Q : Bool → Shared → Prop} {R : Value → Shared → Prop} (q : Q false s) : wpAny M A (fillsNumberSlot (.type "tuple") "sub") Q R s := by
  unfold fillsNumberSlot
  simp only [tupNoSub, tupNoRsub]
  exact wpAny_pure q
theorem op_subA {K : Fg} (hs : PySem.W.findIn X.K (.ref C) "__sub__" = some (some (.ref f))) (hfn : PySem.W.isFn X.K (.ref f) = true) (hc : PySem.W.selfFirst X.K C = true) (hi : PySem.W.notFirst X.K C (.type "int") = true) (hn : PySem.W.notFirst X.K C (.type "NoneType") = true) (hz : PySem.W.notFirst X.K C (.type "str") = true) (hw : (PySem.W.findIn X.K (.ref C) "__rsub__").elim false Option.isNone = true)
    (F : FnX X k f ps sp) (c : Cal X.K f ps []) (hr : Room k X.A) (hx : Passes (L2.CX X.prog X.w) X E) (hK : X.K = K := by rfl) : OpR X (binaryOp .Sub) (rSubA K C sp E) := by
  subst hK
  intro pins s σ H x y v u Q I rx ry h
  obtain ⟨a, dx, fs, rfl, ea, hy, q⟩ := h
  obtain rfl : v = Value.ref a := rx
  obtain ⟨mA, O, _⟩ := ins_get I.hok ea
  obtain ⟨od, J, _⟩ := O.look
  obtain ⟨mf, fr⟩ := I.fr
  have KX := PySem.W.Frag.In.keeps I.mod.kin fr.keep
  have hd : dunder "sub" = ("__sub__" : Str) := by kernel_rfl
  have hdr : dunderR "sub" = ("__rsub__" : Str) := by kernel_rfl
  have one : wpAny (model X.prog X.w) X.A (call (.ref f) [.ref a, u]) (PySem.W.CmpBack (EP X pins σ Q)) X.xe s := by
    refine thn (run_in0 F c hr hx I (.cons (show L2.RelV (.ref a) (.ref a) from rfl) (.cons ry .nil)) q) fun r s' ⟨z, H2, I2, rz, ⟨p, ep⟩, q2⟩ => ?_
    subst ep
    cases rz
    exact ⟨.ref p, H2, I2, rfl, q2⟩
  have wr : PySem.W.findIn X.K (.ref C) (dunderR "sub") = some none := by
    rw [hdr]
    cases e : PySem.W.findIn X.K (.ref C) "__rsub__" with
    | none => rw [e] at hw; cases hw
    | some o =>
      rw [e] at hw
      cases o with
      | none => rfl
      | some _ => cases hw
  have sb : ∀ T : String, PySem.W.notFirst X.K C (.type T) = true → PySem.W.subIn X.K (.type T) (.ref C) = some false := fun T h => by
    unfold PySem.W.notFirst at h
    rw [show ((Value.type T) == Value.ref C) = false from rfl, Bool.false_or] at h
    exact beq_iff_eq.mp h
  have hs2 : PySem.W.findIn X.K (.ref C) (dunder "sub") = some (some (.ref f)) := by rw [hd]; exact hs
  have go : ∀ (T : String), typeOf u = pure (.type T) → PySem.W.notFirst X.K C (.type T) = true → (PySem.W.findIn X.K (.type T) (dunder "sub")).isSome = true → (PySem.W.findIn X.K (.type T) (dunderR "sub")).isSome = true → wpAny (model X.prog X.w) X.A (binaryOp .Sub (.ref a) u) (EP X pins σ Q) X.xe s := fun T ht hT h1 h2 => by
    obtain ⟨fo, e1⟩ := Option.isSome_iff_exists.mp h1
    obtain ⟨ro, e2⟩ := Option.isSome_iff_exists.mp h2
    exact PySem.W.ksp_binT (op := .Sub) fr I.mod.kin J ht hc hs2 hfn wr (.inl rfl) e1 e2 (sb T hT) one
  rcases hy with ⟨z, rfl⟩ | rfl | ⟨i, rfl⟩ | ⟨b, xs, rfl, eb⟩
  · obtain ⟨t, rfl⟩ := ry
    exact go "str" rfl hz (by kernel_rfl) (by kernel_rfl)
  · obtain rfl : u = Value.none := ry
    exact go "NoneType" rfl hn (by kernel_rfl) (by kernel_rfl)
  · obtain ⟨t, rfl⟩ := ry
    exact go "int" rfl hi (by kernel_rfl) (by kernel_rfl)
  · obtain rfl : u = Value.ref b := ry
    obtain ⟨its, rv, ⟨o, ho, hcl, _⟩, hzz⟩ := I.tuple eb
    have lk : PySem.W.Looks (model X.prog X.w) s.heap (typeOf (.ref b)) (.type "tuple") := hcl ▸ (PySem.W.Looks.ld ho).andThen .now
    obtain ⟨cd, hcd, hm⟩ := PySem.W.any_some hc
    obtain ⟨rest, hm⟩ : ∃ rest, cd.mro = .ref C :: rest := by
      cases q : cd.mro with
      | nil => rw [q] at hm; cases hm
      | cons b r =>
        rw [q] at hm
        have := beq_iff_eq.mp hm
        simp only [List.head?_cons, Option.some.injEq] at this
        exact ⟨r, by rw [this]⟩
    show wpAny _ _ (binaryOp .Sub _ _) _ _ _
    unfold binaryOp
    refine wpAny_holding (wpAny_bind ?_)
    unfold binaryOp1
    refine wpAny_bind (J.type.here (wpAny_bind (lk.here (wpAny_bind ((PySem.W.fills_K KX hcd hm hs2).here ?_)))))
    have hne : (Value.ref C == Value.type "tuple") = false := rfl
    simp only [hne, Bool.false_eq_true, if_false]
    refine wpAny_bind (tup_fills ?_)
    simp only [Bool.and_false, Bool.false_eq_true, if_false, Bool.false_and, if_true]
    refine wpAny_bind (wpAny_pure ?_)
    simp only [Bool.false_eq_true, if_false]
    refine wpAny_bind (m := tryMethod (.ref a) _ (.ref b)) ?_
    refine wpAny_mono (PySem.W.ksp_try KX J hs2 hfn one) (fun w s' hw2 => ?_) fun _ _ x => x
    obtain ⟨vv, rfl, hq⟩ := hw2
    exact wpAny_pure (wpAny_pure hq)
end
end Z
set_option maxHeartbeats 1000000
namespace Z
open PySem PySem.Spec PyProof.Rows L2
end Z
set_option maxHeartbeats 1000000
namespace Z
open PySem PySem.Spec PyProof.Rows L2
def TupO (o : Obj) : Prop := o.cls = .type "tuple" ∧ o.dict = none
def FrzT (H : Hp) (p : Addr) (ys : List V) : Prop := ∃ o, H p = some (.frz o (.tup ys)) ∧ TupO o
theorem FrzT.sqT {K : Fg} {H : Hp} {p : Addr} {ys : List V} (h : FrzT H p ys) : SqT K H p ys := .inl (.inr ⟨_, h.choose_spec.1⟩)
theorem FrzT.same {H H' : Hp} {p : Addr} {ys : List V} (h : FrzT H p ys) (s : Same H H') : FrzT H' p ys := h.imp fun o ⟨a, b⟩ => ⟨s _ _ a, b⟩
def rTupF (K : Fg) : List V → Hp → VK → Prop := fun xs H Q => ∃ p ys, xs = [.ref p] ∧ SqL K H p ys ∧ ∀ l o, H l = none → TupO o → Q (.ref l) (upd H l (.frz o (.tup ys)))
section
variable {X : Cx}
theorem call_tuple_frz : CallR X (.type "tuple") (rTupF X.K) := by
  intro pins s σ H xs us Q I r h
  obtain ⟨p, ys, rfl, hq, q⟩ := h
  obtain ⟨u, rfl, rx⟩ := vals1 r
  cases rx
  obtain ⟨its, r', pl, hz⟩ := I.list hq
  have hlen := r'.length
  refine call_tuple_list pl.isList (fun h' kp => ?_) (by simp only [List.size_toArray] <;> omega)
  have I1 : Inv X pins σ H { s with heap := h' } := I.kept (t' := s.toks) kp
  have I2 : Inv X pins σ (upd H h'.objs.size (.frz { cls := .type "tuple", data := .seq its.toArray } (.tup ys))) { s with heap := h'.push { cls := .type "tuple", data := .seq its.toArray } } :=
    I1.laid (t' := s.toks) (fun b o e => Heap.get?_push_of_some _ e) (Nat.le_refl _) (show ObjOk X.prog X.w _ _ _ (.frz _ (.tup ys)) from ⟨by simp [Heap.get?, Heap.push], hz, its, r', IsTup.new _ _⟩)
  exact ⟨.ref h'.objs.size, _, I2, rfl, q _ _ (I1.hok.fresh (Nat.le_refl _)) ⟨rfl, rfl⟩⟩
theorem call_tuple_frzK (K : Fg) (hK : X.K = K := by rfl) : CallR X (.type "tuple") (rTupF K) := by subst hK; exact call_tuple_frz
def tyF (x : V) (H : Hp) : Prop := ∃ p ys, x = .ref p ∧ FrzT H p ys
theorem tyF_is {pins : List (Addr × Obj)} {σ : L2.St} {H : Hp} {s : Shared} {x : V} {v : Value} (I : Inv X pins σ H s) (r : RelV x v) (ty : tyF x H) :
    s.TypeIs v "tuple" ∧ ∀ a, v = .ref a → ∃ ob, s.heap.get? a = some ob ∧ ob.dict = none := by
  obtain ⟨p, ys, rfl, o, h, hc, hd⟩ := ty
  cases r
  obtain ⟨e, _⟩ := (show ObjOk X.prog X.w H s.heap p (.frz o (.tup ys)) from I.hok p _ h)
  refine ⟨⟨o, e, hc⟩, fun a k => ?_⟩
  cases k
  exact ⟨o, e, hd⟩
def tBMT (r : V → List V → Hp → VK → Prop) (to : TE) (t : TA) : TE := fun σ H Q => to σ H fun x H1 => tyF x H1 ∧ t σ H1 fun xs H2 => r x xs H2 Q
theorem s_bmT {r : V → List V → Hp → VK → Prop} {to : TE} {t : TA} {σ : L2.St} {H : Hp} {Q : VK} (q : to σ H fun x H1 => tyF x H1 ∧ t σ H1 fun xs H2 => r x xs H2 Q) : tBMT r to t σ H Q := q
theorem s_tyF {H : Hp} {p : Addr} {ys : List V} {R : Prop} (h : FrzT H p ys) (q : R) : tyF (.ref p) H ∧ R := ⟨⟨p, ys, rfl, h⟩, q⟩
variable {o e : Expr} {es : List Expr} {to : TE} {t : TA} {name : Str} {apos cpos : Pos} {id : String} {r : V → List V → Hp → VK → Prop}
theorem pe_bmT (pa : PlainAttrs "tuple") (slot : Slot "tuple" name id) (hty : typeOf (.builtin id) = pure (.type "method_descriptor")) (hm : MtR X id r) (ho : PE X o to) (ha : L2.PA X (e :: es) t)
    (hbase : attributeBase o name X.env (eval o X.env) = eval o X.env := by rfl)
    (hfew : ((backTo cpos (starEach (e :: es) X.env)).all (fun x => !x.1) && (backToKw cpos (keywordEach [] X.env)).all (fun x => x.1.isSome)
      && decide ((e :: es).length + ([] : List Keyword).length + (if ([] : List Keyword).isEmpty then 0 else 1) < 30)) = true := by rfl)
    (hline : (apos.endLine == cpos.line) = true := by rfl) (hs : starEach (e :: es) X.env = (false, eval e X.env) :: starEach es X.env := by rfl) (hplain : (backTo cpos (starEach es X.env)).any (·.1) = false := by rfl) :
    PE X (.Call (.Attribute o name apos) (e :: es) [] cpos) (tBMT r to t) := by
  refine ⟨fun pins s σ H Q I h => ?_⟩
  refine wpAny_Call_method_late hbase hfew hline rfl (thn (ho.run pins s σ H _ I h) fun v s1 ⟨x, H1, I1, r1, ty, q1⟩ => ?_)
  obtain ⟨h1, h2⟩ := tyF_is I1 r1 ty
  refine ⟨"tuple", id, pa, slot, hty, h1, h2, ?_⟩
  have hA := ha.run cpos pins s1 σ H1 _ I1 q1
  rw [hs] at hA ⊢
  refine Calls.callWith_builtin (by show (false || (backTo cpos (starEach es X.env)).any (·.1)) = false; rw [hplain] <;> rfl) (Calls.evalArgs_plain ?_)
  exact thn hA fun us s2 ⟨vs, H2, I2, r2, q2⟩ => hm pins s2 σ H2 x vs v us Q I2 r1 r2 q2
end
end Z
set_option maxHeartbeats 2000000
namespace Z
open PySem PySem.Spec PyProof.Rows L2
def rIndexTD (K : Fg) : V → List V → Hp → VK → Prop := fun x xs H Q => ∃ (a : Addr) (y : V) (d : PyData) (ds : List PyData) (j : Nat) (z : PyData), x = V.ref a ∧ xs = [y] ∧ Dp K H (V.ref a) (.tuple ds) ∧ Dp K H y d ∧
  SeqAt.shaped (.tuple ds) = true ∧ SeqAt.shaped d = true ∧ ds[j]? = some z ∧ PyData.eqv z d = true ∧ (∀ (m : Nat) (z' : PyData), m < j → ds[m]? = some z' → PyData.eqv z' d = false) ∧ Q (.int (j : Nat)) H
section
variable {X : Cx}
theorem mt_indexTD (hu : X.A.units + 65 < cLine) : MtR X "tuple.index" (rIndexTD X.K) := by
  intro pins s σ H x xs v us Q I rx rxs h
  obtain ⟨a, y, d, ds, j, z, rfl, rfl, hl, hy, sl, sd, hz, hzj, hno, q⟩ := h
  cases rx
  cases rxs with | cons ry rt => ?_
  rename_i uy ut
  cases rt
  obtain ⟨bs, r1⟩ := Dp.reads I d y uy hy ry
  have lay : PyData.canLayAll0 ds = true := SeqAt.canLay_of_shaped sl
  have room : X.A.units + 1 + min (PyData.depthAll ds) d.depth < cLine := room_in_shaped sd hu
  obtain ⟨_, vs2, ee, hs, ha⟩ := hl.tupI
  cases ee
  obtain ⟨its, rv, ⟨⟨cls, dd, data, sls⟩, ho, hc, n, hdt⟩, hlen⟩ := I.tuple hs
  simp only at hc hdt
  subst hc hdt
  obtain ⟨as, h4⟩ := Dp.readsAll I ds _ its ha rv
  have same_len : its.length = ds.length := SeqAt.ReadsAll.length ds its as h4
  have what : its.map (SeqAt.readOf s.heap) = ds := SeqAt.readsAll_map ds its as lay h4
  have jd : j < ds.length := (List.getElem?_eq_some_iff.mp hz).1
  have jt : j < its.toArray.size := by simpa using (same_len ▸ jd : j < its.length)
  have look : ∀ (m : Nat) (hm : m < its.toArray.size) (z' : PyData), ds[m]? = some z' → SeqAt.readOf s.heap its.toArray[m] = z' := fun m hm z' e => by
    have ml : m < its.length := by simpa using hm
    rw [← what, List.getElem?_map, List.getElem?_eq_getElem ml] at e
    have e := Option.some.inj e
    simpa using e
  refine call_meets PySem.F.slot_tuple_index ⟨_, ho, rfl⟩ PySem.F.entry_tuple_index (PySem.F.args_tuple_index_2 _ _)
    (TI.tuple_indexAt a its.toArray n dd sls uy (fun u => PyData.eqv (SeqAt.readOf s.heap u) d) j jt ?_ ?_)
    ⟨ho, SeqAt.items_eqAt (vs := its.toArray) (show ReadsAll s.heap its.toArray.toList ds as from h4) r1 lay (SeqAt.canLay_of_shaped sd) room, .int (j : Nat), H, I.tok _, ⟨_, rfl⟩, q⟩
  · show PyData.eqv (SeqAt.readOf s.heap _) d = true
    rw [look j jt z hz, hzj]
  · intro m hm mj
    have md : m < ds.length := by omega
    have e : ds[m]? = some ds[m] := List.getElem?_eq_getElem md
    show PyData.eqv (SeqAt.readOf s.heap _) d = false
    rw [look m hm _ e, hno m _ mj e]
theorem mt_indexTDK (K : Fg) (hu : X.A.units + 65 < cLine) (hK : X.K = K := by rfl) : MtR X "tuple.index" (rIndexTD K) := by subst hK; exact mt_indexTD hu
end
end Z
set_option maxHeartbeats 1000000
namespace Z
open PySem PySem.Spec PyProof.Rows L2
section
variable {K : Fg} {H : Hp}
theorem dp_keyI {k : Key} {v : V} (h : Dp K H v (kD k)) : v = kV k := by cases k with
  | inl i => cases h; rfl
  | inr z => cases h; rfl
theorem _root_.L2.Dp.stI {v : V} {x : Str × Key} (h : Dp K H v (dSt x)) : ∃ t, v = .ref t ∧ SqT K H t [.str x.1, kV x.2] := by
  obtain ⟨t, xs, rfl, hT, hA⟩ := h.tupI
  cases hA with | cons h1 hA => ?_
  cases hA with | cons h2 hA => ?_
  cases hA
  cases h1
  rw [dp_keyI h2] at hT
  exact ⟨t, rfl, hT⟩
theorem _root_.L2.Dp.lnI {v : V} {l : Ln} (h : Dp K H v (dLn l)) : ∃ t s sv, v = .ref t ∧ SqT K H t [.str l.nm, .str l.kd, .int l.rk, .ref s] ∧ SqT K H s sv ∧ DpAll K H sv (l.st.map dSt) := by
  obtain ⟨t, xs, rfl, hT, hA⟩ := h.tupI
  cases hA with | cons h1 hA => ?_
  cases hA with | cons h2 hA => ?_
  cases hA with | cons h3 hA => ?_
  cases hA with | cons h4 hA => ?_
  cases hA
  cases h1
  cases h2
  cases h3
  obtain ⟨s, sv, rfl, hs, hs2⟩ := h4.tupI
  exact ⟨t, s, sv, rfl, hT, hs, hs2⟩
theorem s_catW {Q : VK} {a b : Addr} {xs ys : List V} (ha : SqT K H a xs) (hb : SqT K H b ys) (hz : xs.length + ys.length ≤ sizeLine) (q : ∀ c H', Same H H' → SqT K H' c (xs ++ ys) → Q (.ref c) H') : rCatA K (.ref a) (.ref b) H Q := by
  refine ⟨a, b, xs, ys, rfl, rfl, ha, hb, hz, fun e => ?_, fun _ e => ?_, fun _ _ p hp => q p _ (Same.new hp) (SqT.of upd_same)⟩
  · subst e
    exact q b H (Same.refl H) hb
  · subst e
    exact q a H (Same.refl H) (by rw [List.append_nil]; exact ha)
theorem vstr_dec {a b : Str} : decide (V.str a = V.str b) = decide (a = b) := by rw [Bool.eq_iff_iff]; simp
theorem map_boolW {α : Type} (f : α → Bool) (l : List α) : l.map (fun x => PyData.bool (f x)) = (l.map f).map PyData.bool := by rw [List.map_map]; rfl
end
end Z
set_option maxHeartbeats 1000000
namespace Z
open PySem PySem.Spec PyProof.Rows L2
abbrev SeenT : Type := Seen × Bool
def tabGood (g : Addr → Option Obj) (tf : List (Fg → Addr)) (K : Fg) : Bool := tf.all fun d =>
  PySem.W.codeHdIn K (codA K (d K)) (tabA K (d K)) && (match g (tabA K (d K)) with
    | none => false
    | some u => He.emptyTab u)
def seeE (as : List Addr) (fa : List (Fg → Bool)) (fn : List DefZ) (tf : List (Fg → Addr)) (g : Addr → Option Obj) : SeenT :=
  (lookZ fa fn (He.frT g as), tabGood g tf (He.frT g as))
structure TabIn (K : Fg) (h : Heap) (f : Addr) : Prop where
  cd : PySem.W.codeHdIn K (codA K f) (tabA K f) = true
  out : K.lookup (tabA K f) = none
  emp : h.get? (tabA K f) = some { cls := .none, data := .fields #[] }
theorem tabIn_of {as : List Addr} {tf : List (Fg → Addr)} {h : Heap} (e : tabGood h.get? tf (He.frT h.get? as) = true) : ∀ d ∈ tf, TabIn (He.frT h.get? as) h (d (He.frT h.get? as)) := fun d hd => by
  obtain ⟨k1, k2⟩ := He.ba (List.all_eq_true.mp e d hd)
  cases q : h.get? (tabA (He.frT h.get? as) (d (He.frT h.get? as))) with
  | none =>
    rw [q] at k2
    cases k2
  | some u =>
    rw [q] at k2
    have k2 : He.emptyTab u = true := k2
    exact ⟨k1, He.frT_none q k2, by rw [q, He.emptyTab_eq k2]⟩
def hookE (as : List Addr) (fa : List (Fg → Bool)) (fn : List DefZ) (tf : List (Fg → Addr)) : PySem.W.Hook where
  α := SeenT
  obs := fun s => seeE as fa fn tf s.heap.get?
  val := fun _ => ((true, fn.map DefZ.due), true)
  says := fun _ h => ∃ K : Fg, K.In h ∧ SaysZ fa fn K ∧ ∀ d ∈ tf, TabIn K h (d K)
  of := fun _ _ e => ⟨_, He.frT_in, congrArg (fun z : SeenT => z.1) e, tabIn_of (congrArg (fun z : SeenT => z.2) e)⟩
  keeps := fun _ _ _ ⟨K, hK, c, t⟩ k => ⟨K, PySem.W.Frag.In.keeps hK k, c, fun d hd => ⟨(t d hd).cd, (t d hd).out, k _ _ (t d hd).emp⟩⟩
theorem seeE_eq {as : List Addr} {fa : List (Fg → Bool)} {fn : List DefZ} {tf : List (Fg → Addr)} {g : Addr → Option Obj} {s : Shared} (h : ∀ a, g a = s.heap.get? a) : seeE as fa fn tf g = (hookE as fa fn tf).obs s := by
  obtain rfl : g = s.heap.get? := funext h
  rfl
theorem walkET {l : PySem.W.OpenLaw} {n k : Nat} {q : Program} {ls : List Str} {XP : (Str → Option Value) → Heap → Prop} {YP : World → Heap → Prop} {d : DefRec} {x : Str} (hn : l.most = some n) (hz : n ≤ sizeLine) (hdf : d.params.defaults = []) (room : Room k callerA)
    (F : ∀ (w : World) (mg : Str → Option Value) (f : Addr) (h : Heap), YP w h → h.Ns mainGlobals mg → mg d.name = some (.ref f) → ∃ (K : Fg) (fd : FuncData) (sp : Sp) (tf : List Addr), K.In h ∧ (∀ u ∈ tf, TabIn K h u) ∧ (∀ (s : Shared) (u : Value), BindsTo s fd ⟨[u], []⟩ [(x, u)]) ∧
      (∀ (H : Hp) (a : Addr) (ns : List Int), ns.length ≤ n → (∀ u ∈ tf, H (tabA K u) = some (.tbl #[])) → SqL K H a (ns.map V.int) → sp [.ref a] H (fun v _ => v = .bl true) fun _ _ _ => False) ∧
      ∀ base : Heap, K.In base → base.Ns mainGlobals mg → (∀ u ∈ tf, LamX.TabB base mg (codA K u) (tabA K u)) → FnOk l.prog w K mg base (L2.CX l.prog w) k f fd [x] sp) :
    PySem.W.WalkO q ls XP YP l.row.toRowW d [] (fun f vs => PySem.call f vs) := by
  refine Att.attach_callB hn hdf fun w _ s1 mg _ f _ _ _ _ a _ ns G Y _ _ _ hm ho hi hl _ hg => ?_
  obtain ⟨K, fd, sp, tf, KX, ht, hb, hsp, hF⟩ := F w mg f _ Y G.T.g hm
  have all : ∀ {R : Addr × Addr → Prop}, (∀ u ∈ tf, R (codA K u, tabA K u)) → ∀ p ∈ tf.map (fun u => (codA K u, tabA K u)), R p := fun {R} h p hp => by
    obtain ⟨u, hu, rfl⟩ := List.mem_map.mp hp
    exact h u hu
  have back : ∀ {R : Addr × Addr → Prop}, (∀ p ∈ tf.map (fun u => (codA K u, tabA K u)), R p) → ∀ u ∈ tf, R (codA K u, tabA K u) := fun {R} h u hu => h _ (List.mem_map_of_mem hu)
  refine LamX.law_callTs (cs := tf.map fun u => (codA K u, tabA K u)) KX G.T.g G.T.b G.T.builtins G.T.nolimit hg (all (R := fun p => s1.heap.get? p.2 = some { cls := .none, data := .fields #[] }) fun u hu => (ht u hu).emp) (all (R := fun p => K.lookup p.2 = none) fun u hu => (ht u hu).out)
    (all (R := fun p => PySem.W.CodeHd s1.heap p.1 p.2) fun u hu => PySem.W.codeHd_of_K KX (ht u hu).cd) G.T.bmain ho hi (Nat.le_trans hl hz) room (fun base h1 h2 h3 => hF base h1 h2 (back (R := fun p => LamX.TabB base mg p.1 p.2) h3)) hb
    (fun H h3 hS => hsp H a ns hl (back (R := fun p => H p.2 = some (.tbl #[])) h3) hS) fun H e s' z => ?_
  obtain ⟨_, _, _, _, _, _, _, _, _, _, _, _, z⟩ := z
  exact z
theorem seeE_parts {as : List Addr} {fa : List (Fg → Bool)} {fn : List DefZ} {tf : List (Fg → Addr)} {g : Addr → Option Obj} (n : Nat) (hA : tabGood g tf (He.frT g as) = true) (hB : (fa.all fun f => f (He.frT g as)) = true)
    (hC : (((fn.take n).all fun d => d.good (He.frT g as)), (fn.take n).map fun d => DefZ.see (He.frT g as) (d.at_ (He.frT g as))) = (true, (fn.take n).map DefZ.due))
    (hD : (((fn.drop n).all fun d => d.good (He.frT g as)), (fn.drop n).map fun d => DefZ.see (He.frT g as) (d.at_ (He.frT g as))) = (true, (fn.drop n).map DefZ.due)) : seeE as fa fn tf g = ((true, fn.map DefZ.due), true) := by
  have e := (List.take_append_drop n fn).symm
  generalize fn.take n = u at *
  generalize fn.drop n = v at *
  subst e
  obtain ⟨c1, c2⟩ := Prod.mk.inj hC
  obtain ⟨d1, d2⟩ := Prod.mk.inj hD
  unfold seeE lookZ
  rw [hA, hB, List.all_append, c1, d1, List.map_append, c2, d2, List.map_append]
  rfl
theorem map_some {S A : Type} {m : Option S} {f : S → A} {a : A} (h : m.map f = some a) : ∃ s, m = some s ∧ f s = a := Option.map_eq_some_iff.mp h
end Z
set_option maxHeartbeats 1000000
namespace T
open PySem PySem.Spec PyProof.Rows L2 Z
open He (ga ma)
def top (i : Nat) : Stmt := PySem.Challenge.pw_callbells_k02_signs_of_set_ups.main.body.getD i (.Pass ⟨0, 0, 0, 0⟩)
abbrev s_InvalidSetup_init : Stmt := inClass (top 3) 0
def d_InvalidSetup_init : DefZ := ⟨fun K => ma K (ga K "InvalidSetup") "__init__", "__init__", "InvalidSetup.__init__", s_InvalidSetup_init, []⟩
abbrev n_InvalidSetup_init : List Str := ["self", "part", "index"]
theorem sc_InvalidSetup_init : FnScope n_InvalidSetup_init ["self", "part", "index"] (defScope s_InvalidSetup_init) := ⟨rfl, rfl, rfl, by decide +kernel, rfl, by decide +kernel, by decide +kernel⟩
abbrev s_UnknownLine_init : Stmt := inClass (top 4) 0
def d_UnknownLine_init : DefZ := ⟨fun K => ma K (ga K "UnknownLine") "__init__", "__init__", "UnknownLine.__init__", s_UnknownLine_init, []⟩
abbrev n_UnknownLine_init : List Str := ["self", "line"]
theorem sc_UnknownLine_init : FnScope n_UnknownLine_init ["self", "line"] (defScope s_UnknownLine_init) := ⟨rfl, rfl, rfl, by decide +kernel, rfl, by decide +kernel, by decide +kernel⟩
abbrev s_is_integer : Stmt := top 30
def d_is_integer : DefZ := ⟨fun K => ga K "is_integer", "is_integer", "is_integer", s_is_integer, []⟩
abbrev n_is_integer : List Str := ["value", "low", "high"]
theorem sc_is_integer : FnScope n_is_integer ["value", "low", "high"] (defScope s_is_integer) := ⟨rfl, rfl, rfl, by decide +kernel, rfl, by decide +kernel, by decide +kernel⟩
abbrev s_is_word : Stmt := top 31
def d_is_word : DefZ := ⟨fun K => ga K "is_word", "is_word", "is_word", s_is_word, []⟩
abbrev n_is_word : List Str := ["value", "letter"]
theorem sc_is_word : FnScope n_is_word ["value"] (defScope s_is_word) := ⟨rfl, rfl, rfl, by decide +kernel, rfl, by decide +kernel, by decide +kernel⟩
abbrev s_is_name : Stmt := top 32
def d_is_name : DefZ := ⟨fun K => ga K "is_name", "is_name", "is_name", s_is_name, []⟩
abbrev n_is_name : List Str := ["value"]
theorem sc_is_name : FnScope n_is_name ["value"] (defScope s_is_name) := ⟨rfl, rfl, rfl, by decide +kernel, rfl, by decide +kernel, by decide +kernel⟩
abbrev s_is_line : Stmt := top 33
def d_is_line : DefZ := ⟨fun K => ga K "is_line", "is_line", "is_line", s_is_line, []⟩
abbrev n_is_line : List Str := ["line"]
theorem sc_is_line : FnScope n_is_line ["line"] (defScope s_is_line) := ⟨rfl, rfl, rfl, by decide +kernel, rfl, by decide +kernel, by decide +kernel⟩
abbrev s_is_work : Stmt := top 34
def d_is_work : DefZ := ⟨fun K => ga K "is_work", "is_work", "is_work", s_is_work, []⟩
abbrev n_is_work : List Str := ["work"]
theorem sc_is_work : FnScope n_is_work ["work"] (defScope s_is_work) := ⟨rfl, rfl, rfl, by decide +kernel, rfl, by decide +kernel, by decide +kernel⟩
abbrev s_is_step : Stmt := top 35
def d_is_step : DefZ := ⟨fun K => ga K "is_step", "is_step", "is_step", s_is_step, []⟩
abbrev n_is_step : List Str := ["step", "kinds", "works", "word", "value"]
theorem sc_is_step : FnScope n_is_step ["step", "kinds", "works"] (defScope s_is_step) := ⟨rfl, rfl, rfl, by decide +kernel, rfl, by decide +kernel, by decide +kernel⟩
abbrev s_check_lines : Stmt := top 36
def d_check_lines : DefZ := ⟨fun K => ga K "check_lines", "check_lines", "check_lines", s_check_lines, []⟩
abbrev n_check_lines : List Str := ["lines", "most", "names", "index", "line"]
theorem sc_check_lines : FnScope n_check_lines ["lines", "most"] (defScope s_check_lines) := ⟨rfl, rfl, rfl, by decide +kernel, rfl, by decide +kernel, by decide +kernel⟩
abbrev s_check_works : Stmt := top 37
def d_check_works : DefZ := ⟨fun K => ga K "check_works", "check_works", "check_works", s_check_works, []⟩
abbrev n_check_works : List Str := ["works", "most", "names", "index", "work"]
theorem sc_check_works : FnScope n_check_works ["works", "most"] (defScope s_check_works) := ⟨rfl, rfl, rfl, by decide +kernel, rfl, by decide +kernel, by decide +kernel⟩
abbrev s_Setup_init : Stmt := inClass (top 38) 3
def d_Setup_init : DefZ := ⟨fun K => ma K (ga K "Setup") "__init__", "__init__", "Setup.__init__", s_Setup_init, [.adr (dfA (fun K => ma K (ga K "Setup") "__init__") 0)]⟩
abbrev n_Setup_init : List Str := ["self", "lines", "works", "kinds", "names", "index", "line", "work", "step"]
theorem sc_Setup_init : FnScope n_Setup_init ["self", "lines", "works"] (defScope s_Setup_init) := ⟨rfl, rfl, rfl, by decide +kernel, rfl, by decide +kernel, by decide +kernel⟩
abbrev s_Setup_lines : Stmt := inClass (top 38) 5
def d_Setup_lines : DefZ := ⟨fun K => pga K (ga K "Setup") "lines", "lines", "Setup.lines", s_Setup_lines, []⟩
abbrev n_Setup_lines : List Str := ["self"]
theorem sc_Setup_lines : FnScope n_Setup_lines ["self"] (defScope s_Setup_lines) := ⟨rfl, rfl, rfl, by decide +kernel, rfl, by decide +kernel, by decide +kernel⟩
abbrev s_Setup_works : Stmt := inClass (top 38) 6
def d_Setup_works : DefZ := ⟨fun K => pga K (ga K "Setup") "works", "works", "Setup.works", s_Setup_works, []⟩
abbrev n_Setup_works : List Str := ["self"]
theorem sc_Setup_works : FnScope n_Setup_works ["self"] (defScope s_Setup_works) := ⟨rfl, rfl, rfl, by decide +kernel, rfl, by decide +kernel, by decide +kernel⟩
abbrev s_Setup_order : Stmt := inClass (top 38) 7
def d_Setup_order : DefZ := ⟨fun K => pga K (ga K "Setup") "order", "order", "Setup.order", s_Setup_order, []⟩
abbrev n_Setup_order : List Str := ["self", "rows", "line", "rank", "name"]
theorem sc_Setup_order : FnScope n_Setup_order ["self"] (defScope s_Setup_order) := ⟨rfl, rfl, rfl, by decide +kernel, rfl, by decide +kernel, by decide +kernel⟩
abbrev s_Setup_is_plain : Stmt := inClass (top 38) 8
def d_Setup_is_plain : DefZ := ⟨fun K => pga K (ga K "Setup") "is_plain", "is_plain", "Setup.is_plain", s_Setup_is_plain, []⟩
abbrev n_Setup_is_plain : List Str := ["self", "ranks", "line", "step"]
theorem sc_Setup_is_plain : FnScope n_Setup_is_plain ["self"] (defScope s_Setup_is_plain) := ⟨rfl, rfl, rfl, by decide +kernel, rfl, by decide +kernel, by decide +kernel⟩
abbrev s_Setup_len : Stmt := inClass (top 38) 10
def d_Setup_len : DefZ := ⟨fun K => ma K (ga K "Setup") "__len__", "__len__", "Setup.__len__", s_Setup_len, []⟩
abbrev n_Setup_len : List Str := ["self"]
theorem sc_Setup_len : FnScope n_Setup_len ["self"] (defScope s_Setup_len) := ⟨rfl, rfl, rfl, by decide +kernel, rfl, by decide +kernel, by decide +kernel⟩
abbrev s_Setup_contains : Stmt := inClass (top 38) 12
def d_Setup_contains : DefZ := ⟨fun K => ma K (ga K "Setup") "__contains__", "__contains__", "Setup.__contains__", s_Setup_contains, []⟩
abbrev n_Setup_contains : List Str := ["self", "name"]
theorem sc_Setup_contains : FnScope n_Setup_contains ["self", "name"] (defScope s_Setup_contains) := ⟨rfl, rfl, rfl, by decide +kernel, rfl, by decide +kernel, by decide +kernel⟩
abbrev s_Setup_getitem : Stmt := inClass (top 38) 13
def d_Setup_getitem : DefZ := ⟨fun K => ma K (ga K "Setup") "__getitem__", "__getitem__", "Setup.__getitem__", s_Setup_getitem, []⟩
abbrev n_Setup_getitem : List Str := ["self", "name"]
theorem sc_Setup_getitem : FnScope n_Setup_getitem ["self", "name"] (defScope s_Setup_getitem) := ⟨rfl, rfl, rfl, by decide +kernel, rfl, by decide +kernel, by decide +kernel⟩
abbrev s_Setup_eq : Stmt := inClass (top 38) 14
def d_Setup_eq : DefZ := ⟨fun K => ma K (ga K "Setup") "__eq__", "__eq__", "Setup.__eq__", s_Setup_eq, []⟩
abbrev n_Setup_eq : List Str := ["self", "other"]
theorem sc_Setup_eq : FnScope n_Setup_eq ["self", "other"] (defScope s_Setup_eq) := ⟨rfl, rfl, rfl, by decide +kernel, rfl, by decide +kernel, by decide +kernel⟩
abbrev s_Setup_sub : Stmt := inClass (top 38) 15
def d_Setup_sub : DefZ := ⟨fun K => ma K (ga K "Setup") "__sub__", "__sub__", "Setup.__sub__", s_Setup_sub, []⟩
abbrev n_Setup_sub : List Str := ["self", "name"]
theorem sc_Setup_sub : FnScope n_Setup_sub ["self", "name"] (defScope s_Setup_sub) := ⟨rfl, rfl, rfl, by decide +kernel, rfl, by decide +kernel, by decide +kernel⟩
abbrev s_Setup_check_line : Stmt := inClass (top 38) 16
def d_Setup_check_line : DefZ := ⟨fun K => ma K (ga K "Setup") "check_line", "check_line", "Setup.check_line", s_Setup_check_line, []⟩
abbrev n_Setup_check_line : List Str := ["self", "name"]
theorem sc_Setup_check_line : FnScope n_Setup_check_line ["self", "name"] (defScope s_Setup_check_line) := ⟨rfl, rfl, rfl, by decide +kernel, rfl, by decide +kernel, by decide +kernel⟩
abbrev s_Setup_with_rank : Stmt := inClass (top 38) 17
def d_Setup_with_rank : DefZ := ⟨fun K => ma K (ga K "Setup") "with_rank", "with_rank", "Setup.with_rank", s_Setup_with_rank, []⟩
abbrev n_Setup_with_rank : List Str := ["self", "line", "rank", "rows", "row"]
theorem sc_Setup_with_rank : FnScope n_Setup_with_rank ["self", "line", "rank"] (defScope s_Setup_with_rank) := ⟨rfl, rfl, rfl, by decide +kernel, rfl, by decide +kernel, by decide +kernel⟩
abbrev s_Setup_ticks_of : Stmt := inClass (top 38) 18
def d_Setup_ticks_of : DefZ := ⟨fun K => ma K (ga K "Setup") "ticks_of", "ticks_of", "Setup.ticks_of", s_Setup_ticks_of, []⟩
abbrev n_Setup_ticks_of : List Str := ["self", "line", "step"]
theorem sc_Setup_ticks_of : FnScope n_Setup_ticks_of ["self", "line"] (defScope s_Setup_ticks_of) := ⟨rfl, rfl, rfl, by decide +kernel, rfl, by decide +kernel, by decide +kernel⟩
abbrev s_Setup_touched_by : Stmt := inClass (top 38) 19
def d_Setup_touched_by : DefZ := ⟨fun K => ma K (ga K "Setup") "touched_by", "touched_by", "Setup.touched_by", s_Setup_touched_by, []⟩
abbrev n_Setup_touched_by : List Str := ["self", "line", "found", "word", "value"]
theorem sc_Setup_touched_by : FnScope n_Setup_touched_by ["self", "line"] (defScope s_Setup_touched_by) := ⟨rfl, rfl, rfl, by decide +kernel, rfl, by decide +kernel, by decide +kernel⟩
abbrev s_lines_without : Stmt := top 39
def d_lines_without : DefZ := ⟨fun K => ga K "lines_without", "lines_without", "lines_without", s_lines_without, []⟩
abbrev n_lines_without : List Str := ["lines", "name", "found", "line"]
theorem sc_lines_without : FnScope n_lines_without ["lines", "name"] (defScope s_lines_without) := ⟨rfl, rfl, rfl, by decide +kernel, rfl, by decide +kernel, by decide +kernel⟩
abbrev s_setup_of : Stmt := top 40
def d_setup_of : DefZ := ⟨fun K => ga K "setup_of", "setup_of", "setup_of", s_setup_of, []⟩
abbrev n_setup_of : List Str := ["lines", "works"]
theorem sc_setup_of : FnScope n_setup_of ["lines", "works"] (defScope s_setup_of) := ⟨rfl, rfl, rfl, by decide +kernel, rfl, by decide +kernel, by decide +kernel⟩
abbrev s_w_taken : Stmt := top 42
def d_w_taken : DefZ := ⟨fun K => ga K "_law_taken", "_law_taken", "_law_taken", s_w_taken, []⟩
abbrev n_w_taken : List Str := ["_law_row", "_law_many", "_law_found", "_law_cell"]
theorem sc_w_taken : FnScope n_w_taken ["_law_row", "_law_many"] (defScope s_w_taken) := ⟨rfl, rfl, rfl, by decide +kernel, rfl, by decide +kernel, by decide +kernel⟩
abbrev s_w_alike : Stmt := top 43
def d_w_alike : DefZ := ⟨fun K => ga K "_law_alike", "_law_alike", "_law_alike", s_w_alike, []⟩
abbrev n_w_alike : List Str := ["_law_one", "_law_due", "_law_k"]
theorem sc_w_alike : FnScope n_w_alike ["_law_one", "_law_due"] (defScope s_w_alike) := ⟨rfl, rfl, rfl, by decide +kernel, rfl, by decide +kernel, by decide +kernel⟩
abbrev s_w_mixed : Stmt := top 44
def d_w_mixed : DefZ := ⟨fun K => ga K "_law_mixed", "_law_mixed", "_law_mixed", s_w_mixed, []⟩
abbrev n_w_mixed : List Str := ["_law_row", "_law_things", "_law_left", "_law_found"]
theorem sc_w_mixed : FnScope n_w_mixed ["_law_row", "_law_things"] (defScope s_w_mixed) := ⟨rfl, rfl, rfl, by decide +kernel, rfl, by decide +kernel, by decide +kernel⟩
abbrev s_w_step : Stmt := top 45
def d_w_step : DefZ := ⟨fun K => ga K "_law_step", "_law_step", "_law_step", s_w_step, []⟩
abbrev n_w_step : List Str := ["_law_row", "_law_names", "_law_levels", "_law_works", "_law_word"]
theorem sc_w_step : FnScope n_w_step ["_law_row", "_law_names", "_law_levels", "_law_works"] (defScope s_w_step) := ⟨rfl, rfl, rfl, by decide +kernel, rfl, by decide +kernel, by decide +kernel⟩
abbrev s_w_setup : Stmt := top 46
def d_w_setup : DefZ := ⟨fun K => ga K "_law_setup", "_law_setup", "_law_setup", s_w_setup, []⟩
abbrev n_w_setup : List Str := ["_law_row", "_law_most", "_law_names", "_law_kinds", "_law_levels", "_law_works", "_law_lines", "_law_k", "_law_steps", "_law_rows", "_law_name", "_law_turn", "_law_work"]
theorem sc_w_setup : FnScope n_w_setup ["_law_row", "_law_most"] (defScope s_w_setup) := ⟨rfl, rfl, rfl, by decide +kernel, rfl, by decide +kernel, by decide +kernel⟩
abbrev s_w_plain : Stmt := top 47
def d_w_plain : DefZ := ⟨fun K => ga K "_law_plain", "_law_plain", "_law_plain", s_w_plain, []⟩
abbrev n_w_plain : List Str := ["_law_row", "_law_most", "_law_long", "_law_names", "_law_ranks", "_law_found", "_law_k", "_law_steps", "_law_turn"]
theorem sc_w_plain : FnScope n_w_plain ["_law_row", "_law_most", "_law_long"] (defScope s_w_plain) := ⟨rfl, rfl, rfl, by decide +kernel, rfl, by decide +kernel, by decide +kernel⟩
abbrev s_w_raised : Stmt := top 48
def d_w_raised : DefZ := ⟨fun K => ga K "_law_raised", "_law_raised", "_law_raised", s_w_raised, []⟩
abbrev n_w_raised : List Str := ["_law_work", "e", "_law_kinds", "_law_at"]
theorem sc_w_raised : FnScope n_w_raised ["_law_work"] (defScope s_w_raised) := ⟨rfl, rfl, rfl, by decide +kernel, rfl, by decide +kernel, by decide +kernel⟩
abbrev s_w_touched : Stmt := top 49
def d_w_touched : DefZ := ⟨fun K => ga K "_law_touched", "_law_touched", "_law_touched", s_w_touched, []⟩
abbrev n_w_touched : List Str := ["_law_lines", "_law_name", "_law_found", "_law_word", "_law_value", "_law_line"]
theorem sc_w_touched : FnScope n_w_touched ["_law_lines", "_law_name"] (defScope s_w_touched) := ⟨rfl, rfl, rfl, by decide +kernel, rfl, by decide +kernel, by decide +kernel⟩
abbrev s_w_less : Stmt := top 50
def d_w_less : DefZ := ⟨fun K => ga K "_law_less", "_law_less", "_law_less", s_w_less, []⟩
abbrev n_w_less : List Str := ["_law_lines", "_law_name", "_law_left", "_law_bad", "_law_line", "_law_k"]
theorem sc_w_less : FnScope n_w_less ["_law_lines", "_law_name"] (defScope s_w_less) := ⟨rfl, rfl, rfl, by decide +kernel, rfl, by decide +kernel, by decide +kernel⟩
abbrev s_w_is_plain : Stmt := top 51
def d_w_is_plain : DefZ := ⟨fun K => ga K "_law_is_plain", "_law_is_plain", "_law_is_plain", s_w_is_plain, []⟩
abbrev n_w_is_plain : List Str := ["_law_lines", "_law_name", "_law_kind", "_law_rank", "_law_steps", "_law_word", "_law_value", "_law_line"]
theorem sc_w_is_plain : FnScope n_w_is_plain ["_law_lines"] (defScope s_w_is_plain) := ⟨rfl, rfl, rfl, by decide +kernel, rfl, by decide +kernel, by decide +kernel⟩
abbrev s_w_is_line_told : Stmt := top 52
def d_w_is_line_told : DefZ := ⟨fun K => ga K "_law_is_line_told", "_law_is_line_told", "_law_is_line_told", s_w_is_line_told, []⟩
abbrev n_w_is_line_told : List Str := ["_law_setup_here", "_law_lines", "_law_line", "_law_ticks", "_law_told", "_law_due", "_law_rest", "_law_word", "_law_value", "_law_one"]
theorem sc_w_is_line_told : FnScope n_w_is_line_told ["_law_setup_here", "_law_lines", "_law_line"] (defScope s_w_is_line_told) := ⟨rfl, rfl, rfl, by decide +kernel, rfl, by decide +kernel, by decide +kernel⟩
abbrev s_w_is_ranked : Stmt := top 53
def d_w_is_ranked : DefZ := ⟨fun K => ga K "_law_is_ranked", "_law_is_ranked", "_law_is_ranked", s_w_is_ranked, []⟩
abbrev n_w_is_ranked : List Str := ["_law_row", "_law_setup_here", "_law_lines", "_law_works", "_law_line", "_law_rank", "_law_other", "_law_one"]
theorem sc_w_is_ranked : FnScope n_w_is_ranked ["_law_row", "_law_setup_here", "_law_lines", "_law_works", "_law_line"] (defScope s_w_is_ranked) := ⟨rfl, rfl, rfl, by decide +kernel, rfl, by decide +kernel, by decide +kernel⟩
abbrev s_w_are_unknown : Stmt := top 54
def d_w_are_unknown : DefZ := ⟨fun K => ga K "_law_are_unknown", "_law_are_unknown", "_law_are_unknown", s_w_are_unknown, []⟩
abbrev n_w_are_unknown : List Str := ["_law_setup_here", "_law_bad", "_law_works", "_law_z", "_law_y", "_law_x", "_law_w", "_law_work"]
theorem sc_w_are_unknown : FnScope n_w_are_unknown ["_law_setup_here"] (defScope s_w_are_unknown) := ⟨rfl, rfl, rfl, by decide +kernel, rfl, by decide +kernel, by decide +kernel⟩
abbrev s_law : Stmt := top 55
def d_law : DefZ := ⟨fun K => ga K "law", "law", "law", s_law, []⟩
abbrev n_law : List Str := ["_law_script", "_law_row", "_law_turn", "_law_lines", "_law_works", "_law_setup_here", "_law_order", "_law_told", "_law_line", "_law_simple", "_law_rank", "_law_name"]
theorem sc_law : FnScope n_law ["_law_script"] (defScope s_law) := ⟨rfl, rfl, rfl, by decide +kernel, rfl, by decide +kernel, by decide +kernel⟩
structure Txt0 (K : Fg) (mg : Str → Option Value) : Prop where
  i_LETTERS : ∃ t, mg "LETTERS" = some (.str "abcdefghijklmnopqrstuvwxyz" t)
  i_MAX_NAME : ∃ t, mg "MAX_NAME" = some (.int 8 t)
  i_MAX_RANK : ∃ t, mg "MAX_RANK" = some (.int 9 t)
  i_MAX_STEPS : ∃ t, mg "MAX_STEPS" = some (.int 8 t)
  i_MAX_TICKS : ∃ t, mg "MAX_TICKS" = some (.int 99 t)
  i_MAX_FLAG : ∃ t, mg "MAX_FLAG" = some (.int 7 t)
  i_EDGE : ∃ t, mg "EDGE" = some (.str "edge" t)
  i_LEVEL : ∃ t, mg "LEVEL" = some (.str "level" t)
  i_RUN : ∃ t, mg "RUN" = some (.str "run" t)
  i_QUIET : ∃ t, mg "QUIET" = some (.str "quiet" t)
  i_AWAIT : ∃ t, mg "AWAIT" = some (.str "await" t)
  i_BAR : ∃ t, mg "BAR" = some (.str "bar" t)
  i_LATER : ∃ t, mg "LATER" = some (.str "later" t)
  g_LINE_WORDS : mg "LINE_WORDS" = some (.ref (ga K "LINE_WORDS"))
  t_LINE_WORDS : ∀ H, SqT K H (ga K "LINE_WORDS") ([.str "ring", .str "quiet", .str "mask", .str "unmask"] : List V)
  g_FLAG_WORDS : mg "FLAG_WORDS" = some (.ref (ga K "FLAG_WORDS"))
  t_FLAG_WORDS : ∀ H, SqT K H (ga K "FLAG_WORDS") ([.str "set", .str "clear", .str "await"] : List V)
  g_is_integer : mg "is_integer" = some (.ref (ga K "is_integer"))
  g_is_word : mg "is_word" = some (.ref (ga K "is_word"))
  g_is_name : mg "is_name" = some (.ref (ga K "is_name"))
  g_is_line : mg "is_line" = some (.ref (ga K "is_line"))
  g_is_work : mg "is_work" = some (.ref (ga K "is_work"))
  g_is_step : mg "is_step" = some (.ref (ga K "is_step"))
  g_check_lines : mg "check_lines" = some (.ref (ga K "check_lines"))
  g_check_works : mg "check_works" = some (.ref (ga K "check_works"))
  g_lines_without : mg "lines_without" = some (.ref (ga K "lines_without"))
  g_setup_of : mg "setup_of" = some (.ref (ga K "setup_of"))
  g_w_taken : mg "_law_taken" = some (.ref (ga K "_law_taken"))
  g_w_alike : mg "_law_alike" = some (.ref (ga K "_law_alike"))
  g_w_mixed : mg "_law_mixed" = some (.ref (ga K "_law_mixed"))
structure Txt1 (K : Fg) (mg : Str → Option Value) : Prop where
  g_w_step : mg "_law_step" = some (.ref (ga K "_law_step"))
  g_w_setup : mg "_law_setup" = some (.ref (ga K "_law_setup"))
  g_w_plain : mg "_law_plain" = some (.ref (ga K "_law_plain"))
  g_w_raised : mg "_law_raised" = some (.ref (ga K "_law_raised"))
  g_w_touched : mg "_law_touched" = some (.ref (ga K "_law_touched"))
  g_w_less : mg "_law_less" = some (.ref (ga K "_law_less"))
  g_w_is_plain : mg "_law_is_plain" = some (.ref (ga K "_law_is_plain"))
  g_w_is_line_told : mg "_law_is_line_told" = some (.ref (ga K "_law_is_line_told"))
  g_w_is_ranked : mg "_law_is_ranked" = some (.ref (ga K "_law_is_ranked"))
  g_w_are_unknown : mg "_law_are_unknown" = some (.ref (ga K "_law_are_unknown"))
  g_law : mg "law" = some (.ref (ga K "law"))
  F_InvalidSetup_init : FunZ K d_InvalidSetup_init
  c_InvalidSetup_init : Cal K (ma K (ga K "InvalidSetup") "__init__") ["self", "part", "index"] []
  F_UnknownLine_init : FunZ K d_UnknownLine_init
  c_UnknownLine_init : Cal K (ma K (ga K "UnknownLine") "__init__") ["self", "line"] []
  F_is_integer : FunZ K d_is_integer
  c_is_integer : Cal K (ga K "is_integer") ["value", "low", "high"] []
  F_is_word : FunZ K d_is_word
  c_is_word : Cal K (ga K "is_word") ["value"] []
  F_is_name : FunZ K d_is_name
  c_is_name : Cal K (ga K "is_name") ["value"] []
  F_is_line : FunZ K d_is_line
  c_is_line : Cal K (ga K "is_line") ["line"] []
  F_is_work : FunZ K d_is_work
  c_is_work : Cal K (ga K "is_work") ["work"] []
  F_is_step : FunZ K d_is_step
  c_is_step : Cal K (ga K "is_step") ["step", "kinds", "works"] []
  F_check_lines : FunZ K d_check_lines
  c_check_lines : Cal K (ga K "check_lines") ["lines", "most"] []
  F_check_works : FunZ K d_check_works
structure Txt2 (K : Fg) (mg : Str → Option Value) : Prop where
  c_check_works : Cal K (ga K "check_works") ["works", "most"] []
  F_Setup_init : FunZ K d_Setup_init
  dt_Setup_init : ∀ H, SqT K H (dfA (fun K => ma K (ga K "Setup") "__init__") 0 K) []
  c_Setup_init : Cal K (ma K (ga K "Setup") "__init__") ["self", "lines", "works"] []
  F_Setup_lines : FunZ K d_Setup_lines
  c_Setup_lines : Cal K (pga K (ga K "Setup") "lines") ["self"] []
  F_Setup_works : FunZ K d_Setup_works
  c_Setup_works : Cal K (pga K (ga K "Setup") "works") ["self"] []
  F_Setup_order : FunZ K d_Setup_order
  c_Setup_order : Cal K (pga K (ga K "Setup") "order") ["self"] []
  F_Setup_is_plain : FunZ K d_Setup_is_plain
  c_Setup_is_plain : Cal K (pga K (ga K "Setup") "is_plain") ["self"] []
  F_Setup_len : FunZ K d_Setup_len
  c_Setup_len : Cal K (ma K (ga K "Setup") "__len__") ["self"] []
  F_Setup_contains : FunZ K d_Setup_contains
  c_Setup_contains : Cal K (ma K (ga K "Setup") "__contains__") ["self", "name"] []
  F_Setup_getitem : FunZ K d_Setup_getitem
  c_Setup_getitem : Cal K (ma K (ga K "Setup") "__getitem__") ["self", "name"] []
  F_Setup_eq : FunZ K d_Setup_eq
  c_Setup_eq : Cal K (ma K (ga K "Setup") "__eq__") ["self", "other"] []
  F_Setup_sub : FunZ K d_Setup_sub
  c_Setup_sub : Cal K (ma K (ga K "Setup") "__sub__") ["self", "name"] []
  F_Setup_check_line : FunZ K d_Setup_check_line
  c_Setup_check_line : Cal K (ma K (ga K "Setup") "check_line") ["self", "name"] []
  F_Setup_with_rank : FunZ K d_Setup_with_rank
  c_Setup_with_rank : Cal K (ma K (ga K "Setup") "with_rank") ["self", "line", "rank"] []
  F_Setup_ticks_of : FunZ K d_Setup_ticks_of
  c_Setup_ticks_of : Cal K (ma K (ga K "Setup") "ticks_of") ["self", "line"] []
  F_Setup_touched_by : FunZ K d_Setup_touched_by
  c_Setup_touched_by : Cal K (ma K (ga K "Setup") "touched_by") ["self", "line"] []
structure Txt3 (K : Fg) (mg : Str → Option Value) : Prop where
  F_lines_without : FunZ K d_lines_without
  c_lines_without : Cal K (ga K "lines_without") ["lines", "name"] []
  F_setup_of : FunZ K d_setup_of
  c_setup_of : Cal K (ga K "setup_of") ["lines", "works"] []
  F_w_taken : FunZ K d_w_taken
  c_w_taken : Cal K (ga K "_law_taken") ["_law_row", "_law_many"] []
  F_w_alike : FunZ K d_w_alike
  c_w_alike : Cal K (ga K "_law_alike") ["_law_one", "_law_due"] []
  F_w_mixed : FunZ K d_w_mixed
  c_w_mixed : Cal K (ga K "_law_mixed") ["_law_row", "_law_things"] []
  F_w_step : FunZ K d_w_step
  c_w_step : Cal K (ga K "_law_step") ["_law_row", "_law_names", "_law_levels", "_law_works"] []
  F_w_setup : FunZ K d_w_setup
  c_w_setup : Cal K (ga K "_law_setup") ["_law_row", "_law_most"] []
  F_w_plain : FunZ K d_w_plain
  c_w_plain : Cal K (ga K "_law_plain") ["_law_row", "_law_most", "_law_long"] []
  F_w_raised : FunZ K d_w_raised
  c_w_raised : Cal K (ga K "_law_raised") ["_law_work"] []
  F_w_touched : FunZ K d_w_touched
  c_w_touched : Cal K (ga K "_law_touched") ["_law_lines", "_law_name"] []
  F_w_less : FunZ K d_w_less
  c_w_less : Cal K (ga K "_law_less") ["_law_lines", "_law_name"] []
  F_w_is_plain : FunZ K d_w_is_plain
  c_w_is_plain : Cal K (ga K "_law_is_plain") ["_law_lines"] []
  F_w_is_line_told : FunZ K d_w_is_line_told
  c_w_is_line_told : Cal K (ga K "_law_is_line_told") ["_law_setup_here", "_law_lines", "_law_line"] []
  F_w_is_ranked : FunZ K d_w_is_ranked
  c_w_is_ranked : Cal K (ga K "_law_is_ranked") ["_law_row", "_law_setup_here", "_law_lines", "_law_works", "_law_line"] []
  F_w_are_unknown : FunZ K d_w_are_unknown
  c_w_are_unknown : Cal K (ga K "_law_are_unknown") ["_law_setup_here"] []
structure Txt4 (K : Fg) (mg : Str → Option Value) : Prop where
  F_law : FunZ K d_law
  c_law : Cal K (ga K "law") ["_law_script"] []
  c2_Setup_init : Cal K (ma K (ga K "Setup") "__init__") ["self", "lines", "works"] [.ref (dfA (fun K => ma K (ga K "Setup") "__init__") 0 K)]
  g_Setup : mg "Setup" = some (.ref (ga K "Setup"))
  cl_Setup : Cls K (ga K "Setup")
  mk_Setup : Mk K (ga K "Setup") (ma K (ga K "Setup") "__init__")
  n_Setup_line_rows : NoAttr K (ga K "Setup") "line_rows"
  n_Setup_work_rows : NoAttr K (ga K "Setup") "work_rows"
  n_Setup_rows_by_name : NoAttr K (ga K "Setup") "rows_by_name"
  n_Setup_works_by_name : NoAttr K (ga K "Setup") "works_by_name"
  m_Setup_init : Meth K (ga K "Setup") "__init__" (ma K (ga K "Setup") "__init__")
  p_Setup_lines : PropOf K (ga K "Setup") "lines" (ma K (ga K "Setup") "lines") (pga K (ga K "Setup") "lines")
  p_Setup_works : PropOf K (ga K "Setup") "works" (ma K (ga K "Setup") "works") (pga K (ga K "Setup") "works")
  p_Setup_order : PropOf K (ga K "Setup") "order" (ma K (ga K "Setup") "order") (pga K (ga K "Setup") "order")
  p_Setup_is_plain : PropOf K (ga K "Setup") "is_plain" (ma K (ga K "Setup") "is_plain") (pga K (ga K "Setup") "is_plain")
  m_Setup_len : Meth K (ga K "Setup") "__len__" (ma K (ga K "Setup") "__len__")
  m_Setup_contains : Meth K (ga K "Setup") "__contains__" (ma K (ga K "Setup") "__contains__")
  m_Setup_getitem : Meth K (ga K "Setup") "__getitem__" (ma K (ga K "Setup") "__getitem__")
  sub_Setup : PySem.W.fnIn K (ma K (ga K "Setup") "__getitem__") = true
  m_Setup_eq : Meth K (ga K "Setup") "__eq__" (ma K (ga K "Setup") "__eq__")
  nfl_Setup : PySem.W.notFirst K (ga K "Setup") (.type "list") = true
  il_Setup : PySem.W.kitOne K (.type "list") (.ref (ga K "Setup")) = some false
  nft_Setup : PySem.W.notFirst K (ga K "Setup") (.type "tuple") = true
  it_Setup : PySem.W.kitOne K (.type "tuple") (.ref (ga K "Setup")) = some false
  is_Setup : IsO K (ga K "Setup")
  m_Setup_sub : Meth K (ga K "Setup") "__sub__" (ma K (ga K "Setup") "__sub__")
  nfi_Setup : PySem.W.notFirst K (ga K "Setup") (.type "int") = true
  nfn_Setup : PySem.W.notFirst K (ga K "Setup") (.type "NoneType") = true
  nfs_Setup : PySem.W.notFirst K (ga K "Setup") (.type "str") = true
  nor_Setup : (PySem.W.findIn K (.ref (ga K "Setup")) "__rsub__").elim false Option.isNone = true
structure Txt5 (K : Fg) (mg : Str → Option Value) : Prop where
  sf_Setup : PySem.W.selfFirst K (ga K "Setup") = true
  m_Setup_check_line : Meth K (ga K "Setup") "check_line" (ma K (ga K "Setup") "check_line")
  m_Setup_with_rank : Meth K (ga K "Setup") "with_rank" (ma K (ga K "Setup") "with_rank")
  m_Setup_ticks_of : Meth K (ga K "Setup") "ticks_of" (ma K (ga K "Setup") "ticks_of")
  m_Setup_touched_by : Meth K (ga K "Setup") "touched_by" (ma K (ga K "Setup") "touched_by")
  k_Setup_MAX_LINES : ClsI K (ga K "Setup") "MAX_LINES" 12
  k_Setup_MAX_WORKS : ClsI K (ga K "Setup") "MAX_WORKS" 8
  k_Setup_MAX_FLAG : ClsI K (ga K "Setup") "MAX_FLAG" 7
  g_BellError : mg "BellError" = some (.ref (ga K "BellError"))
  tl_ne1 : tabA K (ga K "_law_is_line_told") ≠ tabA K (ga K "_law_is_ranked")
  tl_ne2 : tabA K (ga K "_law_is_line_told") ≠ tabA K (ga K "_law_are_unknown")
  tl_ne3 : tabA K (ga K "_law_is_ranked") ≠ tabA K (ga K "_law_are_unknown")
  vi_BellError : VeIn K (ga K "BellError")
  g_InvalidBell : mg "InvalidBell" = some (.ref (ga K "InvalidBell"))
  xc_InvalidBell : ExcC K (ga K "InvalidBell")
  xn_InvalidBell_index : NoAttr K (ga K "InvalidBell") "index"
  g_InvalidFlag : mg "InvalidFlag" = some (.ref (ga K "InvalidFlag"))
  xc_InvalidFlag : ExcC K (ga K "InvalidFlag")
  g_InvalidLog : mg "InvalidLog" = some (.ref (ga K "InvalidLog"))
  xc_InvalidLog : ExcC K (ga K "InvalidLog")
  xn_InvalidLog_index : NoAttr K (ga K "InvalidLog") "index"
  g_InvalidNumber : mg "InvalidNumber" = some (.ref (ga K "InvalidNumber"))
  xc_InvalidNumber : ExcC K (ga K "InvalidNumber")
  g_InvalidSetup : mg "InvalidSetup" = some (.ref (ga K "InvalidSetup"))
  xc_InvalidSetup : ExcC K (ga K "InvalidSetup")
  xn_InvalidSetup_part : NoAttr K (ga K "InvalidSetup") "part"
  xn_InvalidSetup_index : NoAttr K (ga K "InvalidSetup") "index"
  g_NotLevel : mg "NotLevel" = some (.ref (ga K "NotLevel"))
  xc_NotLevel : ExcC K (ga K "NotLevel")
  xn_NotLevel_line : NoAttr K (ga K "NotLevel") "line"
structure Txt6 (K : Fg) (mg : Str → Option Value) : Prop where
  g_NotPlain : mg "NotPlain" = some (.ref (ga K "NotPlain"))
  xc_NotPlain : ExcC K (ga K "NotPlain")
  g_NotationError : mg "NotationError" = some (.ref (ga K "NotationError"))
  xc_NotationError : ExcC K (ga K "NotationError")
  xn_NotationError_row : NoAttr K (ga K "NotationError") "row"
  xn_NotationError_word : NoAttr K (ga K "NotationError") "word"
  g_TooDense : mg "TooDense" = some (.ref (ga K "TooDense"))
  xc_TooDense : ExcC K (ga K "TooDense")
  xn_TooDense_line : NoAttr K (ga K "TooDense") "line"
  g_TooMany : mg "TooMany" = some (.ref (ga K "TooMany"))
  xc_TooMany : ExcC K (ga K "TooMany")
  g_UnknownLine : mg "UnknownLine" = some (.ref (ga K "UnknownLine"))
  xc_UnknownLine : ExcC K (ga K "UnknownLine")
  xn_UnknownLine_line : NoAttr K (ga K "UnknownLine") "line"
  xo_UnknownLine : OexC K (ga K "UnknownLine")
  xi_UnknownLine : OexI K (ga K "UnknownLine") (ma K (ga K "UnknownLine") "__init__")
  xm_UnknownLine : PySem.W.exmOne K (.ref (ga K "UnknownLine")) (.ref (ga K "BellError")) = some true
  xv_UnknownLine : PySem.W.kitOne K (.ref (ga K "UnknownLine")) (.type "ValueError") = some true
  xk_UnknownLine_InvalidSetup : PySem.W.kitOne K (.ref (ga K "UnknownLine")) (.ref (ga K "InvalidSetup")) = some false
  xk_UnknownLine_UnknownLine : PySem.W.kitOne K (.ref (ga K "UnknownLine")) (.ref (ga K "UnknownLine")) = some true
  xk_UnknownLine_NotLevel : PySem.W.kitOne K (.ref (ga K "UnknownLine")) (.ref (ga K "NotLevel")) = some false
  xk_UnknownLine_InvalidNumber : PySem.W.kitOne K (.ref (ga K "UnknownLine")) (.ref (ga K "InvalidNumber")) = some false
  xk_UnknownLine_InvalidFlag : PySem.W.kitOne K (.ref (ga K "UnknownLine")) (.ref (ga K "InvalidFlag")) = some false
  xk_UnknownLine_InvalidBell : PySem.W.kitOne K (.ref (ga K "UnknownLine")) (.ref (ga K "InvalidBell")) = some false
  xk_UnknownLine_TooMany : PySem.W.kitOne K (.ref (ga K "UnknownLine")) (.ref (ga K "TooMany")) = some false
  xk_UnknownLine_NotPlain : PySem.W.kitOne K (.ref (ga K "UnknownLine")) (.ref (ga K "NotPlain")) = some false
  xk_UnknownLine_TooDense : PySem.W.kitOne K (.ref (ga K "UnknownLine")) (.ref (ga K "TooDense")) = some false
  xk_UnknownLine_InvalidLog : PySem.W.kitOne K (.ref (ga K "UnknownLine")) (.ref (ga K "InvalidLog")) = some false
  xk_UnknownLine_NotationError : PySem.W.kitOne K (.ref (ga K "UnknownLine")) (.ref (ga K "NotationError")) = some false
  xo_InvalidSetup : OexC K (ga K "InvalidSetup")
structure Txt7 (K : Fg) (mg : Str → Option Value) : Prop where
  xi_InvalidSetup : OexI K (ga K "InvalidSetup") (ma K (ga K "InvalidSetup") "__init__")
  xm_InvalidSetup : PySem.W.exmOne K (.ref (ga K "InvalidSetup")) (.ref (ga K "BellError")) = some true
  xv_InvalidSetup : PySem.W.kitOne K (.ref (ga K "InvalidSetup")) (.type "ValueError") = some true
  xk_InvalidSetup_InvalidSetup : PySem.W.kitOne K (.ref (ga K "InvalidSetup")) (.ref (ga K "InvalidSetup")) = some true
  xk_InvalidSetup_UnknownLine : PySem.W.kitOne K (.ref (ga K "InvalidSetup")) (.ref (ga K "UnknownLine")) = some false
  xk_InvalidSetup_NotLevel : PySem.W.kitOne K (.ref (ga K "InvalidSetup")) (.ref (ga K "NotLevel")) = some false
  xk_InvalidSetup_InvalidNumber : PySem.W.kitOne K (.ref (ga K "InvalidSetup")) (.ref (ga K "InvalidNumber")) = some false
  xk_InvalidSetup_InvalidFlag : PySem.W.kitOne K (.ref (ga K "InvalidSetup")) (.ref (ga K "InvalidFlag")) = some false
  xk_InvalidSetup_InvalidBell : PySem.W.kitOne K (.ref (ga K "InvalidSetup")) (.ref (ga K "InvalidBell")) = some false
  xk_InvalidSetup_TooMany : PySem.W.kitOne K (.ref (ga K "InvalidSetup")) (.ref (ga K "TooMany")) = some false
  xk_InvalidSetup_NotPlain : PySem.W.kitOne K (.ref (ga K "InvalidSetup")) (.ref (ga K "NotPlain")) = some false
  xk_InvalidSetup_TooDense : PySem.W.kitOne K (.ref (ga K "InvalidSetup")) (.ref (ga K "TooDense")) = some false
  xk_InvalidSetup_InvalidLog : PySem.W.kitOne K (.ref (ga K "InvalidSetup")) (.ref (ga K "InvalidLog")) = some false
  xk_InvalidSetup_NotationError : PySem.W.kitOne K (.ref (ga K "InvalidSetup")) (.ref (ga K "NotationError")) = some false
  u_isinstance : mg "isinstance" = none
  u_bool : mg "bool" = none
  u_int : mg "int" = none
  u_all : mg "all" = none
  u_str : mg "str" = none
  u_len : mg "len" = none
  u_tuple : mg "tuple" = none
  u_enumerate : mg "enumerate" = none
  u_sorted : mg "sorted" = none
  u_set : mg "set" = none
  u_sum : mg "sum" = none
  u_list : mg "list" = none
  u_range : mg "range" = none
  u_ValueError : mg "ValueError" = none
structure Txt (K : Fg) (mg : Str → Option Value) : Prop where
  p0 : Txt0 K mg
  p1 : Txt1 K mg
  p2 : Txt2 K mg
  p3 : Txt3 K mg
  p4 : Txt4 K mg
  p5 : Txt5 K mg
  p6 : Txt6 K mg
  p7 : Txt7 K mg
section
variable {K : Fg} {mg : Str → Option Value} (T : Txt K mg) 
include T
theorem Txt.i_LETTERS : ∃ t, mg "LETTERS" = some (.str "abcdefghijklmnopqrstuvwxyz" t) := T.p0.i_LETTERS
theorem Txt.i_MAX_NAME : ∃ t, mg "MAX_NAME" = some (.int 8 t) := T.p0.i_MAX_NAME
theorem Txt.i_MAX_RANK : ∃ t, mg "MAX_RANK" = some (.int 9 t) := T.p0.i_MAX_RANK
theorem Txt.i_MAX_STEPS : ∃ t, mg "MAX_STEPS" = some (.int 8 t) := T.p0.i_MAX_STEPS
theorem Txt.i_MAX_TICKS : ∃ t, mg "MAX_TICKS" = some (.int 99 t) := T.p0.i_MAX_TICKS
theorem Txt.i_MAX_FLAG : ∃ t, mg "MAX_FLAG" = some (.int 7 t) := T.p0.i_MAX_FLAG
theorem Txt.i_EDGE : ∃ t, mg "EDGE" = some (.str "edge" t) := T.p0.i_EDGE
theorem Txt.i_LEVEL : ∃ t, mg "LEVEL" = some (.str "level" t) := T.p0.i_LEVEL
theorem Txt.i_RUN : ∃ t, mg "RUN" = some (.str "run" t) := T.p0.i_RUN
theorem Txt.i_QUIET : ∃ t, mg "QUIET" = some (.str "quiet" t) := T.p0.i_QUIET
theorem Txt.i_BAR : ∃ t, mg "BAR" = some (.str "bar" t) := T.p0.i_BAR
theorem Txt.i_LATER : ∃ t, mg "LATER" = some (.str "later" t) := T.p0.i_LATER
theorem Txt.g_LINE_WORDS : mg "LINE_WORDS" = some (.ref (ga K "LINE_WORDS")) := T.p0.g_LINE_WORDS
theorem Txt.t_LINE_WORDS : ∀ H, SqT K H (ga K "LINE_WORDS") ([.str "ring", .str "quiet", .str "mask", .str "unmask"] : List V) := T.p0.t_LINE_WORDS
theorem Txt.g_FLAG_WORDS : mg "FLAG_WORDS" = some (.ref (ga K "FLAG_WORDS")) := T.p0.g_FLAG_WORDS
theorem Txt.t_FLAG_WORDS : ∀ H, SqT K H (ga K "FLAG_WORDS") ([.str "set", .str "clear", .str "await"] : List V) := T.p0.t_FLAG_WORDS
theorem Txt.g_is_integer : mg "is_integer" = some (.ref (ga K "is_integer")) := T.p0.g_is_integer
theorem Txt.g_is_word : mg "is_word" = some (.ref (ga K "is_word")) := T.p0.g_is_word
theorem Txt.g_is_name : mg "is_name" = some (.ref (ga K "is_name")) := T.p0.g_is_name
theorem Txt.g_is_line : mg "is_line" = some (.ref (ga K "is_line")) := T.p0.g_is_line
theorem Txt.g_is_work : mg "is_work" = some (.ref (ga K "is_work")) := T.p0.g_is_work
theorem Txt.g_is_step : mg "is_step" = some (.ref (ga K "is_step")) := T.p0.g_is_step
theorem Txt.g_check_lines : mg "check_lines" = some (.ref (ga K "check_lines")) := T.p0.g_check_lines
theorem Txt.g_check_works : mg "check_works" = some (.ref (ga K "check_works")) := T.p0.g_check_works
theorem Txt.g_lines_without : mg "lines_without" = some (.ref (ga K "lines_without")) := T.p0.g_lines_without
theorem Txt.g_setup_of : mg "setup_of" = some (.ref (ga K "setup_of")) := T.p0.g_setup_of
theorem Txt.g_w_taken : mg "_law_taken" = some (.ref (ga K "_law_taken")) := T.p0.g_w_taken
theorem Txt.g_w_alike : mg "_law_alike" = some (.ref (ga K "_law_alike")) := T.p0.g_w_alike
theorem Txt.g_w_mixed : mg "_law_mixed" = some (.ref (ga K "_law_mixed")) := T.p0.g_w_mixed
theorem Txt.g_w_step : mg "_law_step" = some (.ref (ga K "_law_step")) := T.p1.g_w_step
theorem Txt.g_w_setup : mg "_law_setup" = some (.ref (ga K "_law_setup")) := T.p1.g_w_setup
theorem Txt.g_w_plain : mg "_law_plain" = some (.ref (ga K "_law_plain")) := T.p1.g_w_plain
theorem Txt.g_w_raised : mg "_law_raised" = some (.ref (ga K "_law_raised")) := T.p1.g_w_raised
theorem Txt.g_w_touched : mg "_law_touched" = some (.ref (ga K "_law_touched")) := T.p1.g_w_touched
theorem Txt.g_w_less : mg "_law_less" = some (.ref (ga K "_law_less")) := T.p1.g_w_less
theorem Txt.g_w_is_plain : mg "_law_is_plain" = some (.ref (ga K "_law_is_plain")) := T.p1.g_w_is_plain
theorem Txt.g_w_is_line_told : mg "_law_is_line_told" = some (.ref (ga K "_law_is_line_told")) := T.p1.g_w_is_line_told
theorem Txt.g_w_is_ranked : mg "_law_is_ranked" = some (.ref (ga K "_law_is_ranked")) := T.p1.g_w_is_ranked
theorem Txt.g_w_are_unknown : mg "_law_are_unknown" = some (.ref (ga K "_law_are_unknown")) := T.p1.g_w_are_unknown
theorem Txt.g_law : mg "law" = some (.ref (ga K "law")) := T.p1.g_law
theorem Txt.F_InvalidSetup_init : FunZ K d_InvalidSetup_init := T.p1.F_InvalidSetup_init
theorem Txt.c_InvalidSetup_init : Cal K (ma K (ga K "InvalidSetup") "__init__") ["self", "part", "index"] [] := T.p1.c_InvalidSetup_init
theorem Txt.F_UnknownLine_init : FunZ K d_UnknownLine_init := T.p1.F_UnknownLine_init
theorem Txt.c_UnknownLine_init : Cal K (ma K (ga K "UnknownLine") "__init__") ["self", "line"] [] := T.p1.c_UnknownLine_init
theorem Txt.F_is_integer : FunZ K d_is_integer := T.p1.F_is_integer
theorem Txt.c_is_integer : Cal K (ga K "is_integer") ["value", "low", "high"] [] := T.p1.c_is_integer
theorem Txt.F_is_word : FunZ K d_is_word := T.p1.F_is_word
theorem Txt.c_is_word : Cal K (ga K "is_word") ["value"] [] := T.p1.c_is_word
theorem Txt.F_is_name : FunZ K d_is_name := T.p1.F_is_name
theorem Txt.c_is_name : Cal K (ga K "is_name") ["value"] [] := T.p1.c_is_name
theorem Txt.F_is_line : FunZ K d_is_line := T.p1.F_is_line
theorem Txt.c_is_line : Cal K (ga K "is_line") ["line"] [] := T.p1.c_is_line
theorem Txt.F_is_work : FunZ K d_is_work := T.p1.F_is_work
theorem Txt.c_is_work : Cal K (ga K "is_work") ["work"] [] := T.p1.c_is_work
theorem Txt.F_is_step : FunZ K d_is_step := T.p1.F_is_step
theorem Txt.c_is_step : Cal K (ga K "is_step") ["step", "kinds", "works"] [] := T.p1.c_is_step
theorem Txt.F_check_lines : FunZ K d_check_lines := T.p1.F_check_lines
theorem Txt.c_check_lines : Cal K (ga K "check_lines") ["lines", "most"] [] := T.p1.c_check_lines
theorem Txt.F_check_works : FunZ K d_check_works := T.p1.F_check_works
theorem Txt.c_check_works : Cal K (ga K "check_works") ["works", "most"] [] := T.p2.c_check_works
theorem Txt.F_Setup_init : FunZ K d_Setup_init := T.p2.F_Setup_init
theorem Txt.dt_Setup_init : ∀ H, SqT K H (dfA (fun K => ma K (ga K "Setup") "__init__") 0 K) [] := T.p2.dt_Setup_init
theorem Txt.c_Setup_init : Cal K (ma K (ga K "Setup") "__init__") ["self", "lines", "works"] [] := T.p2.c_Setup_init
theorem Txt.F_Setup_lines : FunZ K d_Setup_lines := T.p2.F_Setup_lines
theorem Txt.c_Setup_lines : Cal K (pga K (ga K "Setup") "lines") ["self"] [] := T.p2.c_Setup_lines
theorem Txt.F_Setup_works : FunZ K d_Setup_works := T.p2.F_Setup_works
theorem Txt.c_Setup_works : Cal K (pga K (ga K "Setup") "works") ["self"] [] := T.p2.c_Setup_works
theorem Txt.F_Setup_order : FunZ K d_Setup_order := T.p2.F_Setup_order
theorem Txt.c_Setup_order : Cal K (pga K (ga K "Setup") "order") ["self"] [] := T.p2.c_Setup_order
theorem Txt.F_Setup_is_plain : FunZ K d_Setup_is_plain := T.p2.F_Setup_is_plain
theorem Txt.c_Setup_is_plain : Cal K (pga K (ga K "Setup") "is_plain") ["self"] [] := T.p2.c_Setup_is_plain
theorem Txt.F_Setup_len : FunZ K d_Setup_len := T.p2.F_Setup_len
theorem Txt.c_Setup_len : Cal K (ma K (ga K "Setup") "__len__") ["self"] [] := T.p2.c_Setup_len
theorem Txt.F_Setup_contains : FunZ K d_Setup_contains := T.p2.F_Setup_contains
theorem Txt.c_Setup_contains : Cal K (ma K (ga K "Setup") "__contains__") ["self", "name"] [] := T.p2.c_Setup_contains
theorem Txt.F_Setup_getitem : FunZ K d_Setup_getitem := T.p2.F_Setup_getitem
theorem Txt.c_Setup_getitem : Cal K (ma K (ga K "Setup") "__getitem__") ["self", "name"] [] := T.p2.c_Setup_getitem
theorem Txt.F_Setup_eq : FunZ K d_Setup_eq := T.p2.F_Setup_eq
theorem Txt.c_Setup_eq : Cal K (ma K (ga K "Setup") "__eq__") ["self", "other"] [] := T.p2.c_Setup_eq
theorem Txt.F_Setup_sub : FunZ K d_Setup_sub := T.p2.F_Setup_sub
theorem Txt.c_Setup_sub : Cal K (ma K (ga K "Setup") "__sub__") ["self", "name"] [] := T.p2.c_Setup_sub
theorem Txt.F_Setup_check_line : FunZ K d_Setup_check_line := T.p2.F_Setup_check_line
theorem Txt.c_Setup_check_line : Cal K (ma K (ga K "Setup") "check_line") ["self", "name"] [] := T.p2.c_Setup_check_line
theorem Txt.F_Setup_with_rank : FunZ K d_Setup_with_rank := T.p2.F_Setup_with_rank
theorem Txt.c_Setup_with_rank : Cal K (ma K (ga K "Setup") "with_rank") ["self", "line", "rank"] [] := T.p2.c_Setup_with_rank
theorem Txt.F_Setup_ticks_of : FunZ K d_Setup_ticks_of := T.p2.F_Setup_ticks_of
theorem Txt.c_Setup_ticks_of : Cal K (ma K (ga K "Setup") "ticks_of") ["self", "line"] [] := T.p2.c_Setup_ticks_of
theorem Txt.F_Setup_touched_by : FunZ K d_Setup_touched_by := T.p2.F_Setup_touched_by
theorem Txt.c_Setup_touched_by : Cal K (ma K (ga K "Setup") "touched_by") ["self", "line"] [] := T.p2.c_Setup_touched_by
theorem Txt.F_lines_without : FunZ K d_lines_without := T.p3.F_lines_without
theorem Txt.c_lines_without : Cal K (ga K "lines_without") ["lines", "name"] [] := T.p3.c_lines_without
theorem Txt.F_setup_of : FunZ K d_setup_of := T.p3.F_setup_of
theorem Txt.c_setup_of : Cal K (ga K "setup_of") ["lines", "works"] [] := T.p3.c_setup_of
theorem Txt.F_w_taken : FunZ K d_w_taken := T.p3.F_w_taken
theorem Txt.c_w_taken : Cal K (ga K "_law_taken") ["_law_row", "_law_many"] [] := T.p3.c_w_taken
theorem Txt.F_w_alike : FunZ K d_w_alike := T.p3.F_w_alike
theorem Txt.c_w_alike : Cal K (ga K "_law_alike") ["_law_one", "_law_due"] [] := T.p3.c_w_alike
theorem Txt.F_w_mixed : FunZ K d_w_mixed := T.p3.F_w_mixed
theorem Txt.c_w_mixed : Cal K (ga K "_law_mixed") ["_law_row", "_law_things"] [] := T.p3.c_w_mixed
theorem Txt.F_w_step : FunZ K d_w_step := T.p3.F_w_step
theorem Txt.c_w_step : Cal K (ga K "_law_step") ["_law_row", "_law_names", "_law_levels", "_law_works"] [] := T.p3.c_w_step
theorem Txt.F_w_setup : FunZ K d_w_setup := T.p3.F_w_setup
theorem Txt.c_w_setup : Cal K (ga K "_law_setup") ["_law_row", "_law_most"] [] := T.p3.c_w_setup
theorem Txt.F_w_plain : FunZ K d_w_plain := T.p3.F_w_plain
theorem Txt.c_w_plain : Cal K (ga K "_law_plain") ["_law_row", "_law_most", "_law_long"] [] := T.p3.c_w_plain
theorem Txt.F_w_raised : FunZ K d_w_raised := T.p3.F_w_raised
theorem Txt.c_w_raised : Cal K (ga K "_law_raised") ["_law_work"] [] := T.p3.c_w_raised
theorem Txt.F_w_touched : FunZ K d_w_touched := T.p3.F_w_touched
theorem Txt.c_w_touched : Cal K (ga K "_law_touched") ["_law_lines", "_law_name"] [] := T.p3.c_w_touched
theorem Txt.F_w_less : FunZ K d_w_less := T.p3.F_w_less
theorem Txt.c_w_less : Cal K (ga K "_law_less") ["_law_lines", "_law_name"] [] := T.p3.c_w_less
theorem Txt.F_w_is_plain : FunZ K d_w_is_plain := T.p3.F_w_is_plain
theorem Txt.c_w_is_plain : Cal K (ga K "_law_is_plain") ["_law_lines"] [] := T.p3.c_w_is_plain
theorem Txt.F_w_is_line_told : FunZ K d_w_is_line_told := T.p3.F_w_is_line_told
theorem Txt.c_w_is_line_told : Cal K (ga K "_law_is_line_told") ["_law_setup_here", "_law_lines", "_law_line"] [] := T.p3.c_w_is_line_told
theorem Txt.F_w_is_ranked : FunZ K d_w_is_ranked := T.p3.F_w_is_ranked
theorem Txt.c_w_is_ranked : Cal K (ga K "_law_is_ranked") ["_law_row", "_law_setup_here", "_law_lines", "_law_works", "_law_line"] [] := T.p3.c_w_is_ranked
theorem Txt.F_w_are_unknown : FunZ K d_w_are_unknown := T.p3.F_w_are_unknown
theorem Txt.c_w_are_unknown : Cal K (ga K "_law_are_unknown") ["_law_setup_here"] [] := T.p3.c_w_are_unknown
theorem Txt.F_law : FunZ K d_law := T.p4.F_law
theorem Txt.c2_Setup_init : Cal K (ma K (ga K "Setup") "__init__") ["self", "lines", "works"] [.ref (dfA (fun K => ma K (ga K "Setup") "__init__") 0 K)] := T.p4.c2_Setup_init
theorem Txt.g_Setup : mg "Setup" = some (.ref (ga K "Setup")) := T.p4.g_Setup
theorem Txt.cl_Setup : Cls K (ga K "Setup") := T.p4.cl_Setup
theorem Txt.mk_Setup : Mk K (ga K "Setup") (ma K (ga K "Setup") "__init__") := T.p4.mk_Setup
theorem Txt.n_Setup_line_rows : NoAttr K (ga K "Setup") "line_rows" := T.p4.n_Setup_line_rows
theorem Txt.n_Setup_work_rows : NoAttr K (ga K "Setup") "work_rows" := T.p4.n_Setup_work_rows
theorem Txt.n_Setup_rows_by_name : NoAttr K (ga K "Setup") "rows_by_name" := T.p4.n_Setup_rows_by_name
theorem Txt.n_Setup_works_by_name : NoAttr K (ga K "Setup") "works_by_name" := T.p4.n_Setup_works_by_name
theorem Txt.p_Setup_lines : PropOf K (ga K "Setup") "lines" (ma K (ga K "Setup") "lines") (pga K (ga K "Setup") "lines") := T.p4.p_Setup_lines
theorem Txt.p_Setup_works : PropOf K (ga K "Setup") "works" (ma K (ga K "Setup") "works") (pga K (ga K "Setup") "works") := T.p4.p_Setup_works
theorem Txt.p_Setup_order : PropOf K (ga K "Setup") "order" (ma K (ga K "Setup") "order") (pga K (ga K "Setup") "order") := T.p4.p_Setup_order
theorem Txt.p_Setup_is_plain : PropOf K (ga K "Setup") "is_plain" (ma K (ga K "Setup") "is_plain") (pga K (ga K "Setup") "is_plain") := T.p4.p_Setup_is_plain
theorem Txt.m_Setup_len : Meth K (ga K "Setup") "__len__" (ma K (ga K "Setup") "__len__") := T.p4.m_Setup_len
theorem Txt.m_Setup_contains : Meth K (ga K "Setup") "__contains__" (ma K (ga K "Setup") "__contains__") := T.p4.m_Setup_contains
theorem Txt.m_Setup_getitem : Meth K (ga K "Setup") "__getitem__" (ma K (ga K "Setup") "__getitem__") := T.p4.m_Setup_getitem
theorem Txt.sub_Setup : PySem.W.fnIn K (ma K (ga K "Setup") "__getitem__") = true := T.p4.sub_Setup
theorem Txt.m_Setup_eq : Meth K (ga K "Setup") "__eq__" (ma K (ga K "Setup") "__eq__") := T.p4.m_Setup_eq
theorem Txt.nft_Setup : PySem.W.notFirst K (ga K "Setup") (.type "tuple") = true := T.p4.nft_Setup
theorem Txt.it_Setup : PySem.W.kitOne K (.type "tuple") (.ref (ga K "Setup")) = some false := T.p4.it_Setup
theorem Txt.is_Setup : IsO K (ga K "Setup") := T.p4.is_Setup
theorem Txt.m_Setup_sub : Meth K (ga K "Setup") "__sub__" (ma K (ga K "Setup") "__sub__") := T.p4.m_Setup_sub
theorem Txt.nfi_Setup : PySem.W.notFirst K (ga K "Setup") (.type "int") = true := T.p4.nfi_Setup
theorem Txt.nfn_Setup : PySem.W.notFirst K (ga K "Setup") (.type "NoneType") = true := T.p4.nfn_Setup
theorem Txt.nfs_Setup : PySem.W.notFirst K (ga K "Setup") (.type "str") = true := T.p4.nfs_Setup
theorem Txt.nor_Setup : (PySem.W.findIn K (.ref (ga K "Setup")) "__rsub__").elim false Option.isNone = true := T.p4.nor_Setup
theorem Txt.sf_Setup : PySem.W.selfFirst K (ga K "Setup") = true := T.p5.sf_Setup
theorem Txt.m_Setup_check_line : Meth K (ga K "Setup") "check_line" (ma K (ga K "Setup") "check_line") := T.p5.m_Setup_check_line
theorem Txt.m_Setup_with_rank : Meth K (ga K "Setup") "with_rank" (ma K (ga K "Setup") "with_rank") := T.p5.m_Setup_with_rank
theorem Txt.m_Setup_ticks_of : Meth K (ga K "Setup") "ticks_of" (ma K (ga K "Setup") "ticks_of") := T.p5.m_Setup_ticks_of
theorem Txt.m_Setup_touched_by : Meth K (ga K "Setup") "touched_by" (ma K (ga K "Setup") "touched_by") := T.p5.m_Setup_touched_by
theorem Txt.k_Setup_MAX_LINES : ClsI K (ga K "Setup") "MAX_LINES" 12 := T.p5.k_Setup_MAX_LINES
theorem Txt.k_Setup_MAX_WORKS : ClsI K (ga K "Setup") "MAX_WORKS" 8 := T.p5.k_Setup_MAX_WORKS
theorem Txt.g_BellError : mg "BellError" = some (.ref (ga K "BellError")) := T.p5.g_BellError
theorem Txt.tl_ne1 : tabA K (ga K "_law_is_line_told") ≠ tabA K (ga K "_law_is_ranked") := T.p5.tl_ne1
theorem Txt.tl_ne2 : tabA K (ga K "_law_is_line_told") ≠ tabA K (ga K "_law_are_unknown") := T.p5.tl_ne2
theorem Txt.tl_ne3 : tabA K (ga K "_law_is_ranked") ≠ tabA K (ga K "_law_are_unknown") := T.p5.tl_ne3
theorem Txt.vi_BellError : VeIn K (ga K "BellError") := T.p5.vi_BellError
theorem Txt.g_InvalidBell : mg "InvalidBell" = some (.ref (ga K "InvalidBell")) := T.p5.g_InvalidBell
theorem Txt.xc_InvalidBell : ExcC K (ga K "InvalidBell") := T.p5.xc_InvalidBell
theorem Txt.xn_InvalidBell_index : NoAttr K (ga K "InvalidBell") "index" := T.p5.xn_InvalidBell_index
theorem Txt.g_InvalidFlag : mg "InvalidFlag" = some (.ref (ga K "InvalidFlag")) := T.p5.g_InvalidFlag
theorem Txt.g_InvalidLog : mg "InvalidLog" = some (.ref (ga K "InvalidLog")) := T.p5.g_InvalidLog
theorem Txt.g_InvalidNumber : mg "InvalidNumber" = some (.ref (ga K "InvalidNumber")) := T.p5.g_InvalidNumber
theorem Txt.g_InvalidSetup : mg "InvalidSetup" = some (.ref (ga K "InvalidSetup")) := T.p5.g_InvalidSetup
theorem Txt.xc_InvalidSetup : ExcC K (ga K "InvalidSetup") := T.p5.xc_InvalidSetup
theorem Txt.xn_InvalidSetup_part : NoAttr K (ga K "InvalidSetup") "part" := T.p5.xn_InvalidSetup_part
theorem Txt.xn_InvalidSetup_index : NoAttr K (ga K "InvalidSetup") "index" := T.p5.xn_InvalidSetup_index
theorem Txt.g_NotLevel : mg "NotLevel" = some (.ref (ga K "NotLevel")) := T.p5.g_NotLevel
theorem Txt.g_NotPlain : mg "NotPlain" = some (.ref (ga K "NotPlain")) := T.p6.g_NotPlain
theorem Txt.g_NotationError : mg "NotationError" = some (.ref (ga K "NotationError")) := T.p6.g_NotationError
theorem Txt.xc_NotationError : ExcC K (ga K "NotationError") := T.p6.xc_NotationError
theorem Txt.xn_NotationError_row : NoAttr K (ga K "NotationError") "row" := T.p6.xn_NotationError_row
theorem Txt.xn_NotationError_word : NoAttr K (ga K "NotationError") "word" := T.p6.xn_NotationError_word
theorem Txt.g_TooDense : mg "TooDense" = some (.ref (ga K "TooDense")) := T.p6.g_TooDense
theorem Txt.g_TooMany : mg "TooMany" = some (.ref (ga K "TooMany")) := T.p6.g_TooMany
theorem Txt.g_UnknownLine : mg "UnknownLine" = some (.ref (ga K "UnknownLine")) := T.p6.g_UnknownLine
theorem Txt.xc_UnknownLine : ExcC K (ga K "UnknownLine") := T.p6.xc_UnknownLine
theorem Txt.xn_UnknownLine_line : NoAttr K (ga K "UnknownLine") "line" := T.p6.xn_UnknownLine_line
theorem Txt.xo_UnknownLine : OexC K (ga K "UnknownLine") := T.p6.xo_UnknownLine
theorem Txt.xi_UnknownLine : OexI K (ga K "UnknownLine") (ma K (ga K "UnknownLine") "__init__") := T.p6.xi_UnknownLine
theorem Txt.xm_UnknownLine : PySem.W.exmOne K (.ref (ga K "UnknownLine")) (.ref (ga K "BellError")) = some true := T.p6.xm_UnknownLine
theorem Txt.xv_UnknownLine : PySem.W.kitOne K (.ref (ga K "UnknownLine")) (.type "ValueError") = some true := T.p6.xv_UnknownLine
theorem Txt.xk_UnknownLine_InvalidSetup : PySem.W.kitOne K (.ref (ga K "UnknownLine")) (.ref (ga K "InvalidSetup")) = some false := T.p6.xk_UnknownLine_InvalidSetup
theorem Txt.xk_UnknownLine_UnknownLine : PySem.W.kitOne K (.ref (ga K "UnknownLine")) (.ref (ga K "UnknownLine")) = some true := T.p6.xk_UnknownLine_UnknownLine
theorem Txt.xk_UnknownLine_NotLevel : PySem.W.kitOne K (.ref (ga K "UnknownLine")) (.ref (ga K "NotLevel")) = some false := T.p6.xk_UnknownLine_NotLevel
theorem Txt.xk_UnknownLine_InvalidNumber : PySem.W.kitOne K (.ref (ga K "UnknownLine")) (.ref (ga K "InvalidNumber")) = some false := T.p6.xk_UnknownLine_InvalidNumber
theorem Txt.xk_UnknownLine_InvalidFlag : PySem.W.kitOne K (.ref (ga K "UnknownLine")) (.ref (ga K "InvalidFlag")) = some false := T.p6.xk_UnknownLine_InvalidFlag
theorem Txt.xk_UnknownLine_InvalidBell : PySem.W.kitOne K (.ref (ga K "UnknownLine")) (.ref (ga K "InvalidBell")) = some false := T.p6.xk_UnknownLine_InvalidBell
theorem Txt.xk_UnknownLine_TooMany : PySem.W.kitOne K (.ref (ga K "UnknownLine")) (.ref (ga K "TooMany")) = some false := T.p6.xk_UnknownLine_TooMany
theorem Txt.xk_UnknownLine_NotPlain : PySem.W.kitOne K (.ref (ga K "UnknownLine")) (.ref (ga K "NotPlain")) = some false := T.p6.xk_UnknownLine_NotPlain
theorem Txt.xk_UnknownLine_TooDense : PySem.W.kitOne K (.ref (ga K "UnknownLine")) (.ref (ga K "TooDense")) = some false := T.p6.xk_UnknownLine_TooDense
theorem Txt.xk_UnknownLine_InvalidLog : PySem.W.kitOne K (.ref (ga K "UnknownLine")) (.ref (ga K "InvalidLog")) = some false := T.p6.xk_UnknownLine_InvalidLog
theorem Txt.xk_UnknownLine_NotationError : PySem.W.kitOne K (.ref (ga K "UnknownLine")) (.ref (ga K "NotationError")) = some false := T.p6.xk_UnknownLine_NotationError
theorem Txt.xo_InvalidSetup : OexC K (ga K "InvalidSetup") := T.p6.xo_InvalidSetup
theorem Txt.xi_InvalidSetup : OexI K (ga K "InvalidSetup") (ma K (ga K "InvalidSetup") "__init__") := T.p7.xi_InvalidSetup
theorem Txt.xm_InvalidSetup : PySem.W.exmOne K (.ref (ga K "InvalidSetup")) (.ref (ga K "BellError")) = some true := T.p7.xm_InvalidSetup
theorem Txt.xv_InvalidSetup : PySem.W.kitOne K (.ref (ga K "InvalidSetup")) (.type "ValueError") = some true := T.p7.xv_InvalidSetup
theorem Txt.xk_InvalidSetup_InvalidSetup : PySem.W.kitOne K (.ref (ga K "InvalidSetup")) (.ref (ga K "InvalidSetup")) = some true := T.p7.xk_InvalidSetup_InvalidSetup
theorem Txt.xk_InvalidSetup_UnknownLine : PySem.W.kitOne K (.ref (ga K "InvalidSetup")) (.ref (ga K "UnknownLine")) = some false := T.p7.xk_InvalidSetup_UnknownLine
theorem Txt.xk_InvalidSetup_NotLevel : PySem.W.kitOne K (.ref (ga K "InvalidSetup")) (.ref (ga K "NotLevel")) = some false := T.p7.xk_InvalidSetup_NotLevel
theorem Txt.xk_InvalidSetup_InvalidNumber : PySem.W.kitOne K (.ref (ga K "InvalidSetup")) (.ref (ga K "InvalidNumber")) = some false := T.p7.xk_InvalidSetup_InvalidNumber
theorem Txt.xk_InvalidSetup_InvalidFlag : PySem.W.kitOne K (.ref (ga K "InvalidSetup")) (.ref (ga K "InvalidFlag")) = some false := T.p7.xk_InvalidSetup_InvalidFlag
theorem Txt.xk_InvalidSetup_InvalidBell : PySem.W.kitOne K (.ref (ga K "InvalidSetup")) (.ref (ga K "InvalidBell")) = some false := T.p7.xk_InvalidSetup_InvalidBell
theorem Txt.xk_InvalidSetup_TooMany : PySem.W.kitOne K (.ref (ga K "InvalidSetup")) (.ref (ga K "TooMany")) = some false := T.p7.xk_InvalidSetup_TooMany
theorem Txt.xk_InvalidSetup_NotPlain : PySem.W.kitOne K (.ref (ga K "InvalidSetup")) (.ref (ga K "NotPlain")) = some false := T.p7.xk_InvalidSetup_NotPlain
theorem Txt.xk_InvalidSetup_TooDense : PySem.W.kitOne K (.ref (ga K "InvalidSetup")) (.ref (ga K "TooDense")) = some false := T.p7.xk_InvalidSetup_TooDense
theorem Txt.xk_InvalidSetup_InvalidLog : PySem.W.kitOne K (.ref (ga K "InvalidSetup")) (.ref (ga K "InvalidLog")) = some false := T.p7.xk_InvalidSetup_InvalidLog
theorem Txt.xk_InvalidSetup_NotationError : PySem.W.kitOne K (.ref (ga K "InvalidSetup")) (.ref (ga K "NotationError")) = some false := T.p7.xk_InvalidSetup_NotationError
theorem Txt.u_isinstance : mg "isinstance" = none := T.p7.u_isinstance
theorem Txt.u_bool : mg "bool" = none := T.p7.u_bool
theorem Txt.u_int : mg "int" = none := T.p7.u_int
theorem Txt.u_all : mg "all" = none := T.p7.u_all
theorem Txt.u_str : mg "str" = none := T.p7.u_str
theorem Txt.u_len : mg "len" = none := T.p7.u_len
theorem Txt.u_tuple : mg "tuple" = none := T.p7.u_tuple
theorem Txt.u_enumerate : mg "enumerate" = none := T.p7.u_enumerate
theorem Txt.u_sorted : mg "sorted" = none := T.p7.u_sorted
theorem Txt.u_set : mg "set" = none := T.p7.u_set
theorem Txt.u_sum : mg "sum" = none := T.p7.u_sum
theorem Txt.u_list : mg "list" = none := T.p7.u_list
theorem Txt.u_range : mg "range" = none := T.p7.u_range
theorem Txt.u_ValueError : mg "ValueError" = none := T.p7.u_ValueError
end
theorem _root_.Z.SaysZ.factC {fa : List (Fg → Bool)} {fn : List DefZ} {K : Fg} (c : SaysZ fa fn K) (l : List (Fg → Bool)) (i : Nat) (s : ∀ f, f ∈ l → f ∈ fa) {f : Fg → Bool} (h : l[i]? = some f) : f K = true := by
  obtain ⟨j, hj, e⟩ := List.mem_iff_getElem.mp (s f (List.mem_of_getElem? h))
  exact c.fact j (by rw [List.getElem?_eq_getElem hj, e])
theorem _root_.Z.SaysZ.defC {fa : List (Fg → Bool)} {fn : List DefZ} {K : Fg} (c : SaysZ fa fn K) (l : List DefZ) (i : Nat) (s : ∀ f, f ∈ l → f ∈ fn) {d : DefZ} (h : l[i]? = some d) : FunZ K d := by
  obtain ⟨j, hj, e⟩ := List.mem_iff_getElem.mp (s d (List.mem_of_getElem? h))
  exact c.def_ j (by rw [List.getElem?_eq_getElem hj, e])
def fa_0 : List (Fg → Bool) := [fStr "LETTERS" "abcdefghijklmnopqrstuvwxyz", fInt "MAX_NAME" 8, fInt "MAX_RANK" 9, fInt "MAX_STEPS" 8, fInt "MAX_TICKS" 99, fInt "MAX_FLAG" 7, fStr "EDGE" "edge", fStr "LEVEL" "level", fStr "RUN" "run", fStr "QUIET" "quiet", fStr "AWAIT" "await", fStr "BAR" "bar", fStr "LATER" "later", fGlo "LINE_WORDS", fTup "LINE_WORDS" [.str "ring", .str "quiet", .str "mask", .str "unmask"], fGlo "FLAG_WORDS", fTup "FLAG_WORDS" [.str "set", .str "clear", .str "await"], fGlo "is_integer", fGlo "is_word", fGlo "is_name", fGlo "is_line", fGlo "is_work", fGlo "is_step", fGlo "check_lines", fGlo "check_works", fGlo "lines_without", fGlo "setup_of", fGlo "_law_taken", fGlo "_law_alike", fGlo "_law_mixed"]
def fa_1 : List (Fg → Bool) := [fGlo "_law_step", fGlo "_law_setup", fGlo "_law_plain", fGlo "_law_raised", fGlo "_law_touched", fGlo "_law_less", fGlo "_law_is_plain", fGlo "_law_is_line_told", fGlo "_law_is_ranked", fGlo "_law_are_unknown", fGlo "law", fTup0 (dfA (fun K => ma K (ga K "Setup") "__init__") 0), fGlo "Setup", fCls "Setup", fMk "Setup", fNo "Setup" "line_rows", fNo "Setup" "work_rows", fNo "Setup" "rows_by_name", fNo "Setup" "works_by_name", fMeth "Setup" "__init__", fProp "Setup" "lines", fProp "Setup" "works", fProp "Setup" "order", fProp "Setup" "is_plain", fMeth "Setup" "__len__", fMeth "Setup" "__contains__", fMeth "Setup" "__getitem__", fSub "Setup", fMeth "Setup" "__eq__", (fun K => PySem.W.notFirst K (ga K "Setup") (.type "list"))]
def fa_2 : List (Fg → Bool) := [(fun K => PySem.W.kitOne K (.type "list") (.ref (ga K "Setup")) == some false), (fun K => PySem.W.notFirst K (ga K "Setup") (.type "tuple")), (fun K => PySem.W.kitOne K (.type "tuple") (.ref (ga K "Setup")) == some false), fIsO "Setup", fMeth "Setup" "__sub__", (fun K => PySem.W.notFirst K (ga K "Setup") (.type "int")), (fun K => PySem.W.notFirst K (ga K "Setup") (.type "NoneType")), (fun K => PySem.W.notFirst K (ga K "Setup") (.type "str")), (fun K => (PySem.W.findIn K (.ref (ga K "Setup")) "__rsub__").elim false Option.isNone), (fun K => PySem.W.selfFirst K (ga K "Setup")), fMeth "Setup" "check_line", fMeth "Setup" "with_rank", fMeth "Setup" "ticks_of", fMeth "Setup" "touched_by", fClsI "Setup" "MAX_LINES" 12, fClsI "Setup" "MAX_WORKS" 8, fClsI "Setup" "MAX_FLAG" 7, fGlo "BellError", (fun K => decide (tabA K (ga K "_law_is_line_told") ≠ tabA K (ga K "_law_is_ranked"))), (fun K => decide (tabA K (ga K "_law_is_line_told") ≠ tabA K (ga K "_law_are_unknown"))), (fun K => decide (tabA K (ga K "_law_is_ranked") ≠ tabA K (ga K "_law_are_unknown"))), fVeIn "BellError", fGlo "InvalidBell", excCB "InvalidBell", fNo "InvalidBell" "index", fGlo "InvalidFlag", excCB "InvalidFlag", fGlo "InvalidLog", excCB "InvalidLog", fNo "InvalidLog" "index"]
def fa_3 : List (Fg → Bool) := [fGlo "InvalidNumber", excCB "InvalidNumber", fGlo "InvalidSetup", excCB "InvalidSetup", fNo "InvalidSetup" "part", fNo "InvalidSetup" "index", fGlo "NotLevel", excCB "NotLevel", fNo "NotLevel" "line", fGlo "NotPlain", excCB "NotPlain", fGlo "NotationError", excCB "NotationError", fNo "NotationError" "row", fNo "NotationError" "word", fGlo "TooDense", excCB "TooDense", fNo "TooDense" "line", fGlo "TooMany", excCB "TooMany", fGlo "UnknownLine", excCB "UnknownLine", fNo "UnknownLine" "line", oexB "UnknownLine", fOexI "UnknownLine", (fun K => (He.Fa.exm "UnknownLine" "BellError" true).ok K), (fun K => PySem.W.kitOne K (.ref (ga K "UnknownLine")) (.type "ValueError") == some true), (fun K => PySem.W.kitOne K (.ref (ga K "UnknownLine")) (.ref (ga K "InvalidSetup")) == some false), (fun K => PySem.W.kitOne K (.ref (ga K "UnknownLine")) (.ref (ga K "UnknownLine")) == some true), (fun K => PySem.W.kitOne K (.ref (ga K "UnknownLine")) (.ref (ga K "NotLevel")) == some false)]
def fa_4 : List (Fg → Bool) := [(fun K => PySem.W.kitOne K (.ref (ga K "UnknownLine")) (.ref (ga K "InvalidNumber")) == some false), (fun K => PySem.W.kitOne K (.ref (ga K "UnknownLine")) (.ref (ga K "InvalidFlag")) == some false), (fun K => PySem.W.kitOne K (.ref (ga K "UnknownLine")) (.ref (ga K "InvalidBell")) == some false), (fun K => PySem.W.kitOne K (.ref (ga K "UnknownLine")) (.ref (ga K "TooMany")) == some false), (fun K => PySem.W.kitOne K (.ref (ga K "UnknownLine")) (.ref (ga K "NotPlain")) == some false), (fun K => PySem.W.kitOne K (.ref (ga K "UnknownLine")) (.ref (ga K "TooDense")) == some false), (fun K => PySem.W.kitOne K (.ref (ga K "UnknownLine")) (.ref (ga K "InvalidLog")) == some false), (fun K => PySem.W.kitOne K (.ref (ga K "UnknownLine")) (.ref (ga K "NotationError")) == some false), oexB "InvalidSetup", fOexI "InvalidSetup", (fun K => (He.Fa.exm "InvalidSetup" "BellError" true).ok K), (fun K => PySem.W.kitOne K (.ref (ga K "InvalidSetup")) (.type "ValueError") == some true), (fun K => PySem.W.kitOne K (.ref (ga K "InvalidSetup")) (.ref (ga K "InvalidSetup")) == some true), (fun K => PySem.W.kitOne K (.ref (ga K "InvalidSetup")) (.ref (ga K "UnknownLine")) == some false), (fun K => PySem.W.kitOne K (.ref (ga K "InvalidSetup")) (.ref (ga K "NotLevel")) == some false), (fun K => PySem.W.kitOne K (.ref (ga K "InvalidSetup")) (.ref (ga K "InvalidNumber")) == some false), (fun K => PySem.W.kitOne K (.ref (ga K "InvalidSetup")) (.ref (ga K "InvalidFlag")) == some false), (fun K => PySem.W.kitOne K (.ref (ga K "InvalidSetup")) (.ref (ga K "InvalidBell")) == some false), (fun K => PySem.W.kitOne K (.ref (ga K "InvalidSetup")) (.ref (ga K "TooMany")) == some false), (fun K => PySem.W.kitOne K (.ref (ga K "InvalidSetup")) (.ref (ga K "NotPlain")) == some false), (fun K => PySem.W.kitOne K (.ref (ga K "InvalidSetup")) (.ref (ga K "TooDense")) == some false), (fun K => PySem.W.kitOne K (.ref (ga K "InvalidSetup")) (.ref (ga K "InvalidLog")) == some false), (fun K => PySem.W.kitOne K (.ref (ga K "InvalidSetup")) (.ref (ga K "NotationError")) == some false), fFree "isinstance", fFree "bool", fFree "int", fFree "all", fFree "str", fFree "len", fFree "tuple"]
def fa_5 : List (Fg → Bool) := [fFree "enumerate", fFree "sorted", fFree "set", fFree "sum", fFree "list", fFree "range", fFree "ValueError"]
def fa : List (Fg → Bool) := fa_0 ++ (fa_1 ++ (fa_2 ++ (fa_3 ++ (fa_4 ++ (fa_5)))))
def fn_0 : List DefZ := [d_InvalidSetup_init, d_UnknownLine_init, d_is_integer, d_is_word, d_is_name, d_is_line, d_is_work, d_is_step, d_check_lines, d_check_works, d_Setup_init, d_Setup_lines, d_Setup_works, d_Setup_order, d_Setup_is_plain, d_Setup_len, d_Setup_contains, d_Setup_getitem, d_Setup_eq, d_Setup_sub, d_Setup_check_line, d_Setup_with_rank, d_Setup_ticks_of, d_Setup_touched_by, d_lines_without, d_setup_of, d_w_taken, d_w_alike, d_w_mixed, d_w_step]
def fn_1 : List DefZ := [d_w_setup, d_w_plain, d_w_raised, d_w_touched, d_w_less, d_w_is_plain, d_w_is_line_told, d_w_is_ranked, d_w_are_unknown, d_law]
def fn : List DefZ := fn_0 ++ (fn_1)
theorem ia_0 : ∀ f, f ∈ fa_0 → f ∈ fa := fun f h => List.mem_append_left _ h
theorem ia_1 : ∀ f, f ∈ fa_1 → f ∈ fa := fun f h => List.mem_append_right _ (List.mem_append_left _ h)
theorem ia_2 : ∀ f, f ∈ fa_2 → f ∈ fa := fun f h => List.mem_append_right _ (List.mem_append_right _ (List.mem_append_left _ h))
theorem ia_3 : ∀ f, f ∈ fa_3 → f ∈ fa := fun f h => List.mem_append_right _ (List.mem_append_right _ (List.mem_append_right _ (List.mem_append_left _ h)))
theorem ia_4 : ∀ f, f ∈ fa_4 → f ∈ fa := fun f h => List.mem_append_right _ (List.mem_append_right _ (List.mem_append_right _ (List.mem_append_right _ (List.mem_append_left _ h))))
theorem ia_5 : ∀ f, f ∈ fa_5 → f ∈ fa := fun f h => List.mem_append_right _ (List.mem_append_right _ (List.mem_append_right _ (List.mem_append_right _ (List.mem_append_right _ (h)))))
theorem in_0 : ∀ f, f ∈ fn_0 → f ∈ fn := fun f h => List.mem_append_left _ h
theorem in_1 : ∀ f, f ∈ fn_1 → f ∈ fn := fun f h => List.mem_append_right _ (h)
theorem txt_of {K : Fg} {h : Heap} {mg : Str → Option Value} (X : K.In h) (G : h.Ns mainGlobals mg) (c : SaysZ fa fn K) : Txt K mg where
  p0 := ⟨He.str_ok X G (c.factC fa_0 0 ia_0 rfl), He.int_ok X G (c.factC fa_0 1 ia_0 rfl), He.int_ok X G (c.factC fa_0 2 ia_0 rfl), He.int_ok X G (c.factC fa_0 3 ia_0 rfl), He.int_ok X G (c.factC fa_0 4 ia_0 rfl), He.int_ok X G (c.factC fa_0 5 ia_0 rfl), He.str_ok X G (c.factC fa_0 6 ia_0 rfl), He.str_ok X G (c.factC fa_0 7 ia_0 rfl), He.str_ok X G (c.factC fa_0 8 ia_0 rfl), He.str_ok X G (c.factC fa_0 9 ia_0 rfl), He.str_ok X G (c.factC fa_0 10 ia_0 rfl), He.str_ok X G (c.factC fa_0 11 ia_0 rfl), He.str_ok X G (c.factC fa_0 12 ia_0 rfl), He.glo_ok X G (c.factC fa_0 13 ia_0 rfl), (fun H => He.tupB_ok (c.factC fa_0 14 ia_0 rfl) H), He.glo_ok X G (c.factC fa_0 15 ia_0 rfl), (fun H => He.tupB_ok (c.factC fa_0 16 ia_0 rfl) H), He.glo_ok X G (c.factC fa_0 17 ia_0 rfl), He.glo_ok X G (c.factC fa_0 18 ia_0 rfl), He.glo_ok X G (c.factC fa_0 19 ia_0 rfl), He.glo_ok X G (c.factC fa_0 20 ia_0 rfl), He.glo_ok X G (c.factC fa_0 21 ia_0 rfl), He.glo_ok X G (c.factC fa_0 22 ia_0 rfl), He.glo_ok X G (c.factC fa_0 23 ia_0 rfl), He.glo_ok X G (c.factC fa_0 24 ia_0 rfl), He.glo_ok X G (c.factC fa_0 25 ia_0 rfl), He.glo_ok X G (c.factC fa_0 26 ia_0 rfl), He.glo_ok X G (c.factC fa_0 27 ia_0 rfl), He.glo_ok X G (c.factC fa_0 28 ia_0 rfl), He.glo_ok X G (c.factC fa_0 29 ia_0 rfl)⟩
  p1 := ⟨He.glo_ok X G (c.factC fa_1 0 ia_1 rfl), He.glo_ok X G (c.factC fa_1 1 ia_1 rfl), He.glo_ok X G (c.factC fa_1 2 ia_1 rfl), He.glo_ok X G (c.factC fa_1 3 ia_1 rfl), He.glo_ok X G (c.factC fa_1 4 ia_1 rfl), He.glo_ok X G (c.factC fa_1 5 ia_1 rfl), He.glo_ok X G (c.factC fa_1 6 ia_1 rfl), He.glo_ok X G (c.factC fa_1 7 ia_1 rfl), He.glo_ok X G (c.factC fa_1 8 ia_1 rfl), He.glo_ok X G (c.factC fa_1 9 ia_1 rfl), He.glo_ok X G (c.factC fa_1 10 ia_1 rfl), (c.defC fn_0 0 in_0 rfl), ⟨(c.defC fn_0 0 in_0 (d := d_InvalidSetup_init) rfl).kp, [], FunD.bindsN (c.defC fn_0 0 in_0 (d := d_InvalidSetup_init) rfl) (fun _ _ _ _ _ _ us hl => match us, hl with | [_, _, _], _ => rfl), .nil⟩, (c.defC fn_0 1 in_0 rfl), ⟨(c.defC fn_0 1 in_0 (d := d_UnknownLine_init) rfl).kp, [], FunD.bindsN (c.defC fn_0 1 in_0 (d := d_UnknownLine_init) rfl) (fun _ _ _ _ _ _ us hl => match us, hl with | [_, _], _ => rfl), .nil⟩, (c.defC fn_0 2 in_0 rfl), ⟨(c.defC fn_0 2 in_0 (d := d_is_integer) rfl).kp, [], FunD.bindsN (c.defC fn_0 2 in_0 (d := d_is_integer) rfl) (fun _ _ _ _ _ _ us hl => match us, hl with | [_, _, _], _ => rfl), .nil⟩, (c.defC fn_0 3 in_0 rfl), ⟨(c.defC fn_0 3 in_0 (d := d_is_word) rfl).kp, [], FunD.bindsN (c.defC fn_0 3 in_0 (d := d_is_word) rfl) (fun _ _ _ _ _ _ us hl => match us, hl with | [_], _ => rfl), .nil⟩, (c.defC fn_0 4 in_0 rfl), ⟨(c.defC fn_0 4 in_0 (d := d_is_name) rfl).kp, [], FunD.bindsN (c.defC fn_0 4 in_0 (d := d_is_name) rfl) (fun _ _ _ _ _ _ us hl => match us, hl with | [_], _ => rfl), .nil⟩, (c.defC fn_0 5 in_0 rfl), ⟨(c.defC fn_0 5 in_0 (d := d_is_line) rfl).kp, [], FunD.bindsN (c.defC fn_0 5 in_0 (d := d_is_line) rfl) (fun _ _ _ _ _ _ us hl => match us, hl with | [_], _ => rfl), .nil⟩, (c.defC fn_0 6 in_0 rfl), ⟨(c.defC fn_0 6 in_0 (d := d_is_work) rfl).kp, [], FunD.bindsN (c.defC fn_0 6 in_0 (d := d_is_work) rfl) (fun _ _ _ _ _ _ us hl => match us, hl with | [_], _ => rfl), .nil⟩, (c.defC fn_0 7 in_0 rfl), ⟨(c.defC fn_0 7 in_0 (d := d_is_step) rfl).kp, [], FunD.bindsN (c.defC fn_0 7 in_0 (d := d_is_step) rfl) (fun _ _ _ _ _ _ us hl => match us, hl with | [_, _, _], _ => rfl), .nil⟩, (c.defC fn_0 8 in_0 rfl), ⟨(c.defC fn_0 8 in_0 (d := d_check_lines) rfl).kp, [], FunD.bindsN (c.defC fn_0 8 in_0 (d := d_check_lines) rfl) (fun _ _ _ _ _ _ us hl => match us, hl with | [_, _], _ => rfl), .nil⟩, (c.defC fn_0 9 in_0 rfl)⟩
  p2 := ⟨⟨(c.defC fn_0 9 in_0 (d := d_check_works) rfl).kp, [], FunD.bindsN (c.defC fn_0 9 in_0 (d := d_check_works) rfl) (fun _ _ _ _ _ _ us hl => match us, hl with | [_, _], _ => rfl), .nil⟩, (c.defC fn_0 10 in_0 rfl), (fun H => fTup0_ok (c.factC fa_1 11 ia_1 rfl) H), calD (c.defC fn_0 10 in_0 (d := d_Setup_init) rfl) 3 (by simp [d_Setup_init]) rfl (fun _ _ _ _ _ _ _ us its hl hi => match us, its, hl, hi with | [_, _, _], [_], _, _ => ⟨_, rfl, rfl⟩), (c.defC fn_0 11 in_0 rfl), ⟨(c.defC fn_0 11 in_0 (d := d_Setup_lines) rfl).kp, [], FunD.bindsN (c.defC fn_0 11 in_0 (d := d_Setup_lines) rfl) (fun _ _ _ _ _ _ us hl => match us, hl with | [_], _ => rfl), .nil⟩, (c.defC fn_0 12 in_0 rfl), ⟨(c.defC fn_0 12 in_0 (d := d_Setup_works) rfl).kp, [], FunD.bindsN (c.defC fn_0 12 in_0 (d := d_Setup_works) rfl) (fun _ _ _ _ _ _ us hl => match us, hl with | [_], _ => rfl), .nil⟩, (c.defC fn_0 13 in_0 rfl), ⟨(c.defC fn_0 13 in_0 (d := d_Setup_order) rfl).kp, [], FunD.bindsN (c.defC fn_0 13 in_0 (d := d_Setup_order) rfl) (fun _ _ _ _ _ _ us hl => match us, hl with | [_], _ => rfl), .nil⟩, (c.defC fn_0 14 in_0 rfl), ⟨(c.defC fn_0 14 in_0 (d := d_Setup_is_plain) rfl).kp, [], FunD.bindsN (c.defC fn_0 14 in_0 (d := d_Setup_is_plain) rfl) (fun _ _ _ _ _ _ us hl => match us, hl with | [_], _ => rfl), .nil⟩, (c.defC fn_0 15 in_0 rfl), ⟨(c.defC fn_0 15 in_0 (d := d_Setup_len) rfl).kp, [], FunD.bindsN (c.defC fn_0 15 in_0 (d := d_Setup_len) rfl) (fun _ _ _ _ _ _ us hl => match us, hl with | [_], _ => rfl), .nil⟩, (c.defC fn_0 16 in_0 rfl), ⟨(c.defC fn_0 16 in_0 (d := d_Setup_contains) rfl).kp, [], FunD.bindsN (c.defC fn_0 16 in_0 (d := d_Setup_contains) rfl) (fun _ _ _ _ _ _ us hl => match us, hl with | [_, _], _ => rfl), .nil⟩, (c.defC fn_0 17 in_0 rfl), ⟨(c.defC fn_0 17 in_0 (d := d_Setup_getitem) rfl).kp, [], FunD.bindsN (c.defC fn_0 17 in_0 (d := d_Setup_getitem) rfl) (fun _ _ _ _ _ _ us hl => match us, hl with | [_, _], _ => rfl), .nil⟩, (c.defC fn_0 18 in_0 rfl), ⟨(c.defC fn_0 18 in_0 (d := d_Setup_eq) rfl).kp, [], FunD.bindsN (c.defC fn_0 18 in_0 (d := d_Setup_eq) rfl) (fun _ _ _ _ _ _ us hl => match us, hl with | [_, _], _ => rfl), .nil⟩, (c.defC fn_0 19 in_0 rfl), ⟨(c.defC fn_0 19 in_0 (d := d_Setup_sub) rfl).kp, [], FunD.bindsN (c.defC fn_0 19 in_0 (d := d_Setup_sub) rfl) (fun _ _ _ _ _ _ us hl => match us, hl with | [_, _], _ => rfl), .nil⟩, (c.defC fn_0 20 in_0 rfl), ⟨(c.defC fn_0 20 in_0 (d := d_Setup_check_line) rfl).kp, [], FunD.bindsN (c.defC fn_0 20 in_0 (d := d_Setup_check_line) rfl) (fun _ _ _ _ _ _ us hl => match us, hl with | [_, _], _ => rfl), .nil⟩, (c.defC fn_0 21 in_0 rfl), ⟨(c.defC fn_0 21 in_0 (d := d_Setup_with_rank) rfl).kp, [], FunD.bindsN (c.defC fn_0 21 in_0 (d := d_Setup_with_rank) rfl) (fun _ _ _ _ _ _ us hl => match us, hl with | [_, _, _], _ => rfl), .nil⟩, (c.defC fn_0 22 in_0 rfl), ⟨(c.defC fn_0 22 in_0 (d := d_Setup_ticks_of) rfl).kp, [], FunD.bindsN (c.defC fn_0 22 in_0 (d := d_Setup_ticks_of) rfl) (fun _ _ _ _ _ _ us hl => match us, hl with | [_, _], _ => rfl), .nil⟩, (c.defC fn_0 23 in_0 rfl), ⟨(c.defC fn_0 23 in_0 (d := d_Setup_touched_by) rfl).kp, [], FunD.bindsN (c.defC fn_0 23 in_0 (d := d_Setup_touched_by) rfl) (fun _ _ _ _ _ _ us hl => match us, hl with | [_, _], _ => rfl), .nil⟩⟩
  p3 := ⟨(c.defC fn_0 24 in_0 rfl), ⟨(c.defC fn_0 24 in_0 (d := d_lines_without) rfl).kp, [], FunD.bindsN (c.defC fn_0 24 in_0 (d := d_lines_without) rfl) (fun _ _ _ _ _ _ us hl => match us, hl with | [_, _], _ => rfl), .nil⟩, (c.defC fn_0 25 in_0 rfl), ⟨(c.defC fn_0 25 in_0 (d := d_setup_of) rfl).kp, [], FunD.bindsN (c.defC fn_0 25 in_0 (d := d_setup_of) rfl) (fun _ _ _ _ _ _ us hl => match us, hl with | [_, _], _ => rfl), .nil⟩, (c.defC fn_0 26 in_0 rfl), ⟨(c.defC fn_0 26 in_0 (d := d_w_taken) rfl).kp, [], FunD.bindsN (c.defC fn_0 26 in_0 (d := d_w_taken) rfl) (fun _ _ _ _ _ _ us hl => match us, hl with | [_, _], _ => rfl), .nil⟩, (c.defC fn_0 27 in_0 rfl), ⟨(c.defC fn_0 27 in_0 (d := d_w_alike) rfl).kp, [], FunD.bindsN (c.defC fn_0 27 in_0 (d := d_w_alike) rfl) (fun _ _ _ _ _ _ us hl => match us, hl with | [_, _], _ => rfl), .nil⟩, (c.defC fn_0 28 in_0 rfl), ⟨(c.defC fn_0 28 in_0 (d := d_w_mixed) rfl).kp, [], FunD.bindsN (c.defC fn_0 28 in_0 (d := d_w_mixed) rfl) (fun _ _ _ _ _ _ us hl => match us, hl with | [_, _], _ => rfl), .nil⟩, (c.defC fn_0 29 in_0 rfl), ⟨(c.defC fn_0 29 in_0 (d := d_w_step) rfl).kp, [], FunD.bindsN (c.defC fn_0 29 in_0 (d := d_w_step) rfl) (fun _ _ _ _ _ _ us hl => match us, hl with | [_, _, _, _], _ => rfl), .nil⟩, (c.defC fn_1 0 in_1 rfl), ⟨(c.defC fn_1 0 in_1 (d := d_w_setup) rfl).kp, [], FunD.bindsN (c.defC fn_1 0 in_1 (d := d_w_setup) rfl) (fun _ _ _ _ _ _ us hl => match us, hl with | [_, _], _ => rfl), .nil⟩, (c.defC fn_1 1 in_1 rfl), ⟨(c.defC fn_1 1 in_1 (d := d_w_plain) rfl).kp, [], FunD.bindsN (c.defC fn_1 1 in_1 (d := d_w_plain) rfl) (fun _ _ _ _ _ _ us hl => match us, hl with | [_, _, _], _ => rfl), .nil⟩, (c.defC fn_1 2 in_1 rfl), ⟨(c.defC fn_1 2 in_1 (d := d_w_raised) rfl).kp, [], FunD.bindsN (c.defC fn_1 2 in_1 (d := d_w_raised) rfl) (fun _ _ _ _ _ _ us hl => match us, hl with | [_], _ => rfl), .nil⟩, (c.defC fn_1 3 in_1 rfl), ⟨(c.defC fn_1 3 in_1 (d := d_w_touched) rfl).kp, [], FunD.bindsN (c.defC fn_1 3 in_1 (d := d_w_touched) rfl) (fun _ _ _ _ _ _ us hl => match us, hl with | [_, _], _ => rfl), .nil⟩, (c.defC fn_1 4 in_1 rfl), ⟨(c.defC fn_1 4 in_1 (d := d_w_less) rfl).kp, [], FunD.bindsN (c.defC fn_1 4 in_1 (d := d_w_less) rfl) (fun _ _ _ _ _ _ us hl => match us, hl with | [_, _], _ => rfl), .nil⟩, (c.defC fn_1 5 in_1 rfl), ⟨(c.defC fn_1 5 in_1 (d := d_w_is_plain) rfl).kp, [], FunD.bindsN (c.defC fn_1 5 in_1 (d := d_w_is_plain) rfl) (fun _ _ _ _ _ _ us hl => match us, hl with | [_], _ => rfl), .nil⟩, (c.defC fn_1 6 in_1 rfl), ⟨(c.defC fn_1 6 in_1 (d := d_w_is_line_told) rfl).kp, [], FunD.bindsN (c.defC fn_1 6 in_1 (d := d_w_is_line_told) rfl) (fun _ _ _ _ _ _ us hl => match us, hl with | [_, _, _], _ => rfl), .nil⟩, (c.defC fn_1 7 in_1 rfl), ⟨(c.defC fn_1 7 in_1 (d := d_w_is_ranked) rfl).kp, [], FunD.bindsN (c.defC fn_1 7 in_1 (d := d_w_is_ranked) rfl) (fun _ _ _ _ _ _ us hl => match us, hl with | [_, _, _, _, _], _ => rfl), .nil⟩, (c.defC fn_1 8 in_1 rfl), ⟨(c.defC fn_1 8 in_1 (d := d_w_are_unknown) rfl).kp, [], FunD.bindsN (c.defC fn_1 8 in_1 (d := d_w_are_unknown) rfl) (fun _ _ _ _ _ _ us hl => match us, hl with | [_], _ => rfl), .nil⟩⟩
  p4 := ⟨(c.defC fn_1 9 in_1 rfl), ⟨(c.defC fn_1 9 in_1 (d := d_law) rfl).kp, [], FunD.bindsN (c.defC fn_1 9 in_1 (d := d_law) rfl) (fun _ _ _ _ _ _ us hl => match us, hl with | [_], _ => rfl), .nil⟩, calD0 (c.defC fn_0 10 in_0 (d := d_Setup_init) rfl) 2 (by simp [d_Setup_init]) rfl (fun _ _ _ _ _ _ _ us its hl hi => match us, its, hl, hi with | [_, _], [_], _, _ => ⟨_, rfl, rfl⟩), He.glo_ok X G (c.factC fa_1 12 ia_1 rfl), He.cls_ok (c.factC fa_1 13 ia_1 rfl), He.mkr_ok (c.factC fa_1 14 ia_1 rfl), He.noat_ok (c.factC fa_1 15 ia_1 rfl), He.noat_ok (c.factC fa_1 16 ia_1 rfl), He.noat_ok (c.factC fa_1 17 ia_1 rfl), He.noat_ok (c.factC fa_1 18 ia_1 rfl), He.meth_ok (c.factC fa_1 19 ia_1 rfl), fProp_ok (c.factC fa_1 20 ia_1 rfl), fProp_ok (c.factC fa_1 21 ia_1 rfl), fProp_ok (c.factC fa_1 22 ia_1 rfl), fProp_ok (c.factC fa_1 23 ia_1 rfl), He.meth_ok (c.factC fa_1 24 ia_1 rfl), He.meth_ok (c.factC fa_1 25 ia_1 rfl), He.meth_ok (c.factC fa_1 26 ia_1 rfl), (c.factC fa_1 27 ia_1 rfl), He.meth_ok (c.factC fa_1 28 ia_1 rfl), (c.factC fa_1 29 ia_1 rfl), (eq_of_beq (c.factC fa_2 0 ia_2 rfl)), (c.factC fa_2 1 ia_2 rfl), (eq_of_beq (c.factC fa_2 2 ia_2 rfl)), fIsO_ok (c.factC fa_2 3 ia_2 rfl), He.meth_ok (c.factC fa_2 4 ia_2 rfl), (c.factC fa_2 5 ia_2 rfl), (c.factC fa_2 6 ia_2 rfl), (c.factC fa_2 7 ia_2 rfl), (c.factC fa_2 8 ia_2 rfl)⟩
  p5 := ⟨(c.factC fa_2 9 ia_2 rfl), He.meth_ok (c.factC fa_2 10 ia_2 rfl), He.meth_ok (c.factC fa_2 11 ia_2 rfl), He.meth_ok (c.factC fa_2 12 ia_2 rfl), He.meth_ok (c.factC fa_2 13 ia_2 rfl), fClsI_ok (c.factC fa_2 14 ia_2 rfl), fClsI_ok (c.factC fa_2 15 ia_2 rfl), fClsI_ok (c.factC fa_2 16 ia_2 rfl), He.glo_ok X G (c.factC fa_2 17 ia_2 rfl), (of_decide_eq_true (c.factC fa_2 18 ia_2 rfl)), (of_decide_eq_true (c.factC fa_2 19 ia_2 rfl)), (of_decide_eq_true (c.factC fa_2 20 ia_2 rfl)), fVeIn_ok (c.factC fa_2 21 ia_2 rfl), He.glo_ok X G (c.factC fa_2 22 ia_2 rfl), excCB_ok (c.factC fa_2 23 ia_2 rfl), He.noat_ok (c.factC fa_2 24 ia_2 rfl), He.glo_ok X G (c.factC fa_2 25 ia_2 rfl), excCB_ok (c.factC fa_2 26 ia_2 rfl), He.glo_ok X G (c.factC fa_2 27 ia_2 rfl), excCB_ok (c.factC fa_2 28 ia_2 rfl), He.noat_ok (c.factC fa_2 29 ia_2 rfl), He.glo_ok X G (c.factC fa_3 0 ia_3 rfl), excCB_ok (c.factC fa_3 1 ia_3 rfl), He.glo_ok X G (c.factC fa_3 2 ia_3 rfl), excCB_ok (c.factC fa_3 3 ia_3 rfl), He.noat_ok (c.factC fa_3 4 ia_3 rfl), He.noat_ok (c.factC fa_3 5 ia_3 rfl), He.glo_ok X G (c.factC fa_3 6 ia_3 rfl), excCB_ok (c.factC fa_3 7 ia_3 rfl), He.noat_ok (c.factC fa_3 8 ia_3 rfl)⟩
  p6 := ⟨He.glo_ok X G (c.factC fa_3 9 ia_3 rfl), excCB_ok (c.factC fa_3 10 ia_3 rfl), He.glo_ok X G (c.factC fa_3 11 ia_3 rfl), excCB_ok (c.factC fa_3 12 ia_3 rfl), He.noat_ok (c.factC fa_3 13 ia_3 rfl), He.noat_ok (c.factC fa_3 14 ia_3 rfl), He.glo_ok X G (c.factC fa_3 15 ia_3 rfl), excCB_ok (c.factC fa_3 16 ia_3 rfl), He.noat_ok (c.factC fa_3 17 ia_3 rfl), He.glo_ok X G (c.factC fa_3 18 ia_3 rfl), excCB_ok (c.factC fa_3 19 ia_3 rfl), He.glo_ok X G (c.factC fa_3 20 ia_3 rfl), excCB_ok (c.factC fa_3 21 ia_3 rfl), He.noat_ok (c.factC fa_3 22 ia_3 rfl), oexB_ok (c.factC fa_3 23 ia_3 rfl), fOexI_ok (c.factC fa_3 24 ia_3 rfl), (He.exm_ok (c.factC fa_3 25 ia_3 rfl)), (eq_of_beq (c.factC fa_3 26 ia_3 rfl)), (eq_of_beq (c.factC fa_3 27 ia_3 rfl)), (eq_of_beq (c.factC fa_3 28 ia_3 rfl)), (eq_of_beq (c.factC fa_3 29 ia_3 rfl)), (eq_of_beq (c.factC fa_4 0 ia_4 rfl)), (eq_of_beq (c.factC fa_4 1 ia_4 rfl)), (eq_of_beq (c.factC fa_4 2 ia_4 rfl)), (eq_of_beq (c.factC fa_4 3 ia_4 rfl)), (eq_of_beq (c.factC fa_4 4 ia_4 rfl)), (eq_of_beq (c.factC fa_4 5 ia_4 rfl)), (eq_of_beq (c.factC fa_4 6 ia_4 rfl)), (eq_of_beq (c.factC fa_4 7 ia_4 rfl)), oexB_ok (c.factC fa_4 8 ia_4 rfl)⟩
  p7 := ⟨fOexI_ok (c.factC fa_4 9 ia_4 rfl), (He.exm_ok (c.factC fa_4 10 ia_4 rfl)), (eq_of_beq (c.factC fa_4 11 ia_4 rfl)), (eq_of_beq (c.factC fa_4 12 ia_4 rfl)), (eq_of_beq (c.factC fa_4 13 ia_4 rfl)), (eq_of_beq (c.factC fa_4 14 ia_4 rfl)), (eq_of_beq (c.factC fa_4 15 ia_4 rfl)), (eq_of_beq (c.factC fa_4 16 ia_4 rfl)), (eq_of_beq (c.factC fa_4 17 ia_4 rfl)), (eq_of_beq (c.factC fa_4 18 ia_4 rfl)), (eq_of_beq (c.factC fa_4 19 ia_4 rfl)), (eq_of_beq (c.factC fa_4 20 ia_4 rfl)), (eq_of_beq (c.factC fa_4 21 ia_4 rfl)), (eq_of_beq (c.factC fa_4 22 ia_4 rfl)), He.free_ok X G (c.factC fa_4 23 ia_4 rfl), He.free_ok X G (c.factC fa_4 24 ia_4 rfl), He.free_ok X G (c.factC fa_4 25 ia_4 rfl), He.free_ok X G (c.factC fa_4 26 ia_4 rfl), He.free_ok X G (c.factC fa_4 27 ia_4 rfl), He.free_ok X G (c.factC fa_4 28 ia_4 rfl), He.free_ok X G (c.factC fa_4 29 ia_4 rfl), He.free_ok X G (c.factC fa_5 0 ia_5 rfl), He.free_ok X G (c.factC fa_5 1 ia_5 rfl), He.free_ok X G (c.factC fa_5 2 ia_5 rfl), He.free_ok X G (c.factC fa_5 3 ia_5 rfl), He.free_ok X G (c.factC fa_5 4 ia_5 rfl), He.free_ok X G (c.factC fa_5 5 ia_5 rfl), He.free_ok X G (c.factC fa_5 6 ia_5 rfl)⟩
def names : List PySem.Str := (["_wall", "BellError", "InvalidSetup", "UnknownLine", "NotLevel", "InvalidNumber", "InvalidFlag", "InvalidBell", "TooMany", "NotPlain", "TooDense", "InvalidLog", "NotationError", "LETTERS", "MAX_NAME", "MAX_RANK", "MAX_STEPS", "MAX_TICKS", "MAX_FLAG", "EDGE", "LEVEL", "RUN", "QUIET", "AWAIT", "BAR", "LATER", "LINE_WORDS", "FLAG_WORDS", "is_integer", "is_word"] : List PySem.Str) ++ (["is_name", "is_line", "is_work", "is_step", "check_lines", "check_works", "Setup", "lines_without", "setup_of", "_law_taken", "_law_alike", "_law_mixed", "_law_step", "_law_setup", "_law_plain", "_law_raised", "_law_touched", "_law_less", "_law_is_plain", "_law_is_line_told", "_law_is_ranked", "_law_are_unknown"] : List PySem.Str)
end T
set_option maxHeartbeats 0
namespace T
open PySem PySem.Spec PyProof.Rows L2 Z
open He (ga ma)
open PySem.W PySem.Calls HandSHeadRun
abbrev R : PySem.W.OpenRow := PySem.W.OpenLaw.row PySem.Challenge.rw_callbells_k02_signs_of_set_ups
abbrev tf : List (Fg → Addr) := [fun K => ga K "_law_is_line_told", fun K => ga K "_law_is_ranked", fun K => ga K "_law_are_unknown"]
abbrev adL : List Addr := cStatics :: mainGlobals :: [2, 3, 4, 5, 6, 10, 14, 24, 28, 30, 31, 37, 41, 50, 51, 56, 60, 69, 70, 75, 79, 88, 89, 94, 98, 100, 101, 106, 110, 112, 113, 118, 122, 131, 132, 137, 141, 143, 144, 149, 153, 155, 156, 161, 165, 174, 175, 180, 184, 193, 194, 199, 203, 212, 213, 274, 278, 293, 295, 397, 398, 48, 47, 67, 66, 224, 223, 229, 228, 236, 235, 243, 242, 250, 249, 257, 256, 264, 263, 271, 270, 285, 284, 302, 301, 310, 309, 316, 315, 322, 321, 336, 335, 350, 349, 357, 356, 364, 363, 371, 370, 378, 377, 383, 382, 388, 387, 395, 394, 407, 406, 414, 413, 421, 420, 426, 425, 433, 432, 440, 439, 445, 444, 450, 449, 457, 456, 462, 461, 467, 466, 472, 471, 477, 476, 482, 481, 487, 486, 492, 491, 12, 22, 29, 32, 33, 34, 35, 39, 49, 52, 53, 54, 58, 71, 72, 73, 77, 87, 90, 91, 92, 102, 103, 104, 114, 115, 116, 120, 130, 133, 134, 135, 142, 145, 146, 147, 154, 157, 158, 159, 163, 173, 176, 177, 178, 182, 192, 195, 196, 197, 201, 211, 214, 215, 216, 217, 272, 276, 279, 280, 294, 303, 311, 317, 323, 329, 396, 399, 400, 401, 402]
abbrev hk : PySem.W.Hook := hookE adL fa fn tf
def ob (s : PySem.W.SharedT) : Z.SeenT := seeE adL fa fn tf (HandSHeadRun.getT s)
theorem ob_eq (s : PySem.W.SharedT) : ob s = hk.obs s.abs := seeE_eq (HandSHeadRun.getT_eq s)
abbrev hdP : Program := PySem.W.view R.prog [55]
noncomputable abbrev hdM (w : World) (os : OsState) {A : Type} (f : PySem.W.SharedT → A) : Option A := (endF (stepQ (denQ tabQ) R.prog w) 10500 R.prog w os).map f
def hdK (s : PySem.W.SharedT) : Fg := He.frT (getT s) adL
theorem runA (w : World) (os : OsState) : hdM w os (fun s => (looksF R.prog (boot_heap w.params) s.abs, seenQ hdP names (importedModules R.prog.main.body) (fun s => xlAt hdP [] s && recOk R.toRowW.records s) s.abs, tabGood (getT s) tf (hdK s))) = some (true, openGood hdP names, true) := by kernel_rfl
theorem runB (w : World) (os : OsState) : hdM w os (fun s => fa.all fun f => f (hdK s)) = some true := by kernel_rfl
theorem runC (w : World) (os : OsState) : hdM w os (fun s => (((fn.take 55).all fun d => d.good (hdK s)), (fn.take 55).map fun d => DefZ.see (hdK s) (d.at_ (hdK s)))) = some (true, (fn.take 55).map DefZ.due) := by kernel_rfl
theorem runD (w : World) (os : OsState) : hdM w os (fun s => (((fn.drop 55).all fun d => d.good (hdK s)), (fn.drop 55).map fun d => DefZ.see (hdK s) (d.at_ (hdK s)))) = some (true, (fn.drop 55).map DefZ.due) := by kernel_rfl
theorem run (w : World) : HandSHeadRun.RunEq R hdP hk ob 10500 names w := by
  intro os
  obtain ⟨s, es, a⟩ := map_some (runA w os)
  obtain ⟨s2, e2, b⟩ := map_some (runB w os)
  obtain ⟨s3, e3, c⟩ := map_some (runC w os)
  obtain ⟨s4, e4, d⟩ := map_some (runD w os)
  rw [es] at e2 e3 e4
  cases e2
  cases e3
  cases e4
  simp only [Prod.mk.injEq] at a
  obtain ⟨a1, a2, a3⟩ := a
  rw [es]
  have o : ob s = ((true, fn.map DefZ.due), true) := seeE_parts 55 a3 b c d
  show some (looksF R.prog (boot_heap w.params) s.abs, seenQ hdP names (importedModules R.prog.main.body) (fun s => xlAt hdP [] s && recOk R.toRowW.records s) s.abs, ob s) = some (true, openGood hdP names, ((true, fn.map DefZ.due), true))
  rw [a1, a2, o]
end T
set_option maxHeartbeats 0
namespace T
open PySem PySem.Spec PyProof.Rows L2 Z
open He (ga ma)
open PySem.W PySem.Calls
theorem early (F : ∀ (w : World) (mg : Str → Option Value) (f : Addr) (h : Heap), (∃ K : Fg, K.In h ∧ SaysZ fa fn K ∧ ∀ d ∈ tf, TabIn K h (d K)) → h.Ns mainGlobals mg → mg ("law" : Str) = some (.ref f) → ∃ (K : Fg) (fd : FuncData) (sp : Sp) (tf : List Addr), K.In h ∧ (∀ u ∈ tf, TabIn K h u) ∧ (∀ (s : Shared) (u : Value), BindsTo s fd ⟨[u], []⟩ [("_law_script", u)]) ∧
      (∀ (H : Hp) (a : Addr) (ns : List Int), ns.length ≤ 63 → (∀ u ∈ tf, H (tabA K u) = some (.tbl #[])) → SqL K H a (ns.map V.int) → sp [.ref a] H (fun v _ => v = .bl true) fun _ _ _ => False) ∧
      ∀ base : Heap, K.In base → base.Ns mainGlobals mg → (∀ u ∈ tf, LamX.TabB base mg (codA K u) (tabA K u)) → FnOk (PySem.Challenge.rw_callbells_k02_signs_of_set_ups).prog w K mg base (L2.CX (PySem.Challenge.rw_callbells_k02_signs_of_set_ups).prog w) 32 f fd ["_law_script"] sp) : PySem.Challenge.rw_callbells_k02_signs_of_set_ups.Holds := by
  w_on; o_law
  refine HandSHeadRun.head_any (r := OpenLaw.row PySem.Challenge.rw_callbells_k02_signs_of_set_ups) (q := view (OpenLaw.row PySem.Challenge.rw_callbells_k02_signs_of_set_ups).prog [55]) (H := T.hk) (ob := T.ob) (M := 10500) (loose := T.names) (d := HandSHeadRun.topDef (OpenLaw.row PySem.Challenge.rw_callbells_k02_signs_of_set_ups).prog 55) (kwd := []) T.ob_eq
    (by kernel_rfl) (fun s => by kernel_rfl) T.run (by kernel_rfl) (by kernel_rfl) (by kernel_rfl) (by rfl) (by first | assumption | decide +kernel) (by decide +kernel) ⟨rfl, rfl, rfl, rfl, rfl, by decide +kernel⟩ ?hw ?hc
  case hw => w_witness2
  case hc =>
    refine Z.walkET (l := PySem.Challenge.rw_callbells_k02_signs_of_set_ups) (n := 63) (k := 32) (x := "_law_script") rfl (by decide) (by kernel_rfl) ⟨rfl, by decide, by decide⟩ ?_
    intro w mg f h Y G hm0
    have hm : mg ("law" : PySem.Str) = some (.ref f) := by
      have e : (HandSHeadRun.topDef (OpenLaw.row PySem.Challenge.rw_callbells_k02_signs_of_set_ups).prog 55).name = ("law" : PySem.Str) := by kernel_rfl
      rw [← e]
      exact hm0
    exact F w mg f h Y G hm
end T
set_option maxHeartbeats 1000000
namespace Z
open PySem PySem.Spec PyProof.Rows L2
def runs (l : List (Str × Key)) : Int := ((l.filter fun s => decide (s.1 = ("run" : Str))).map fun s => kI s.2).sum
def prog (P : Pl) (f : Frm) : Int := f.tk + runs ((P.ln f.ln).st.take f.st)
def progs (P : Pl) (fs : List Frm) : Int := (fs.map (prog P)).sum
def jobsum (js : List (Str × Nat)) : Int := (js.map fun j => (j.2 : Int)).sum
def evEnd (P : Pl) (es : List Ev) : Int := ((es.filter fun e => decide (e.1 = ("end" : Str))).map fun e => ticksOf (P.ln e.2)).sum
def evDone (P : Pl) (es : List Ev) : Int := ((es.filter fun e => decide (e.1 = ("done" : Str))).map fun e => (P.wk e.2).tk).sum
structure Acc (P : Pl) (C : Cr) : Prop where
  fr : ∀ f ∈ C.frames, ∃ n : Int, (P.ln f.ln).st[f.st]? = some (("run" : Str), (Sum.inl n : Key)) ∧ (f.tk : Int) < n
  jb : ∀ j ∈ C.jobs, (j.2 : Int) < (P.wk j.1).tk
structure Acct (P : Pl) (G : Sg) (es : List Ev) : Prop where
  cok : COk P G.C G.B
  ac : Acc P G.C
  su : ∃ c k d : Int, G.sums = ([("call", c), ("spun", 0), ("work", k), ("idle", d)] : List (Str × Int)) ∧ c = evEnd P es + progs P G.C.frames ∧ k = evDone P es + jobsum G.C.jobs ∧ c + k + d = G.time
theorem Acct.start (P : Pl) : Acct P (Sg.start P) [] := by
  refine ⟨⟨⟨Sub.nil, Sub.nil, Sub.nil, Sub.nil, Sub.nil, ?_⟩, JOk.nil, ⟨by simp [Sg.start], by simp [Sg.start], by simp [Sg.start], by simp [Sg.start]⟩⟩, ⟨by simp [Sg.start], by simp [Sg.start]⟩, 0, 0, 0, rfl, rfl, rfl, rfl⟩
  show (P.order.map _).map _ = P.order
  rw [List.map_map]
  exact List.map_id _
theorem ring_taken {P : Pl} {B : Bd} {z : Str} : (B.ring P z).1.taken = B.taken := by
  unfold Bd.ring
  repeat (first | rfl | split)
theorem Acct.ring {P : Pl} {G : Sg} {es : List Ev} (h : Acct P G es) {z : Str} (hz : z ∈ P.names) : Acct P (G.ring P z) es := ⟨⟨h.cok.bok.ring hz, h.cok.jok, h.cok.fok.taken ring_taken⟩, h.ac, h.su⟩
end Z
set_option maxHeartbeats 1000000
namespace Z
open PySem PySem.Spec PyProof.Rows L2
theorem lc_rel {K : Fg} {J : It} {n : Nat} {G : Hp → Prop} {Y : Nat → Hp → V → Hp → Prop} {g : TG} {tt : TT} {te : TE} {vs : List Nat} {σ : L2.St} {H1 : Hp} {D : Addr} {Qd : Hp → Prop} {α : Type} (w : Walk J n G Y) (R : Nat → α → Prop) (f : α → PyData) (A : List Addr) (I : Hp → Prop)
    (hD : H1 D = none) (hn : n ≤ 40000) (hf : ∀ x, tupd (f x) = true) (hA : ∀ a ∈ A, H1 a ≠ none) (hI1 : I H1) (hI : ∀ H H', Fr [D] H H' → I H → I H') (hIs : ∀ H H', Same H H' → I H → I H')
    (hG : ∀ H, Fr A H1 H → I H → G H) (hY : ∀ i H x H', Y i H x H' → Same H H')
    (hs : ∀ (i : Nat) (x : V) (H H' : Hp) (Yes : VK) (No : Hp → Prop), i < n → Fr A H1 H → I H → Y i H x H' → (∀ y H4 a, Fr A H' H4 → I H4 → R i a → Dp K H4 y (f a) → Yes y H4) →
      g x (wipe σ vs) H' fun σ2 H2 => wipe σ2 vs = wipe σ vs ∧ tt σ2 H2 fun b H3 => if b = true then te σ2 H3 Yes else No H3)
    (hd : ∀ H' ys (l : List α), Fr A H1 H' → I H' → H' D = some (.lst ys) → l.length = n → (∀ k x, l[k]? = some x → R k x) → DpAll K H' ys (l.map f) → Qd H') :
    ∃ W : Nat → Nat → Hp → Prop, (∃ m, W 0 m (upd H1 D (.lst []))) ∧ ∀ i m H, W i m H →
      (J.stop i H ∧ Qd H) ∨ (J.go i H ∧ ∃ Nx : Hp → Prop, (∀ H', Nx H' → ∃ m', m' < m ∧ W (i + 1) m' H') ∧ ∀ x H', J.yld i H x H' → g x (wipe σ vs) H' fun σ2 H2 => wipe σ2 vs = wipe σ vs ∧ tt σ2 H2 fun b H3 =>
        if b = true then te σ2 H3 fun y H4 => ∃ acc, H4 D = some (.lst acc) ∧ acc.length < sizeLine ∧ Nx (upd H4 D (.lst (acc ++ [y]))) else Nx H3) := by
  have hDA : D ∉ A := fun z => hA D z hD
  refine lc_it w (fun i H => Fr A H1 H ∧ I H ∧ ∃ (l : List α) (ys : List V), l.length = i ∧ (∀ k x, l[k]? = some x → R k x) ∧ H D = some (.lst ys) ∧ DpAll K H ys (l.map f)) ⟨Fr.new hD, hI _ _ (Fr.new hD) hI1, [], [], rfl, by simp, upd_same, .nil⟩ (fun i H _ p => hG H p.1 p.2.1) (fun i x H H' hi p y => ?_) (fun H p => ?_)
  · obtain ⟨f1, i1, l, ys, hl, hr, e1, a1⟩ := p
    have s2 := hY i H x H' y
    refine hs i x H H' _ _ hi f1 i1 y fun y4 H4 a f4 i4 r4 d4 => ⟨ys, f4.at (s2 _ _ e1) hDA, ?_, ?_, ?_, l ++ [a], ys ++ [y4], ?_, fun k x hk => ?_, upd_same, ?_⟩
    · rw [a1.len, List.length_map, hl, sizeLine_eq]
      omega
    · have f5 : Fr [D] H4 (upd H4 D (.lst (ys ++ [y4]))) := Fr.upd (by simp) (f4.at (s2 _ _ e1) hDA) rfl
      exact (f1.trans (s2.fr.trans f4)).seq f5 (by simp [hD])
    · exact hI _ _ (Fr.upd (by simp) (f4.at (s2 _ _ e1) hDA) rfl) i4
    · rw [List.length_append, hl]
      rfl
    · rcases Nat.lt_or_ge k l.length with h | h
      · rw [List.getElem?_append_left h] at hk
        exact hr k x hk
      · rw [List.getElem?_append_right h] at hk
        have : k - l.length = 0 := by
          cases e : k - l.length with
          | zero => rfl
          | succ m => rw [e] at hk; simp at hk
        rw [this] at hk
        simp at hk
        subst hk
        have : k = i := by omega
        rw [this]
        exact r4
    · have t5 := tk_upd (o := .lst (ys ++ [y4])) (f4.at (s2 _ _ e1) hDA)
      rw [List.map_append]
      exact (((a1.same s2).tk f4.tk (tupds_map hf _)).tk t5 (tupds_map hf _)).app (.cons (d4.tk t5 (hf a)) .nil)
  · obtain ⟨f1, i1, l, ys, hl, hr, e1, a1⟩ := p
    exact hd H ys l f1 i1 e1 hl hr a1
theorem s_for {wi : TI} {g : TG} {tb : TS} {D : Ends} {σ : L2.St} {H : Hp} (q : wi σ H fun J H1 => ∃ W : Nat → Nat → L2.St → Hp → Prop, (∃ m, W 0 m σ H1) ∧ ∀ i m σ H, W i m σ H →
  (J.stop i H ∧ D.nx σ H) ∨ (J.go i H ∧ ∃ N : L2.St → Hp → Prop, (∀ σ' H', N σ' H' → ∃ m', m' < m ∧ W (i + 1) m' σ' H') ∧ ∀ x H', J.yld i H x H' → g x σ H' fun σ2 H2 => tb { D with nx := N, ct := N, bk := D.nx } σ2 H2)) : tFor wi g tb D σ H := q
theorem s_rng1 {ta : TA} {σ : L2.St} {H : Hp} {R : It → Hp → Prop} (q : ta σ H fun vs H1 => ∃ j : Int, vs = [.int j] ∧ -(2 ^ 62) ≤ j ∧ j < 2 ^ 62 ∧ R (Itr 0 j.toNat) H1) : iRng1 ta σ H R := q
theorem s_iT {K : Fg} {tl : TE} {σ : L2.St} {H : Hp} {R : It → Hp → Prop} (q : tl σ H fun x H1 => ∃ a, x = .ref a ∧ (∃ xs, SqT K H1 a xs) ∧ R (Itt K a) H1) : iTup K tl σ H R := q
theorem s_iL {K : Fg} {tl : TE} {σ : L2.St} {H : Hp} {R : It → Hp → Prop} (q : tl σ H fun x H1 => ∃ a, x = .ref a ∧ (∃ xs, SqL K H1 a xs) ∧ R (Itl K a) H1) : iList K tl σ H R := q
theorem s_lc {wi : TI} {g : TG} {tt : TT} {te : TE} {vs : List Nat} {σ : L2.St} {H : Hp} {Q : VK} (q : wi σ H fun J H1 => LcQ J g tt te vs σ Q H1) : tLc wi g tt te vs σ H Q := q
theorem s_slA {K : Fg} {H : Hp} {Q : VK} {a : Addr} {xs : List V} {lo hi : Option Int} (h : SqT K H a xs) (q : ∀ p H', Same H H' → SqT K H' p (cutV xs lo hi) → Q (.ref p) H') : rSlA K (.ref a) lo hi H Q := by
  refine ⟨a, xs, rfl, h, fun ⟨h1, h2⟩ => q a H (Same.refl H) ?_, fun _ p hp => q p _ (Same.new hp) (SqT.of upd_same)⟩
  have e : cutV xs lo hi = xs := by
    unfold cutV
    rw [h1, h2, List.drop_zero, Nat.sub_zero, List.take_length]
  rw [e]
  exact h
def nmW : List Str := ["flush", "sweep"]
theorem stepX_run {kvs : List (Key × V)} {ws : List V} {n : Int} (h1 : 1 ≤ n) (h2 : n ≤ 99) : isStepX kvs ws "run" (.int n) = true := by
  unfold isStepX
  rw [if_neg (by decide), if_neg (by decide), if_neg (by decide)]
  have : isIntD 1 99 (.int n) = true := decide_eq_true ⟨h1, h2⟩
  rw [this]
  rfl
theorem stepX_later {kvs : List (Key × V)} {ws : List V} {z : Str} (h : inV (.str z) ws = true) : isStepX kvs ws "later" (.str z) = true := by
  unfold isStepX
  rw [if_neg (by decide), if_pos (by decide)]
  exact h
end Z
set_option maxHeartbeats 1000000
namespace Z
open PySem PySem.Spec PyProof.Rows L2
def EvOk (P : Pl) (es : List Ev) : Prop := ∀ e ∈ es, (e.1 = ("end" : Str) → e.2 ∈ P.names) ∧ (e.1 = ("done" : Str) → e.2 ∈ P.wnames)
theorem EvOk.nil {P : Pl} : EvOk P [] := by intro e h; simp at h
theorem EvOk.app {P : Pl} {a b : List Ev} (h : EvOk P a) (k : EvOk P b) : EvOk P (a ++ b) := fun e he => by
  rcases List.mem_append.mp he with he | he
  · exact h e he
  · exact k e he
end Z
set_option maxHeartbeats 1000000
namespace Z
open PySem PySem.Spec PyProof.Rows L2
abbrev Lg := Int × Str × Str
structure Md where
  shut : List Str
  edge : List Str
  high : List Str
  up : List Int
  bar : Int
  calls : List Frm
  jobs : List (Str × Nat)
  now : Int
  log : List Lg
  spent : List Int
  joined : List Str
def Md.start : Md := ⟨[], [], [], [], 0, [], [], 0, [], [0, 0, 0, 0], []⟩
def putM {α : Type} [DecidableEq α] (l : List α) (x : α) (b : Bool) : List α := (l.filter fun y => !decide (y = x)) ++ (if b = true then [x] else [])
def Md.ring (P : Pl) (M : Md) (z : Str) : Md × Bool :=
  if (P.ln z).kd = "level" then ({ M with joined := M.joined ++ (if z ∈ M.high then [z] else []), high := putM M.high z true }, !decide (z ∈ M.high))
  else ({ M with joined := M.joined ++ (if z ∈ M.edge then [z] else []), edge := putM M.edge z true }, !decide (z ∈ M.edge))
def Md.does (P : Pl) (M : Md) (s : Str × Key) : Md × Bool :=
  if s.1 = "bar" then ({ M with bar := kI s.2 }, true)
  else if s.1 = "later" then ({ M with jobs := leave M.jobs (kS s.2) }, true)
  else if s.1 = "await" then (M, true)
  else if s.1 = "ring" then M.ring P (kS s.2)
  else if s.1 = "quiet" then ({ M with high := putM M.high (kS s.2) false }, decide (kS s.2 ∈ M.high))
  else if s.1 = "mask" then ({ M with shut := putM M.shut (kS s.2) true }, !decide (kS s.2 ∈ M.shut))
  else if s.1 = "unmask" then ({ M with shut := putM M.shut (kS s.2) false }, decide (kS s.2 ∈ M.shut))
  else if s.1 = "set" then ({ M with up := putM M.up (kI s.2) true }, !decide (kI s.2 ∈ M.up))
  else ({ M with up := putM M.up (kI s.2) false }, decide (kI s.2 ∈ M.up))
structure Eqs {α : Type} (l m : List α) : Prop where
  n1 : l.Nodup
  n2 : m.Nodup
  eq : ∀ x, x ∈ l ↔ x ∈ m
theorem Eqs.nil {α : Type} : Eqs ([] : List α) [] := ⟨.nil, .nil, fun _ => Iff.rfl⟩
theorem Eqs.dec {α : Type} [DecidableEq α] {l m : List α} (h : Eqs l m) (x : α) : decide (x ∈ l) = decide (x ∈ m) := by
  by_cases k : x ∈ l
  · rw [decide_eq_true k, decide_eq_true ((h.eq x).mp k)]
  · rw [decide_eq_false k, decide_eq_false fun z => k ((h.eq x).mpr z)]
theorem putM_mem {α : Type} [DecidableEq α] {l : List α} {x y : α} {b : Bool} : y ∈ putM l x b ↔ (y ∈ l ∧ y ≠ x) ∨ (y = x ∧ b = true) := by
  unfold putM
  rw [List.mem_append, List.mem_filter]
  cases b <;> simp
theorem putM_nodup {α : Type} [DecidableEq α] {l : List α} (h : l.Nodup) (x : α) (b : Bool) : (putM l x b).Nodup := by
  unfold putM
  rw [List.nodup_append]
  refine ⟨h.sublist List.filter_sublist, by cases b <;> simp, fun a ha c hc e => ?_⟩
  cases b with
  | false => simp at hc
  | true =>
    simp at hc
    subst hc
    subst e
    have := (List.mem_filter.mp ha).2
    simp at this
theorem putL_mem {α : Type} [DecidableEq α] {l : List α} (h : l.Nodup) {x y : α} {b : Bool} : y ∈ (putL l x b).1 ↔ (y ∈ l ∧ y ≠ x) ∨ (y = x ∧ b = true) := by
  unfold putL
  by_cases hx : x ∈ l
  · cases b with
    | true =>
      rw [if_pos (by simp [hx])]
      show y ∈ l ↔ _
      by_cases e : y = x
      · subst e; simp [hx]
      · simp [e]
    | false =>
      rw [if_neg (by simp [hx])]
      show y ∈ (if false = true then l ++ [x] else l.erase x) ↔ _
      rw [if_neg (by simp), h.mem_erase_iff]
      simp [And.comm]
  · cases b with
    | true =>
      rw [if_neg (by simp [hx])]
      show y ∈ (if true = true then l ++ [x] else l.erase x) ↔ _
      rw [if_pos rfl, List.mem_append, List.mem_singleton]
      by_cases e : y = x
      · subst e; simp
      · simp [e]
    | false =>
      rw [if_pos (by simp [hx])]
      show y ∈ l ↔ _
      by_cases e : y = x
      · subst e; simp [hx]
      · simp [e]
theorem putL_nodup {α : Type} [DecidableEq α] {l : List α} (h : l.Nodup) (x : α) (b : Bool) : (putL l x b).1.Nodup := by
  unfold putL
  split
  · exact h
  · rename_i hn
    cases b with
    | true =>
      show (if true = true then l ++ [x] else l.erase x).Nodup
      rw [if_pos rfl, List.nodup_append]
      refine ⟨h, by simp, fun a ha c hc e => ?_⟩
      simp at hc
      subst hc
      subst e
      simp [ha] at hn
    | false =>
      show (if false = true then l ++ [x] else l.erase x).Nodup
      rw [if_neg (by simp)]
      exact h.erase x
theorem Eqs.put {α : Type} [DecidableEq α] {l m : List α} (h : Eqs l m) (x : α) (b : Bool) : Eqs (putM l x b) (putL m x b).1 := ⟨putM_nodup h.n1 x b, putL_nodup h.n2 x b, fun y => by rw [putM_mem, putL_mem h.n2, h.eq y]⟩
theorem putL_res {α : Type} [DecidableEq α] {l : List α} {x : α} {b : Bool} : (putL l x b).2 = !decide (decide (x ∈ l) = b) := by
  unfold putL
  split
  · rename_i h; simp [h]
  · rename_i h; simp [h]
theorem Eqs.add {α : Type} [DecidableEq α] {l m : List α} (h : Eqs l m) {x : α} (hx : x ∉ m) : Eqs (putM l x true) (m ++ [x]) := by
  have := h.put x true
  unfold putL at this
  rw [if_neg (by simp [hx])] at this
  exact this
theorem Eqs.stay {α : Type} [DecidableEq α] {l m : List α} (h : Eqs l m) {x : α} (hx : x ∈ m) : Eqs (putM l x true) m := by
  have := h.put x true
  unfold putL at this
  rw [if_pos (by simp [hx])] at this
  exact this
structure RelB (M : Md) (B : Bd) : Prop where
  sh : Eqs M.shut B.shut
  ed : Eqs M.edge B.wanted
  hi : Eqs M.high B.high
  up : Eqs M.up B.raised
theorem isEdge {P : Pl} (ok : P.Ok) {z : Str} (hz : z ∈ P.names) : (P.ln z).kd = "edge" ∨ (P.ln z).kd = "level" := by
  have h := ok.lok _ (ok.ln_mem hz).1
  simp only [isLine, dLn, Bool.and_eq_true] at h
  have h2 := h.2.1
  have h3 : (P.ln z).kd ∈ (["edge", "level"] : List Str) := inV_str (show inV (.str (P.ln z).kd) ((["edge", "level"] : List Str).map V.str) = true from h2)
  simpa using h3
theorem ring_sim {P : Pl} (ok : P.Ok) {M : Md} {B : Bd} (h : RelB M B) {z : Str} (hz : z ∈ P.names) : RelB (M.ring P z).1 (B.ring P z).1 ∧ (M.ring P z).2 = (B.ring P z).2 := by
  unfold Md.ring Bd.ring
  rcases isEdge ok hz with e | e
  · rw [if_neg (show ¬ (P.ln z).kd = "level" by rw [e]; decide), if_pos e]
    have hd := h.ed.dec z
    by_cases hx : z ∈ B.wanted
    · rw [if_pos hx]
      exact ⟨⟨h.sh, h.ed.stay hx, h.hi, h.up⟩, by show (!decide (z ∈ M.edge)) = false; rw [hd, decide_eq_true hx]; rfl⟩
    · rw [if_neg hx]
      exact ⟨⟨h.sh, h.ed.add hx, h.hi, h.up⟩, by show (!decide (z ∈ M.edge)) = true; rw [hd, decide_eq_false hx]; rfl⟩
  · rw [if_pos e, if_neg (show ¬ (P.ln z).kd = "edge" by rw [e]; decide)]
    have hd := h.hi.dec z
    by_cases hx : z ∈ B.high
    · rw [if_pos hx]
      exact ⟨⟨h.sh, h.ed, h.hi.stay hx, h.up⟩, by show (!decide (z ∈ M.high)) = false; rw [hd, decide_eq_true hx]; rfl⟩
    · rw [if_neg hx]
      exact ⟨⟨h.sh, h.ed, h.hi.add hx, h.up⟩, by show (!decide (z ∈ M.high)) = true; rw [hd, decide_eq_false hx]; rfl⟩
theorem carry_sim {P : Pl} (ok : P.Ok) {M : Md} {B : Bd} (h : RelB M B) {s : Str × Key} (hs : CarryIs P s) : RelB (M.does P s).1 (B.carry P s).1 ∧ (M.does P s).2 = (B.carry P s).2 := by
  obtain ⟨w, k⟩ := s
  have q : ∀ {α : Type} [DecidableEq α] {l m : List α} (e : Eqs l m) (x : α), (!decide (x ∈ l)) = (putL m x true).2 ∧ decide (x ∈ l) = (putL m x false).2 := fun {α _ l m} e x => by
    rw [putL_res, putL_res, e.dec x]
    generalize decide (x ∈ m) = b
    constructor <;> (cases b <;> rfl)
  rcases hs with ⟨hw, z, e, hz⟩ | ⟨hw, i, e, h0, h7⟩
  · simp only at e hw
    subst e
    simp only [List.mem_cons, List.not_mem_nil, or_false] at hw
    rcases hw with rfl | rfl | rfl | rfl
    · exact ring_sim ok h hz
    · exact ⟨⟨h.sh, h.ed, h.hi.put z false, h.up⟩, (q h.hi z).2⟩
    · exact ⟨⟨h.sh.put z true, h.ed, h.hi, h.up⟩, (q h.sh z).1⟩
    · exact ⟨⟨h.sh.put z false, h.ed, h.hi, h.up⟩, (q h.sh z).2⟩
  · simp only at e hw
    subst e
    simp only [List.mem_cons, List.not_mem_nil, or_false] at hw
    rcases hw with rfl | rfl
    · exact ⟨⟨h.sh, h.ed, h.hi, h.up.put i true⟩, (q h.up i).1⟩
    · exact ⟨⟨h.sh, h.ed, h.hi, h.up.put i false⟩, (q h.up i).2⟩
theorem carry_rest {P : Pl} {M : Md} {s : Str × Key} (h1 : s.1 ≠ "bar") (h2 : s.1 ≠ "later") : (M.does P s).1.bar = M.bar ∧ (M.does P s).1.jobs = M.jobs := by
  unfold Md.does Md.ring
  rw [if_neg h1, if_neg h2]
  constructor <;> (repeat (first | rfl | split))
theorem does_rest {P : Pl} {M : Md} {s : Str × Key} : (M.does P s).1.calls = M.calls ∧ (M.does P s).1.now = M.now ∧ (M.does P s).1.log = M.log ∧ (M.does P s).1.spent = M.spent := by
  unfold Md.does Md.ring
  refine ⟨?_, ?_, ?_, ?_⟩ <;> (repeat (first | rfl | split))
structure RelC (M : Md) (lim : Int) (jobs : List (Str × Nat)) (B : Bd) : Prop where
  b : RelB M B
  lim : M.bar = lim
  jobs : M.jobs = jobs
end Z
set_option maxHeartbeats 1000000
namespace Z
open PySem PySem.Spec PyProof.Rows L2
abbrev leO : Ln → Ln → Bool := PySem.W.dataLe false ordD
theorem leO_total : PySem.W.TotalLe leO := PySem.W.sortLe_total _ _ _
theorem leO_sorted (l : List Ln) : (l.mergeSort leO).Pairwise fun a b => leO a b = true := List.pairwise_mergeSort leO_total.trans (fun a b => Bool.or_eq_true_iff.mpr (leO_total.total a b)) l
theorem str_ext {a b : Str} (h : a.cps.toList = b.cps.toList) : a = b := by
  cases a
  cases b
  simp only at h
  congr
  exact Array.toList_inj.mp h
theorem leO_anti {a b : Ln} (h1 : leO a b = true) (h2 : leO b a = true) : a.nm = b.nm := by
  have e1 : PySem.W.dataLt (ordD b) (ordD a) = false := by
    have : (!PySem.W.dataLt (ordD b) (ordD a)) = true := h1
    simpa using this
  have e2 : PySem.W.dataLt (ordD a) (ordD b) = false := by
    have : (!PySem.W.dataLt (ordD a) (ordD b)) = true := h2
    simpa using this
  unfold ordD at e1 e2
  rw [PySem.W.dataLt_pair (by simp [PySem.W.alike]) (by simp [PySem.W.alike]), PySem.W.dataLt_int, PySem.W.dataLt_str] at e1 e2
  simp only [PyData.eqv, beq_iff_eq] at e1 e2
  by_cases hr : (0 - b.rk) = 0 - a.rk
  · rw [if_pos hr] at e1
    rw [if_pos hr.symm] at e2
    by_cases hn : b.nm = a.nm
    · exact hn.symm
    · rw [if_neg hn] at e1
      rw [if_neg (fun z => hn z.symm)] at e2
      simp only [decide_eq_false_iff_not] at e1 e2
      exact str_ext (List.le_antisymm (List.not_lt.mp e1) (List.not_lt.mp e2))
  · rw [if_neg hr] at e1
    rw [if_neg (fun z => hr z.symm)] at e2
    simp only [decide_eq_false_iff_not] at e1 e2
    omega
theorem Pl.Ok.inj {P : Pl} (ok : P.Ok) {a b : Ln} (ha : a ∈ P.ls) (hb : b ∈ P.ls) (e : a.nm = b.nm) : a = b := by
  rw [← ok.ln_eq ha, ← ok.ln_eq hb, e]
theorem sorted_one {P : Pl} (ok : P.Ok) {l m : List Ln} (hl : ∀ x ∈ l, x ∈ P.ls) (hm : ∀ x ∈ m, x ∈ P.ls) (p : l.Perm m) (s1 : l.Pairwise fun a b => leO a b = true) (s2 : m.Pairwise fun a b => leO a b = true) : l = m :=
  List.Perm.eq_of_pairwise (fun a b ha hb h1 h2 => ok.inj (hl a ha) (hm b hb) (leO_anti h1 h2)) s1 s2 p
theorem ord_filter {P : Pl} (ok : P.Ok) (p : Ln → Bool) : (P.ls.mergeSort leO).filter p = (P.ls.filter p).mergeSort leO := by
  refine sorted_one ok (fun x hx => ?_) (fun x hx => ?_) ?_ ((leO_sorted _).sublist List.filter_sublist) (leO_sorted _)
  · exact (List.mergeSort_perm _ _).mem_iff.mp (List.mem_filter.mp hx).1
  · exact (List.mem_filter.mp ((List.mergeSort_perm _ _).mem_iff.mp hx)).1
  · exact ((List.mergeSort_perm _ _).filter p).trans (List.mergeSort_perm _ _).symm
theorem order_filter {P : Pl} (ok : P.Ok) (p : Str → Bool) : P.order.filter p = ((P.ls.filter fun l => p l.nm).mergeSort leO).map (·.nm) := by
  unfold Pl.order
  rw [List.filter_map, ← ord_filter ok]
  rfl
theorem order_names {P : Pl} (ok : P.Ok) {l : List Ln} {p : Str → Bool} (hl : ∀ x ∈ l, x ∈ P.ls) (hn : l.Nodup) (he : ∀ x ∈ P.ls, p x.nm = true ↔ x ∈ l) : (l.mergeSort leO).map (·.nm) = P.order.filter p := by
  rw [order_filter ok]
  congr 1
  refine sorted_one ok (fun x hx => hl x ((List.mergeSort_perm _ _).mem_iff.mp hx)) (fun x hx => (List.mem_filter.mp ((List.mergeSort_perm _ _).mem_iff.mp hx)).1) ?_ (leO_sorted _) (leO_sorted _)
  refine (List.mergeSort_perm _ _).trans (List.Perm.trans ?_ (List.mergeSort_perm _ _).symm)
  have hd : P.ls.Nodup := by
    have := ok.lnd
    unfold Pl.names at this
    exact List.Pairwise.of_map _ (fun a b h e => h (by rw [e])) this
  refine (List.perm_ext_iff_of_nodup hn (hd.sublist List.filter_sublist)).mpr fun x => ?_
  rw [List.mem_filter]
  constructor
  · intro hx
    exact ⟨hl x hx, (he x (hl x hx)).mpr hx⟩
  · rintro ⟨h1, h2⟩
    exact (he x h1).mp h2
def rkF (P : Pl) (f : Frm) : Int := (P.ln f.ln).rk
def AtOk (P : Pl) (f : Frm) : Prop := ∃ s, (P.ln f.ln).st[f.st]? = some s ∧ ((s.1 = "run" ∧ ∃ n : Int, s.2 = .inl n ∧ (f.tk : Int) < n) ∨ (s.1 = "await" ∧ f.tk = 0))
structure RInv (P : Pl) (C : Cr) (B : Bd) : Prop where
  cok : COk P C B
  tk : ∀ z, z ∈ B.taken ↔ z ∈ C.frames.map (·.ln)
  rk : (C.frames.map (rkF P)).Pairwise (· < ·)
  rt : ∀ f ∈ C.frames, AtOk P f
  jb : ∀ j ∈ C.jobs, (j.2 : Int) < (P.wk j.1).tk
structure Rel (P : Pl) (M : Md) (G : Sg) : Prop where
  calls : M.calls = G.C.frames
  c : RelC M G.C.limit G.C.jobs G.B
  now : M.now = G.time
  sp : ∃ a b c d : Int, M.spent = [a, b, c, d] ∧ G.sums = ([("call", a), ("spun", b), ("work", c), ("idle", d)] : List (Str × Int))
end Z
set_option maxHeartbeats 1000000
namespace Z
open PySem PySem.Spec PyProof.Rows L2
end Z
set_option maxHeartbeats 1000000
namespace Z
open PySem PySem.Spec PyProof.Rows L2
def dFrm (f : Frm) : PyData := .tuple [.str f.ln, .int f.st, .int f.tk, .int f.kp]
def dLg (l : Lg) : PyData := .tuple [.int l.1, .str l.2.1, .str l.2.2]
structure MA where
  m : Addr
  ln : Addr
  wk : Addr
  sh : Addr
  ed : Addr
  hi : Addr
  up : Addr
  ca : Addr
  jo : Addr
  lg : Addr
  sp : Addr
  jn : Addr
def MA.own (D : MA) : List Addr := [D.m, D.sh, D.ed, D.hi, D.up, D.ca, D.jo, D.lg, D.sp, D.jn]
def mdKV (D : MA) (bar now : Int) : List (Key × V) := [(.inr "lines", .ref D.ln), (.inr "works", .ref D.wk), (.inr "shut", .ref D.sh), (.inr "edge", .ref D.ed), (.inr "high", .ref D.hi), (.inr "up", .ref D.up), (.inr "bar", .int bar), (.inr "calls", .ref D.ca), (.inr "jobs", .ref D.jo), (.inr "now", .int now), (.inr "log", .ref D.lg), (.inr "spent", .ref D.sp), (.inr "joined", .ref D.jn)]
section
variable {D : MA} {b n : Int}
theorem mk_ln : valV (mdKV D b n) (.inr "lines") = some (.ref D.ln) := by kernel_rfl
theorem mk_wk : valV (mdKV D b n) (.inr "works") = some (.ref D.wk) := by kernel_rfl
theorem mk_sh : valV (mdKV D b n) (.inr "shut") = some (.ref D.sh) := by kernel_rfl
theorem mk_ed : valV (mdKV D b n) (.inr "edge") = some (.ref D.ed) := by kernel_rfl
theorem mk_hi : valV (mdKV D b n) (.inr "high") = some (.ref D.hi) := by kernel_rfl
theorem mk_up : valV (mdKV D b n) (.inr "up") = some (.ref D.up) := by kernel_rfl
theorem mk_bar : valV (mdKV D b n) (.inr "bar") = some (.int b) := by kernel_rfl
theorem mk_ca : valV (mdKV D b n) (.inr "calls") = some (.ref D.ca) := by kernel_rfl
theorem mk_jo : valV (mdKV D b n) (.inr "jobs") = some (.ref D.jo) := by kernel_rfl
theorem mk_now : valV (mdKV D b n) (.inr "now") = some (.int n) := by kernel_rfl
theorem mk_lg : valV (mdKV D b n) (.inr "log") = some (.ref D.lg) := by kernel_rfl
theorem mk_sp : valV (mdKV D b n) (.inr "spent") = some (.ref D.sp) := by kernel_rfl
theorem mk_jn : valV (mdKV D b n) (.inr "joined") = some (.ref D.jn) := by kernel_rfl
end
def LsAt (K : Fg) (H : Hp) (a : Addr) (ds : List PyData) : Prop := ∃ xs, H a = some (.lst xs) ∧ DpAll K H xs ds
theorem LsAt.keep {K : Fg} {H H' : Hp} {a : Addr} {ds : List PyData} {A : List Addr} (h : LsAt K H a ds) (f : Fr A H H') (n : a ∉ A) (t : tupds ds = true) : LsAt K H' a ds := by
  obtain ⟨xs, h1, h2⟩ := h
  exact ⟨xs, f.at h1 n, h2.tk f.tk t⟩
structure MdL (K : Fg) (H : Hp) (D : MA) (M : Md) : Prop where
  nd : D.own.Nodup
  sh : H D.sh = some (.lst (M.shut.map V.str))
  ed : H D.ed = some (.lst (M.edge.map V.str))
  hi : H D.hi = some (.lst (M.high.map V.str))
  up : H D.up = some (.lst (M.up.map V.int))
  ca : LsAt K H D.ca (M.calls.map dFrm)
  jo : LsAt K H D.jo (M.jobs.map dJob)
  lg : LsAt K H D.lg (M.log.map dLg)
  sp : H D.sp = some (.lst (M.spent.map V.int))
  jn : H D.jn = some (.lst (M.joined.map V.str))
structure MdAt (K : Fg) (H : Hp) (D : MA) (M : Md) : Prop where
  l : MdL K H D M
  md : H D.m = some (.dK (mdKV D M.bar M.now))
section
variable {K : Fg} {H H' : Hp} {D : MA} {M : Md}
theorem tds_frm (l : List Frm) : tupds (l.map dFrm) = true := tupds_map (fun _ => rfl) l
theorem tds_job (l : List (Str × Nat)) : tupds (l.map dJob) = true := tupds_map (fun _ => rfl) l
theorem tds_lg (l : List Lg) : tupds (l.map dLg) = true := tupds_map (fun _ => rfl) l
theorem MdL.keep (h : MdL K H D M) {A : List Addr} (f : Fr A H H') (n : ∀ a ∈ D.own, a ∉ A) : MdL K H' D M := by
  have n' : D.m ∉ A ∧ D.sh ∉ A ∧ D.ed ∉ A ∧ D.hi ∉ A ∧ D.up ∉ A ∧ D.ca ∉ A ∧ D.jo ∉ A ∧ D.lg ∉ A ∧ D.sp ∉ A ∧ D.jn ∉ A := by simpa [MA.own] using n
  obtain ⟨n0, n1, n2, n3, n4, n5, n6, n7, n8, n9⟩ := n'
  exact ⟨h.nd, f.at h.sh n1, f.at h.ed n2, f.at h.hi n3, f.at h.up n4, h.ca.keep f n5 (tds_frm _), h.jo.keep f n6 (tds_job _), h.lg.keep f n7 (tds_lg _), f.at h.sp n8, f.at h.jn n9⟩
theorem MdAt.keep (h : MdAt K H D M) {A : List Addr} (f : Fr A H H') (n : ∀ a ∈ D.own, a ∉ A) : MdAt K H' D M := ⟨h.l.keep f n, f.at h.md (n _ (by simp [MA.own]))⟩
theorem MdAt.same (h : MdAt K H D M) (s : Same H H') : MdAt K H' D M := h.keep (A := []) s.fr (by simp)
theorem md_same (s : Same H H') (h : MdAt K H D M) : MdAt K H' D M := h.same s
theorem MdAt.ex (h : MdAt K H D M) : ∀ a ∈ D.own, H a ≠ none := by
  obtain ⟨_, h1, _⟩ := h.l.ca
  obtain ⟨_, h2, _⟩ := h.l.jo
  obtain ⟨_, h3, _⟩ := h.l.lg
  simp [MA.own, h.md, h.l.sh, h.l.ed, h.l.hi, h.l.up, h1, h2, h3, h.l.sp, h.l.jn]
structure MA.Nes (D : MA) : Prop where
  m : D.m ≠ D.sh ∧ D.m ≠ D.ed ∧ D.m ≠ D.hi ∧ D.m ≠ D.up ∧ D.m ≠ D.ca ∧ D.m ≠ D.jo ∧ D.m ≠ D.lg ∧ D.m ≠ D.sp ∧ D.m ≠ D.jn
  sh : D.sh ≠ D.ed ∧ D.sh ≠ D.hi ∧ D.sh ≠ D.up ∧ D.sh ≠ D.ca ∧ D.sh ≠ D.jo ∧ D.sh ≠ D.lg ∧ D.sh ≠ D.sp ∧ D.sh ≠ D.jn
  ed : D.ed ≠ D.hi ∧ D.ed ≠ D.up ∧ D.ed ≠ D.ca ∧ D.ed ≠ D.jo ∧ D.ed ≠ D.lg ∧ D.ed ≠ D.sp ∧ D.ed ≠ D.jn
  hi : D.hi ≠ D.up ∧ D.hi ≠ D.ca ∧ D.hi ≠ D.jo ∧ D.hi ≠ D.lg ∧ D.hi ≠ D.sp ∧ D.hi ≠ D.jn
  up : D.up ≠ D.ca ∧ D.up ≠ D.jo ∧ D.up ≠ D.lg ∧ D.up ≠ D.sp ∧ D.up ≠ D.jn
  ca : D.ca ≠ D.jo ∧ D.ca ≠ D.lg ∧ D.ca ≠ D.sp ∧ D.ca ≠ D.jn
  jo : D.jo ≠ D.lg ∧ D.jo ≠ D.sp ∧ D.jo ≠ D.jn
  lg : D.lg ≠ D.sp ∧ D.lg ≠ D.jn
  sp : D.sp ≠ D.jn
theorem MA.nes {D : MA} (h : D.own.Nodup) : D.Nes := by
  simp only [MA.own, List.nodup_cons, List.mem_cons, List.not_mem_nil, or_false, not_or, List.nodup_nil, and_true, not_false_eq_true] at h
  obtain ⟨h0, h1, h2, h3, h4, h5, h6, h7, h8⟩ := h
  exact ⟨h0, h1, h2, h3, h4, h5, h6, h7, h8⟩
theorem MdL.put (h : MdL K H D M) {u : HO} (e : H D.m = some u) (t : tupO u = false) : MdAt K (upd H D.m (.dK (mdKV D M.bar M.now))) D M := by
  have f : Fr [D.m] H (upd H D.m (.dK (mdKV D M.bar M.now))) := Fr.upd (by simp) e t
  obtain ⟨⟨n1, n2, n3, n4, n5, n6, n7, n8, n9⟩, _, _, _, _, _, _, _, _⟩ := MA.nes h.nd
  exact ⟨⟨h.nd, f.at h.sh (by simp [Ne.symm n1]), f.at h.ed (by simp [Ne.symm n2]), f.at h.hi (by simp [Ne.symm n3]), f.at h.up (by simp [Ne.symm n4]), h.ca.keep f (by simp [Ne.symm n5]) (tds_frm _), h.jo.keep f (by simp [Ne.symm n6]) (tds_job _), h.lg.keep f (by simp [Ne.symm n7]) (tds_lg _), f.at h.sp (by simp [Ne.symm n8]), f.at h.jn (by simp [Ne.symm n9])⟩, upd_same⟩
end
structure ChM (H : Hp) (D : MA) (H' : Hp) (D' : MA) : Prop where
  fr : Fr D.own H H'
  m : D'.m = D.m
  ln : D'.ln = D.ln
  wk : D'.wk = D.wk
  own : ∀ a ∈ D'.own, a ∈ D.own ∨ H a = none
theorem ChM.refl {H : Hp} {D : MA} : ChM H D H D := ⟨Fr.refl, rfl, rfl, rfl, fun _ h => .inl h⟩
theorem ChM.same {H H' : Hp} {D : MA} (s : Same H H') : ChM H D H' D := ⟨s.fr, rfl, rfl, rfl, fun _ h => .inl h⟩
theorem ChM.trans {H H1 H2 : Hp} {D D1 D2 : MA} (x : ChM H D H1 D1) (y : ChM H1 D1 H2 D2) : ChM H D H2 D2 := by
  refine ⟨x.fr.seq y.fr x.own, y.m.trans x.m, y.ln.trans x.ln, y.wk.trans x.wk, fun a ha => ?_⟩
  rcases y.own a ha with h | h
  · exact x.own a h
  · exact .inr (x.fr.back h)
structure PlM (K : Fg) (H : Hp) (D : MA) (P : Pl) : Prop where
  ok : P.Ok
  ln : ∃ vs, H D.ln = some (.dK ((P.ls.map fun l => (Sum.inr l.nm : Key)).zip vs)) ∧ DpAll K H vs (P.ls.map dLn)
  wk : ∃ vs, H D.wk = some (.dK ((P.ws.map fun l => (Sum.inr l.nm : Key)).zip vs)) ∧ DpAll K H vs (P.ws.map dWk)
theorem PlM.keep {K : Fg} {H H' : Hp} {D : MA} {P : Pl} (h : PlM K H D P) {A : List Addr} (f : Fr A H H') (n1 : D.ln ∉ A) (n2 : D.wk ∉ A) : PlM K H' D P := by
  obtain ⟨vs, h1, h2⟩ := h.ln
  obtain ⟨ws, h3, h4⟩ := h.wk
  exact ⟨h.ok, ⟨vs, f.at h1 n1, h2.tk f.tk (tupds_map tupd_dLn _)⟩, ⟨ws, f.at h3 n2, h4.tk f.tk (tupds_map tupd_dWk _)⟩⟩
theorem PlM.same {K : Fg} {H H' : Hp} {D : MA} {P : Pl} (h : PlM K H D P) (s : Same H H') : PlM K H' D P := h.keep (A := []) s.fr (by simp) (by simp)
theorem plm_same {K : Fg} {H H' : Hp} {D : MA} {P : Pl} (s : Same H H') (h : PlM K H D P) : PlM K H' D P := h.same s
theorem PlM.of {K : Fg} {H : Hp} {D D' : MA} {P : Pl} (h : PlM K H D P) (e1 : D'.ln = D.ln) (e2 : D'.wk = D.wk) : PlM K H D' P := ⟨h.ok, by rw [e1]; exact h.ln, by rw [e2]; exact h.wk⟩
end Z
set_option maxHeartbeats 1000000
namespace Z
open PySem PySem.Spec PyProof.Rows L2
section
variable {σ : L2.St} {H : Hp} {a : Addr} {kvs : List (Key × V)} {ea ec ed : L2.St → Hp → Prop} {eb : VK}
theorem s_dputg {td ty tv : TE} (q : tv σ H fun v H1 => td σ H1 fun x H2 => ty σ H2 fun y H3 => ∃ a H4, x = .ref a ∧ DPut H3 a y v H4 ∧ ea σ H4) : sDPut td ty tv (.mk ea eb ec ed) σ H := q
end
structure MSt (K : Fg) (H : Hp) (D : MA) (P : Pl) (M : Md) : Prop where
  md : MdAt K H D M
  pl : PlM K H D P
  n1 : D.ln ∉ D.own
  n2 : D.wk ∉ D.own
theorem MSt.same {K : Fg} {H H' : Hp} {D : MA} {P : Pl} {M : Md} (h : MSt K H D P M) (s : Same H H') : MSt K H' D P M := ⟨h.md.same s, h.pl.same s, h.n1, h.n2⟩
theorem mst_same {K : Fg} {H H' : Hp} {D : MA} {P : Pl} {M : Md} (s : Same H H') (h : MSt K H D P M) : MSt K H' D P M := h.same s
theorem PlM.ex {K : Fg} {H : Hp} {D : MA} {P : Pl} (h : PlM K H D P) : H D.ln ≠ none ∧ H D.wk ≠ none := by
  obtain ⟨vs, h1, h2⟩ := h.ln
  obtain ⟨ws, h3, h4⟩ := h.wk
  simp [h1, h3]
end Z
set_option maxHeartbeats 1000000
namespace Z
open PySem PySem.Spec PyProof.Rows L2
structure MBd (P : Pl) (M : Md) : Prop where
  sh : M.shut.length ≤ 1000
  ed : M.edge.length ≤ 1000
  hi : M.high.length ≤ 1000
  up : M.up.length ≤ 1000
  ca : M.calls.length ≤ 1000
  jo : M.jobs.length ≤ 1000
  jw : ∀ j ∈ M.jobs, j.1 ∈ P.wnames
  sz : M.joined.length + M.log.length ≤ 1000000
end Z
set_option maxHeartbeats 1000000
namespace Z
open PySem PySem.Spec PyProof.Rows L2
structure Gr (P : Pl) (M M' : Md) (n : Nat) : Prop where
  sh : M'.shut.length ≤ M.shut.length + n
  ed : M'.edge.length ≤ M.edge.length + n
  hi : M'.high.length ≤ M.high.length + n
  up : M'.up.length ≤ M.up.length + n
  ca : M'.calls.length ≤ M.calls.length + n
  jo : M'.jobs.length ≤ M.jobs.length + n
  jw : (∀ j ∈ M.jobs, j.1 ∈ P.wnames) → ∀ j ∈ M'.jobs, j.1 ∈ P.wnames
  sz : M'.joined.length + M'.log.length ≤ M.joined.length + M.log.length + n
theorem Gr.refl {P : Pl} {M : Md} : Gr P M M 0 := ⟨Nat.le_refl _, Nat.le_refl _, Nat.le_refl _, Nat.le_refl _, Nat.le_refl _, Nat.le_refl _, id, Nat.le_refl _⟩
theorem Gr.trans {P : Pl} {M M1 M2 : Md} {n k : Nat} (x : Gr P M M1 n) (y : Gr P M1 M2 k) : Gr P M M2 (n + k) := by
  obtain ⟨a1, a2, a3, a4, a5, a6, a7, a8⟩ := x
  obtain ⟨b1, b2, b3, b4, b5, b6, b7, b8⟩ := y
  exact ⟨by omega, by omega, by omega, by omega, by omega, by omega, fun h => b7 (a7 h), by omega⟩
theorem Gr.mono {P : Pl} {M M1 : Md} {n k : Nat} (x : Gr P M M1 n) (h : n ≤ k) : Gr P M M1 k := by
  obtain ⟨a1, a2, a3, a4, a5, a6, a7, a8⟩ := x
  exact ⟨by omega, by omega, by omega, by omega, by omega, by omega, a7, by omega⟩
structure Rm (P : Pl) (M : Md) (n : Nat) : Prop where
  sh : M.shut.length + n ≤ 1000
  ed : M.edge.length + n ≤ 1000
  hi : M.high.length + n ≤ 1000
  up : M.up.length + n ≤ 1000
  ca : M.calls.length + n ≤ 1000
  jo : M.jobs.length + n ≤ 1000
  jw : ∀ j ∈ M.jobs, j.1 ∈ P.wnames
  sz : M.joined.length + M.log.length + n ≤ 1000000
theorem Rm.bd {P : Pl} {M : Md} {n : Nat} (x : Rm P M n) : MBd P M := by
  obtain ⟨a1, a2, a3, a4, a5, a6, a7, a8⟩ := x
  exact ⟨by omega, by omega, by omega, by omega, by omega, by omega, a7, by omega⟩
end Z
set_option maxHeartbeats 1000000
namespace Z
open PySem PySem.Spec PyProof.Rows L2
theorem DpAll.snoc {K : Fg} {H : Hp} {d : PyData} : ∀ {ds : List PyData} {xs : List V}, DpAll K H xs (ds ++ [d]) → ∃ as x, xs = as ++ [x] ∧ DpAll K H as ds ∧ Dp K H x d
  | [], _, .cons h .nil => ⟨[], _, rfl, .nil, h⟩
  | e :: ds, _, .cons h t => by
    obtain ⟨as, x, rfl, h1, h2⟩ := DpAll.snoc t
    exact ⟨_ :: as, x, rfl, .cons h h1, h2⟩
end Z
set_option maxHeartbeats 1000000
namespace Z
open PySem PySem.Spec PyProof.Rows L2
def Ts (K : Fg) (H H' : Hp) : Prop := ∀ a xs, SqT K H a xs → SqT K H' a xs
theorem Ts.trans {K : Fg} {H H1 H2 : Hp} (a : Ts K H H1) (b : Ts K H1 H2) : Ts K H H2 := fun _ _ h => b _ _ (a _ _ h)
theorem ln_self {P : Pl} (ok : P.Ok) {l : Ln} (h : l ∈ P.ls) : P.ln l.nm = l := ok.inj (ok.ln_mem (List.mem_map.mpr ⟨l, h, rfl⟩)).1 h (ok.ln_mem (List.mem_map.mpr ⟨l, h, rfl⟩)).2
end Z
set_option maxHeartbeats 1000000
namespace Z
open PySem PySem.Spec PyProof.Rows L2
end Z
set_option maxHeartbeats 1000000
namespace Z
open PySem PySem.Spec PyProof.Rows L2
end Z
set_option maxHeartbeats 1000000
namespace Z
open PySem PySem.Spec PyProof.Rows L2
end Z
set_option maxHeartbeats 1000000
namespace Z
open PySem PySem.Spec PyProof.Rows L2
end Z
set_option maxHeartbeats 1000000
namespace Z
open PySem PySem.Spec PyProof.Rows L2
structure Al (l : List Addr) (H : Hp) : Prop where
  nd : l.Nodup
  ex : ∀ a ∈ l, H a ≠ none
theorem Al.nil {H : Hp} : Al [] H := ⟨.nil, by simp⟩
theorem Al.fr {l A : List Addr} {H H' : Hp} (h : Al l H) (f : Fr A H H') : Al l H' := ⟨h.nd, fun a ha e => h.ex a ha (f.back e)⟩
theorem Al.same {l : List Addr} {H H' : Hp} (h : Al l H) (s : Same H H') : Al l H' := h.fr (A := []) s.fr
theorem Al.new {l : List Addr} {H H' : Hp} {p : Addr} {o : HO} (h : Al l H) (hp : H p = none) (s : Same H H') (e : H' p = some o) : Al (l ++ [p]) H' := by
  refine ⟨?_, fun a ha => ?_⟩
  · rw [List.nodup_append]
    refine ⟨h.nd, by simp, fun a ha b hb eab => ?_⟩
    rw [List.mem_singleton] at hb
    rw [eab, hb] at ha
    exact h.ex _ ha hp
  · rcases List.mem_append.mp ha with ha | ha
    · exact (h.same s).ex a ha
    · rw [List.mem_singleton.mp ha, e]
      simp
end Z
set_option maxHeartbeats 1000000
namespace Z
open PySem PySem.Spec PyProof.Rows L2
section
variable {K : Fg} {σ : L2.St} {H H1 : Hp} {Q : VK} {g : TG} {tt : TT} {te tk tv tl : TE} {vs : List Nat} {x : V} {a : Addr} {xs : List V} {α : Type} {l : List α}
theorem lcR_d {n : Nat} (p : Nat → Bool) (f : Nat → PyData) (hn : n ≤ 40000) (hf : ∀ i, i < n → tupd (f i) = true)
    (hs : ∀ (i : Nat) (H : Hp) (Yes : VK) (No : Hp → Prop), i < n → Same H1 H → (p i = true → ∀ y H4, Same H H4 → Dp K H4 y (f i) → Yes y H4) → (p i = false → ∀ H3, Same H H3 → No H3) →
      g (.int i) (wipe σ vs) H fun σ2 H2 => wipe σ2 vs = wipe σ vs ∧ tt σ2 H2 fun b H3 => if b = true then te σ2 H3 Yes else No H3)
    (hd : ∀ D H' ys, H1 D = none → Same H1 H' → H' D = some (.lst ys) → DpAll K H' ys (((List.range n).filter p).map f) → Q (.ref D) H') : LcQ (Itr 0 n) g tt te vs σ Q H1 := by
  have hz : (List.range n).length = n := List.length_range
  refine fun D hD => ?_
  refine lc_dat (K := K) (walk_range (lo := 0) (n := n)) (pAt (List.range n) p) (dAt (List.range n) f) hD hn (dAt_tupd (fun x hx => hf x (List.mem_range.mp hx))) (fun H s => trivial) (fun i H x H' y => by rw [y.1]; exact Same.refl H) (fun i x H H' Yes No hi s1 y yes no => ?_) (fun H' ys s1 e1 a1 => ?_)
  · obtain ⟨rfl, rfl⟩ := y
    have hz : (List.range n)[i]? = some i := List.getElem?_range hi
    rw [pAt_eq hz, dAt_eq hz] at yes
    rw [pAt_eq hz] at no
    have := hs i H' Yes No hi s1 yes no
    dsimp only
    rw [Int.zero_add]
    exact this
  · have k := keptD_list (l := List.range n) (p := p) (f := f)
    rw [hz] at k
    rw [k] at a1
    exact hd D H' ys hD s1 e1 a1
end
end Z
set_option maxHeartbeats 1000000
namespace Z
open PySem PySem.Spec PyProof.Rows L2
theorem MSt.keep {K : Fg} {H H' : Hp} {D : MA} {P : Pl} {M : Md} (h : MSt K H D P M) {A : List Addr} (f : Fr A H H') (n : ∀ a ∈ D.own, a ∉ A) (n1 : D.ln ∉ A) (n2 : D.wk ∉ A) : MSt K H' D P M := ⟨h.md.keep f n, h.pl.keep f n1 n2, h.n1, h.n2⟩
end Z
set_option maxHeartbeats 1000000
namespace Z
open PySem PySem.Spec PyProof.Rows L2
def Md.sz (M : Md) : Nat := M.joined.length + M.log.length
theorem Eqs.len {α : Type} [DecidableEq α] {l m : List α} (h : Eqs l m) : l.length = m.length := ((List.perm_ext_iff_of_nodup h.n1 h.n2).mpr fun x => h.eq x).length_eq
theorem inOrd_eq {P : Pl} (ok : P.Ok) {zs : List Str} {p : Str → Bool} (hz : ∀ z ∈ zs, z ∈ P.names) (hn : zs.Nodup) (he : ∀ z ∈ P.names, p z = true ↔ z ∈ zs) : ((zs.map P.ln).mergeSort leO).map (·.nm) = P.order.filter p := by
  refine order_names ok (fun x hx => ?_) ?_ (fun x hx => ?_)
  · obtain ⟨z, h, rfl⟩ := List.mem_map.mp hx
    exact (ok.ln_mem (hz z h)).1
  · refine List.pairwise_map.mpr (hn.imp_of_mem ?_)
    intro a b ha hb hab e
    apply hab
    rw [← (ok.ln_mem (hz a ha)).2, ← (ok.ln_mem (hz b hb)).2, e]
  · rw [he x.nm (List.mem_map.mpr ⟨x, hx, rfl⟩)]
    constructor
    · intro h
      exact List.mem_map.mpr ⟨x.nm, h, ln_self ok hx⟩
    · intro h
      obtain ⟨z, h1, h2⟩ := List.mem_map.mp h
      rw [← h2, (ok.ln_mem (hz z h1)).2]
      exact h1
structure Both (P : Pl) (M : Md) (G : Sg) : Prop where
  rel : Rel P M G
  inv : RInv P G.C G.B
section
variable {P : Pl} {M : Md} {G : Sg}
theorem Both.shut (ok : P.Ok) (b : Both P M G) : ((M.shut.map P.ln).mergeSort leO).map (·.nm) = P.order.filter fun z => decide (z ∈ G.B.shut) := by
  have e := b.rel.c.b.sh
  refine inOrd_eq ok (fun z hz => b.inv.cok.bok.sh.sub z ((e.eq z).mp hz)) e.n1 (fun z hz => ?_)
  rw [decide_eq_true_iff]
  exact (e.eq z).symm
theorem Both.high (ok : P.Ok) (b : Both P M G) : ((M.high.map P.ln).mergeSort leO).map (·.nm) = P.order.filter fun z => decide (z ∈ G.B.high) := by
  have e := b.rel.c.b.hi
  refine inOrd_eq ok (fun z hz => b.inv.cok.bok.hi.sub z ((e.eq z).mp hz)) e.n1 (fun z hz => ?_)
  rw [decide_eq_true_iff]
  exact (e.eq z).symm
theorem Both.spent (b : Both P M G) : M.spent = G.sums.map (·.2) := by
  obtain ⟨x, y, z, w, e, e2⟩ := b.rel.sp
  rw [e, e2]
  rfl
theorem carry_taken {B : Bd} {s : Str × Key} : (B.carry P s).1.taken = B.taken := by
  unfold Bd.carry Bd.ring
  repeat (first | rfl | split)
theorem Both.deed (ok : P.Ok) (b : Both P M G) {s : Str × Key} (cs : CarryIs P s) : Both P (M.does P s).1 { G with B := (G.B.carry P s).1 } ∧ (M.does P s).2 = (G.B.carry P s).2 := by
  obtain ⟨h1, h2⟩ := carry_sim ok b.rel.c.b cs
  have w1 : s.1 ≠ "bar" := by
    rcases cs with ⟨hw, _⟩ | ⟨hw, _⟩ <;> (intro e; rw [e] at hw; revert hw; decide)
  have w2 : s.1 ≠ "later" := by
    rcases cs with ⟨hw, _⟩ | ⟨hw, _⟩ <;> (intro e; rw [e] at hw; revert hw; decide)
  obtain ⟨c1, c2⟩ := carry_rest (P := P) (M := M) w1 w2
  obtain ⟨d1, d2, d3, d4⟩ := does_rest (P := P) (M := M) (s := s)
  refine ⟨⟨⟨d1.trans b.rel.calls, ⟨h1, c1.trans b.rel.c.lim, c2.trans b.rel.c.jobs⟩, d2.trans b.rel.now, by rw [d4]; exact b.rel.sp⟩, ?_⟩, h2⟩
  have ct := carry_taken (P := P) (B := G.B) (s := s)
  exact ⟨⟨b.inv.cok.bok.carry cs, b.inv.cok.jok, b.inv.cok.fok.taken ct⟩, fun z => by rw [ct]; exact b.inv.tk z, b.inv.rk, b.inv.rt, b.inv.jb⟩
end
end Z
set_option maxHeartbeats 1000000
namespace Z
open PySem PySem.Spec PyProof.Rows L2
theorem Both.start (P : Pl) : Both P Md.start (Sg.start P) := by
  refine ⟨⟨rfl, ⟨⟨Eqs.nil, Eqs.nil, Eqs.nil, Eqs.nil⟩, rfl, rfl⟩, rfl, 0, 0, 0, 0, rfl, rfl⟩, ⟨(Acct.start P).cok, fun z => ?_, by simp [Sg.start], by simp [Sg.start], by simp [Sg.start]⟩⟩
  simp [Sg.start]
theorem Both.sub (ok : P.Ok) {M : Md} {G : Sg} (b : Both P M G) : (∀ z ∈ M.shut, z ∈ P.names) ∧ (∀ z ∈ M.high, z ∈ P.names) := ⟨fun z hz => b.inv.cok.bok.sh.sub z ((b.rel.c.b.sh.eq z).mp hz), fun z hz => b.inv.cok.bok.hi.sub z ((b.rel.c.b.hi.eq z).mp hz)⟩
structure Two (K : Fg) (H0 H : Hp) (A : SA) (D : MA) (P : Pl) (M : Md) (G : Sg) : Prop where
  sg : SgAt K H A P G
  st : MSt K H D P M
  dj : ∀ a ∈ A.own, a ∉ D.own ∧ a ≠ D.ln ∧ a ≠ D.wk
  dp : ∀ a ∈ A.PD.own, a ∉ D.own
  na : ∀ a ∈ A.own, H0 a = none
  nd : ∀ a ∈ D.own, H0 a = none
  np : ∀ a ∈ A.PD.own, H0 a = none
  nl : H0 D.ln = none ∧ H0 D.wk = none
section
variable {K : Fg} {H0 H H' : Hp} {A A' : SA} {D D' : MA} {P : Pl} {M M' : Md} {G G' : Sg}
theorem Two.keep (t : Two K H0 H A D P M G) {N : List Addr} (f : Fr N H H') (n : ∀ a ∈ N, H0 a ≠ none) : Two K H0 H' A D P M G := by
  have z : ∀ {a}, H0 a = none → a ∉ N := fun h q => n _ q h
  exact ⟨t.sg.keep f (fun a ha => z (t.na a ha)) (fun a ha => z (t.np a ha)), t.st.keep f (fun a ha => z (t.nd a ha)) (z t.nl.1) (z t.nl.2), t.dj, t.dp, t.na, t.nd, t.np, t.nl⟩
theorem Two.same (t : Two K H0 H A D P M G) (s : Same H H') : Two K H0 H' A D P M G := t.keep (N := []) s.fr (by simp)
theorem Two.row (t : Two K H0 H A D P M G) {r : Addr} (f : Fr [r] H H') (n : H0 r ≠ none) : Two K H0 H' A D P M G := t.keep f (by simpa using n)
end
end Z
set_option maxHeartbeats 1000000
namespace Z
open PySem PySem.Spec PyProof.Rows L2
def nmA : List Str := ["net", "disk", "heat", "fan", "a", "ab", "b", "c", "d", "flush", "sweep", "x", "idle", "zza", "zzb", "zzc", "zzd", "zze", "zzf"]
theorem nmA_name : ∀ z ∈ nmA, isName (.str z) = true ∧ short (.str z) = true ∧ (PyData.str z).canLay0 = true := by decide +kernel
abbrev NK := List (Str × Str)
inductive FitSt (nk : NK) (ws : List Str) : Str × Key → Prop where
  | run {n : Int} (h1 : 1 ≤ n) (h2 : n ≤ 99) : FitSt nk ws ("run", .inl n)
  | bar {n : Int} (h1 : 0 ≤ n) (h2 : n ≤ 9) : FitSt nk ws ("bar", .inl n)
  | flag {w : Str} {n : Int} (hw : w ∈ (["set", "clear", "await"] : List Str)) (h1 : 0 ≤ n) (h2 : n ≤ 7) : FitSt nk ws (w, .inl n)
  | line {w : Str} {z : Str} (hw : w ∈ (["ring", "mask", "unmask"] : List Str)) (hz : z ∈ nk.map (·.1)) : FitSt nk ws (w, .inr z)
  | quiet {z : Str} (hz : (z, ("level" : Str)) ∈ nk) : FitSt nk ws ("quiet", .inr z)
  | later {z : Str} (hz : z ∈ ws) : FitSt nk ws ("later", .inr z)
structure FitLn (nk : NK) (ws : List Str) (l : Ln) : Prop where
  nm : l.nm ∈ nmA
  kd : l.kd = "edge" ∨ l.kd = "level"
  r1 : 1 ≤ l.rk
  r9 : l.rk ≤ 9
  ne : l.st ≠ []
  s8 : l.st.length ≤ 8
  st : ∀ s ∈ l.st, FitSt nk ws s
structure FitWk (w : Wk) : Prop where
  nm : w.nm ∈ nmA
  r1 : 1 ≤ w.rk
  r9 : w.rk ≤ 9
  t1 : 1 ≤ w.tk
  t9 : w.tk ≤ 99
def nkOf (ls : List Ln) : NK := ls.map fun l => (l.nm, l.kd)
theorem nk_names (ls : List Ln) : (nkOf ls).map (·.1) = ls.map (·.nm) := by
  unfold nkOf
  rw [List.map_map]
  rfl
theorem kinds_mem : ∀ {ls : List Ln}, (ls.map (·.nm)).Nodup → ∀ {z k : Str}, (z, k) ∈ nkOf ls → valV (ls.map fun l => ((.inr l.nm : Key), V.str l.kd)) (.inr z) = some (.str k)
  | [], _, _, _, h => by cases h
  | l :: ls, hn, z, k, h => by
    rw [List.map_cons, List.nodup_cons] at hn
    rcases List.mem_cons.mp h with e | h
    · cases e
      exact valV_pos rfl
    · have hne : ¬ l.nm = z := fun e => hn.1 (by
        rw [e]
        obtain ⟨y, hy, e2⟩ := List.mem_map.mp h
        cases e2
        exact List.mem_map_of_mem hy)
      rw [List.map_cons, valV_neg (fun q => hne (Sum.inr.inj q))]
      exact kinds_mem hn.2 h
theorem flatw {l : List Str} {z : Str} (h : z ∈ l) : inV (.str z) (l.map V.str) = true := by
  rw [inV_strs]
  exact decide_eq_true h
theorem stepX_fit {ls : List Ln} (hn : (ls.map (·.nm)).Nodup) {ws : List Str} {s : Str × Key} (h : FitSt (nkOf ls) ws s) : isStepX (ls.map fun l => ((.inr l.nm : Key), V.str l.kd)) (ws.map V.str) s.1 (kD s.2) = true := by
  have hmem : ∀ {z : Str}, z ∈ (nkOf ls).map (·.1) → (valV (ls.map fun l => ((.inr l.nm : Key), V.str l.kd)) (.inr z)).isSome = true := fun {z} hz => by
    obtain ⟨y, hy, rfl⟩ := List.mem_map.mp hz
    rw [kinds_mem hn (z := y.1) (k := y.2) hy]
    rfl
  cases h with
  | run h1 h2 => exact stepX_run h1 h2
  | bar h1 h2 =>
    rename_i n
    show isStepX _ _ "bar" (.int n) = true
    unfold isStepX
    rw [if_neg (by decide), if_neg (by decide), if_neg (by decide)]
    have : isIntD 0 9 (.int n) = true := decide_eq_true ⟨h1, h2⟩
    rw [this, decide_eq_true (show V.str "bar" = V.str "bar" from rfl), Bool.true_and, Bool.or_true]
  | flag hw h1 h2 =>
    rename_i w n
    have : isIntD 0 7 (.int n) = true := decide_eq_true ⟨h1, h2⟩
    simp only [List.mem_cons, List.not_mem_nil, or_false] at hw
    show isStepX _ _ w (.int n) = true
    rcases hw with rfl | rfl | rfl
    all_goals
      unfold isStepX
      rw [if_neg (by decide), if_neg (by decide), if_pos (by decide)]
      exact this
  | line hw hz =>
    rename_i w z
    have hz := hmem hz
    simp only [List.mem_cons, List.not_mem_nil, or_false] at hw
    show isStepX _ _ w (.str z) = true
    rcases hw with rfl | rfl | rfl
    all_goals
      unfold isStepX
      rw [if_pos (by decide)]
      dsimp only
      rw [hz, decide_eq_false (show ¬ V.str _ = V.str "quiet" by decide)]
      rfl
  | quiet hz =>
    rename_i z
    have e := kinds_mem hn hz
    show isStepX _ _ "quiet" (.str z) = true
    unfold isStepX
    rw [if_pos (by decide)]
    dsimp only
    rw [e]
    simp
  | later hz => exact stepX_later (flatw hz)
theorem short_key {nk : NK} {ws : List Str} {s : Str × Key} (h : FitSt nk ws s) (hk : ∀ z ∈ nk.map (·.1), z ∈ nmA) (hw : ∀ z ∈ ws, z ∈ nmA) : short (dSt s) = true := by
  have st : ∀ {w : Str} {z : Str}, short (.str w) = true → z ∈ nmA → short (dSt (w, (.inr z : Key))) = true := fun {w z} h1 hz => by
    show (short (.str w) && (short (.str z) && true)) = true
    rw [h1, (nmA_name z hz).2.1]
    rfl
  cases h with
  | run _ _ => exact (show (short (.str "run") && (true && true)) = true by decide +kernel)
  | bar _ _ => exact (show (short (.str "bar") && (true && true)) = true by decide +kernel)
  | flag hw _ _ =>
    simp only [List.mem_cons, List.not_mem_nil, or_false] at hw
    rcases hw with rfl | rfl | rfl
    · exact (show (short (.str "set") && (true && true)) = true by decide +kernel)
    · exact (show (short (.str "clear") && (true && true)) = true by decide +kernel)
    · exact (show (short (.str "await") && (true && true)) = true by decide +kernel)
  | line hw hz =>
    have hz := hk _ hz
    simp only [List.mem_cons, List.not_mem_nil, or_false] at hw
    rcases hw with rfl | rfl | rfl
    · exact st (by decide +kernel) hz
    · exact st (by decide +kernel) hz
    · exact st (by decide +kernel) hz
  | quiet hz => exact st (by decide +kernel) (hk _ (List.mem_map.mpr ⟨_, hz, rfl⟩))
  | later hz => exact st (by decide +kernel) (hw _ hz)
theorem plan_fit {ls : List Ln} {ws : List Wk} (hl : ∀ l ∈ ls, FitLn (nkOf ls) (ws.map (·.nm)) l) (hn : (ls.map (·.nm)).Nodup) (hne : ls ≠ []) (h12 : ls.length ≤ 12) (hwn : (ws.map (·.nm)).Nodup) (hw8 : ws.length ≤ 8) (hwk : ∀ w ∈ ws, FitWk w) : Pl.Ok ⟨ls, ws⟩ := by
  have hk : ∀ z ∈ (nkOf ls).map (·.1), z ∈ nmA := fun z hz => by
    rw [nk_names] at hz
    obtain ⟨l, h, rfl⟩ := List.mem_map.mp hz
    exact (hl l h).nm
  have hw : ∀ z ∈ ws.map (·.nm), z ∈ nmA := fun z hz => by
    obtain ⟨l, h, rfl⟩ := List.mem_map.mp hz
    exact (hwk l h).nm
  refine ⟨hne, h12, hw8, fun l h => ?_, fun w h => ?_, hn, hwn, fun l h s hs => ?_, fun l h => ?_, fun w h => ?_⟩
  · have g := hl l h
    have h1 := (nmA_name _ g.nm).1
    show (isName (.str l.nm) && (isKind (.str l.kd) && (isIntD 1 9 (.int l.rk) && isSteps 8 (.tuple (l.st.map dSt))))) = true
    have h2 : isKind (.str l.kd) = true := by rcases g.kd with e | e <;> (rw [e]; decide)
    have h3 : isIntD 1 9 (.int l.rk) = true := decide_eq_true ⟨g.r1, g.r9⟩
    have h4 : isSteps 8 (.tuple (l.st.map dSt)) = true := by
      have p1 : 0 < l.st.length := List.length_pos_iff.mpr g.ne
      have p2 := g.s8
      simp only [isSteps, List.length_map, Bool.and_eq_true, decide_eq_true_eq]
      omega
    rw [h1, h2, h3, h4]
    rfl
  · have g := hwk w h
    have h1 := (nmA_name _ g.nm).1
    show (isName (.str w.nm) && (isIntD 1 9 (.int w.rk) && isIntD 1 99 (.int w.tk))) = true
    have h2 : isIntD 1 9 (.int w.rk) = true := decide_eq_true ⟨g.r1, g.r9⟩
    have h3 : isIntD 1 99 (.int w.tk) = true := decide_eq_true ⟨g.t1, g.t9⟩
    rw [h1, h2, h3]
    rfl
  · exact stepX_fit hn ((hl l h).st s hs)
  · have g := hl l h
    show (short (.str l.nm) && (short (.str l.kd) && (true && (shorts (l.st.map dSt) && true)))) = true
    have h1 := (nmA_name _ g.nm).2.1
    have h2 : short (.str l.kd) = true := by rcases g.kd with e | e <;> (rw [e]; decide +kernel)
    have h3 : shorts (l.st.map dSt) = true := shorts_map fun s hs => short_key (g.st s hs) hk hw
    rw [h1, h2, h3]
    rfl
  · have g := hwk w h
    obtain ⟨_, h1, h2⟩ := nmA_name _ g.nm
    refine ⟨?_, h2⟩
    show (short (.str w.nm) && (true && (true && true))) = true
    rw [h1]
    rfl
end Z
set_option maxHeartbeats 1000000
namespace Z
open PySem PySem.Spec PyProof.Rows L2
def nm6 : List Str := ["net", "disk", "heat", "fan", "a", "ab"]
structure Drawn (P : Pl) : Prop where
  fit : ∀ l ∈ P.ls, FitLn (nkOf P.ls) P.wnames l
  nd : P.names.Nodup
  ne : P.ls ≠ []
  six : ∀ z ∈ P.names, z ∈ nm6
  wf : ∀ w ∈ P.ws, FitWk w
  wn : ∃ k, P.wnames = nmW.take k
theorem Drawn.l6 {P : Pl} (d : Drawn P) : P.ls.length ≤ 6 := by
  have h : Sub P.names nm6 := ⟨d.nd, d.six⟩
  have := h.len
  unfold Pl.names at this
  rw [List.length_map] at this
  exact this
theorem Drawn.w2 {P : Pl} (d : Drawn P) : P.ws.length ≤ 2 := by
  obtain ⟨k, e⟩ := d.wn
  have h := congrArg List.length e
  unfold Pl.wnames at h
  rw [List.length_map, List.length_take] at h
  have : nmW.length = 2 := rfl
  omega
theorem Drawn.ok {P : Pl} (d : Drawn P) : P.Ok := by
  have h6 := d.l6
  have h2 := d.w2
  refine plan_fit (ls := P.ls) (ws := P.ws) d.fit d.nd d.ne (by omega) ?_ (by omega) d.wf
  obtain ⟨k, e⟩ := d.wn
  show P.wnames.Nodup
  rw [e]
  exact List.Nodup.sublist (List.take_sublist _ _) (by decide)
theorem nm6_A : ∀ z ∈ nm6, z ∈ nmA := by decide
theorem perm_strs {ys : List V} {l : List Str} (h : ys.Perm (l.map V.str)) : ∃ m : List Str, ys = m.map V.str ∧ m.Perm l := by
  have h1 : ∀ y ∈ ys, ∃ z, y = V.str z := fun y hy => by
    obtain ⟨z, _, e⟩ := List.mem_map.mp (h.mem_iff.mp hy)
    exact ⟨z, e.symm⟩
  obtain ⟨m, rfl⟩ : ∃ m : List Str, ys = m.map V.str := by
    clear h
    induction ys with
    | nil => exact ⟨[], rfl⟩
    | cons y ys ih =>
      obtain ⟨z, rfl⟩ := h1 y (by simp)
      obtain ⟨m, rfl⟩ := ih fun y hy => h1 y (by simp [hy])
      exact ⟨z :: m, rfl⟩
  refine ⟨m, rfl, ?_⟩
  have h2 := h.map (fun v : V => match v with | .str z => z | _ => "")
  rw [List.map_map, List.map_map] at h2
  have e : ∀ l : List Str, l.map ((fun v : V => match v with | .str z => z | _ => "") ∘ V.str) = l := fun l => by
    rw [show ((fun v : V => match v with | .str z => z | _ => "") ∘ V.str) = (id : Str → Str) from rfl, List.map_id]
  rw [e, e] at h2
  exact h2
theorem perm_ints {ys : List V} {l : List Int} (h : ys.Perm (l.map V.int)) : ∃ m : List Int, ys = m.map V.int ∧ m.Perm l := by
  have h1 : ∀ y ∈ ys, ∃ z, y = V.int z := fun y hy => by
    obtain ⟨z, _, e⟩ := List.mem_map.mp (h.mem_iff.mp hy)
    exact ⟨z, e.symm⟩
  obtain ⟨m, rfl⟩ : ∃ m : List Int, ys = m.map V.int := by
    clear h
    induction ys with
    | nil => exact ⟨[], rfl⟩
    | cons y ys ih =>
      obtain ⟨z, rfl⟩ := h1 y (by simp)
      obtain ⟨m, rfl⟩ := ih fun y hy => h1 y (by simp [hy])
      exact ⟨z :: m, rfl⟩
  refine ⟨m, rfl, ?_⟩
  have h2 := h.map (fun v : V => match v with | .int z => z | _ => 0)
  rw [List.map_map, List.map_map] at h2
  have e : ∀ l : List Int, l.map ((fun v : V => match v with | .int z => z | _ => 0) ∘ V.int) = l := fun l => by
    rw [show ((fun v : V => match v with | .int z => z | _ => 0) ∘ V.int) = (id : Int → Int) from rfl, List.map_id]
  rw [e, e] at h2
  exact h2
end Z
set_option maxHeartbeats 1000000
namespace Z
open PySem PySem.Spec PyProof.Rows L2
theorem strOk_name {z : Str} (h : isName (.str z) = true) : (PyData.str z).canLay0 = true := by
  unfold isName at h
  have h1 := (Bool.and_eq_true_iff.mp h).1
  unfold isWord at h1
  have h2 := List.all_eq_true.mp (Bool.and_eq_true_iff.mp h1).2
  have h3 : ∀ x ∈ letters, decide (x < 1114112) = true := by decide +kernel
  show (z.cps.all fun x => decide (x < 1114112)) = true
  rw [← Array.all_toList]
  exact List.all_eq_true.mpr fun x hx => h3 x (of_decide_eq_true (h2 x hx))
theorem Pl.Ok.lay {P : Pl} (ok : P.Ok) {z : Str} (h : z ∈ P.names ∨ z ∈ P.wnames) : (PyData.str z).canLay0 = true := by
  rcases h with h | h
  · have h2 := ok.lok _ (ok.ln_mem h).1
    rw [← (ok.ln_mem h).2]
    exact strOk_name (Bool.and_eq_true_iff.mp (show (isName (.str (P.ln z).nm) && _) = true from h2)).1
  · have h2 := (ok.shw _ (ok.wk_mem h).1).2
    rw [(ok.wk_mem h).2] at h2
    exact h2
theorem RowAt.kept {K : Fg} {H H1 H2 : Hp} {r sc : Addr} {ns : List Int} {N : List Addr} (h0 : RowAt K H r sc ns) (h : RowAt K H1 r sc ns) (f : Fr N H1 H2) (hN : ∀ a ∈ N, H a = none) : RowAt K H2 r sc ns := by
  refine h.keep f (fun z => h0.ex (hN _ z)) ?_
  rcases h0.scr with (k | ⟨o, k⟩) | k
  · exact .inl fun z => by rw [hN _ z] at k; cases k
  · exact .inl fun z => by rw [hN _ z] at k; cases k
  · exact .inr fun _ => .inr k
theorem perm_erase {α : Type} : ∀ {l : List α} {j : Nat} {y : α}, l[j]? = some y → (y :: l.eraseIdx j).Perm l
  | [], _, _, h => by simp at h
  | x :: l, 0, y, h => by
    simp only [List.getElem?_cons_zero, Option.some.injEq] at h
    subst h
    exact .refl _
  | x :: l, j + 1, y, h => by
    rw [List.getElem?_cons_succ] at h
    rw [List.eraseIdx_cons_succ]
    exact (List.Perm.swap x y _).trans ((perm_erase h).cons x)
def evW : List Str := ["begin", "end", "done"]
def EvW (P : Pl) (es : List Ev) : Prop := ∀ e ∈ es, e.1 ∈ evW ∧ (e.2 ∈ P.names ∨ e.2 ∈ P.wnames)
theorem EvW.nil {P : Pl} : EvW P [] := by intro e h; simp at h
theorem EvW.app {P : Pl} {a b : List Ev} (h : EvW P a) (k : EvW P b) : EvW P (a ++ b) := fun e he => by
  rcases List.mem_append.mp he with he | he
  · exact h e he
  · exact k e he
end Z
set_option maxHeartbeats 1000000
namespace Z
open PySem PySem.Spec PyProof.Rows L2
section
variable {K : Fg} {σ : L2.St} {H1 : Hp} {Q : VK} {g : TG} {tt : TT} {te : TE} {vs : List Nat} {a r sc : Addr} {ns : List Int} {zs : List V} {α : Type}
theorem lcL_row (e : H1 a = some (.lst zs)) (ar : a ≠ r) (row1 : RowAt K H1 r sc ns) (hl : zs.length ≤ 40000) (R : Nat → α → Prop) (f : α → PyData) (hf : ∀ x, tupd (f x) = true)
    (hs : ∀ (i : Nat) (x : V) (Ha : Hp) (Yes : VK) (No : Hp → Prop), zs[i]? = some x → Fr [r] H1 Ha → RowAt K Ha r sc ns → (∀ y H4 b, Fr [r] Ha H4 → RowAt K H4 r sc ns → R i b → Dp K H4 y (f b) → Yes y H4) →
      g x (wipe σ vs) Ha fun σ2 H2 => wipe σ2 vs = wipe σ vs ∧ tt σ2 H2 fun b H3 => if b = true then te σ2 H3 Yes else No H3)
    (hd : ∀ D H' ys (l : List α), H1 D = none → Fr [r] H1 H' → RowAt K H' r sc ns → H' D = some (.lst ys) → l.length = zs.length → (∀ k x, l[k]? = some x → R k x) → DpAll K H' ys (l.map f) → Q (.ref D) H') : LcL K g tt te vs σ Q (.ref a) H1 := by
  refine ⟨a, rfl, ⟨_, SqL.of e⟩, fun D hD => lc_rel (K := K) (walk_list (xs := zs)) R f [r] (fun Ha => RowAt K Ha r sc ns) hD hl hf (fun b hb => by rw [List.mem_singleton.mp hb]; exact row1.ex) row1 (fun Ha Hb fr h => row1.kept h fr (by simpa using hD)) (fun Ha Hb s h => h.same s) (fun Ha fr h => fr.sqL (SqL.of e) (by simp [ar])) (fun i Ha x Hb y => by rw [y.1]; exact Same.refl _) (fun i x Ha Hb Yes No hi fa rowa y yes => ?_) (fun H4 ys l f4 row4 e4 hl4 hr4 a4 => hd D H4 ys l hD f4 row4 e4 hl4 hr4 a4)⟩
  obtain ⟨rfl, hx⟩ := y
  exact hs i x Hb Yes No hx fa rowa yes
theorem lcR_row {n : Nat} (row1 : RowAt K H1 r sc ns) (hl : n ≤ 40000) (R : Nat → α → Prop) (f : α → PyData) (hf : ∀ x, tupd (f x) = true)
    (hs : ∀ (i : Nat) (Ha : Hp) (Yes : VK) (No : Hp → Prop), i < n → Fr [r] H1 Ha → RowAt K Ha r sc ns → (∀ y H4 b, Fr [r] Ha H4 → RowAt K H4 r sc ns → R i b → Dp K H4 y (f b) → Yes y H4) →
      g (.int i) (wipe σ vs) Ha fun σ2 H2 => wipe σ2 vs = wipe σ vs ∧ tt σ2 H2 fun b H3 => if b = true then te σ2 H3 Yes else No H3)
    (hd : ∀ D H' ys (l : List α), H1 D = none → Fr [r] H1 H' → RowAt K H' r sc ns → H' D = some (.lst ys) → l.length = n → (∀ k x, l[k]? = some x → R k x) → DpAll K H' ys (l.map f) → Q (.ref D) H') : LcQ (Itr 0 n) g tt te vs σ Q H1 := by
  refine fun D hD => lc_rel (K := K) (walk_range (lo := 0) (n := n)) R f [r] (fun Ha => RowAt K Ha r sc ns) hD hl hf (fun b hb => by rw [List.mem_singleton.mp hb]; exact row1.ex) row1 (fun Ha Hb fr h => row1.kept h fr (by simpa using hD)) (fun Ha Hb s h => h.same s) (fun _ _ _ => True.intro) (fun i Ha x Hb y => by rw [y.1]; exact Same.refl _) (fun i x Ha Hb Yes No hi fa rowa y yes => ?_) (fun H4 ys l f4 row4 e4 hl4 hr4 a4 => hd D H4 ys l hD f4 row4 e4 hl4 hr4 a4)
  obtain ⟨rfl, rfl⟩ := y
  have := hs i Hb Yes No hi fa rowa yes
  dsimp only
  rw [Int.zero_add]
  exact this
end
def gS (l : List Str) (k : Nat) : Str := (l[k]?).getD ""
theorem gS_eq {l : List Str} {k : Nat} (h : k < l.length) : l[k]? = some (gS l k) := by
  unfold gS
  rw [List.getElem?_eq_getElem h]
  rfl
theorem gS_map {l : List Str} {k : Nat} (h : k < l.length) : (l.map V.str)[k]? = some (V.str (gS l k)) := by
  rw [List.getElem?_map, gS_eq h]
  rfl
theorem rel_all {α : Type} {R : Nat → α → Prop} {l : List α} (h : ∀ k x, l[k]? = some x → R k x) : ∀ x ∈ l, ∃ k, R k x := fun x hx => by
  obtain ⟨i, hi⟩ := List.mem_iff_getElem?.mp hx
  exact ⟨i, h i x hi⟩
end Z
set_option maxHeartbeats 1000000
namespace Z
open PySem PySem.Spec PyProof.Rows L2
structure PlainP (P : Pl) : Prop where
  ws : P.ws = []
  fit : ∀ l ∈ P.ls, FitLn (nkOf P.ls) [] l
  nd : P.names.Nodup
  ne : P.ls ≠ []
  six : ∀ z ∈ P.names, z ∈ nm6
  rks : (P.ls.map (·.rk)).Nodup
  edge : ∀ l ∈ P.ls, l.kd = "edge"
  run : ∀ l ∈ P.ls, ∀ s ∈ l.st, s.1 = "run"
theorem PlainP.l6 {P : Pl} (d : PlainP P) : P.ls.length ≤ 6 := by
  have h : Sub P.names nm6 := ⟨d.nd, d.six⟩
  have := h.len
  unfold Pl.names at this
  rw [List.length_map] at this
  exact this
theorem PlainP.ok {P : Pl} (d : PlainP P) : P.Ok := by
  have h6 := d.l6
  have e := d.ws
  refine plan_fit (ls := P.ls) (ws := P.ws) (fun l hl => ?_) d.nd d.ne (by omega) (by rw [e]; exact .nil) (by rw [e]; decide) (fun w hw => by rw [e] at hw; cases hw)
  rw [e]
  exact d.fit l hl
def gI (l : List Int) (k : Nat) : Int := (l[k]?).getD 0
theorem gI_eq {l : List Int} {k : Nat} (h : k < l.length) : l[k]? = some (gI l k) := by
  unfold gI
  rw [List.getElem?_eq_getElem h]
  rfl
theorem gI_map {l : List Int} {k : Nat} (h : k < l.length) : (l.map V.int)[k]? = some (V.int (gI l k)) := by
  rw [List.getElem?_map, gI_eq h]
  rfl
def oneTo9 : List Int := [1, 2, 3, 4, 5, 6, 7, 8, 9]
theorem rgV_19 : rgV 1 10 = oneTo9.map V.int := by kernel_rfl
theorem s_rg12 {a b : Int} {σ : L2.St} {H : Hp} {Q : VK} (ok : RgOk a b) (q : ∀ p, H p = none → Q (.ref p) (upd H p (.lst (rgV a b)))) : tLstRg (tRg2 (tC (.int a)) (tC (.int b))) σ H Q := ⟨a, b, rfl, rfl, ok, q⟩
end Z
set_option maxHeartbeats 1000000
namespace Z
open PySem PySem.Spec PyProof.Rows L2
theorem row_new {K : Fg} {H H1 : Hp} {r sc : Addr} {ns : List Int} (hsc : SqL K H sc (ns.map V.int)) (hr : H r = none) (s1 : Same H H1) (e1 : H1 r = some (.lst [.ref sc, .int 0, .int 0, .int 0])) : RowAt K H1 r sc ns := by
  have hS0 : H sc ≠ none ∨ ∀ H, SqL K H sc (ns.map V.int) := by
    rcases hsc with (h | ⟨o, h⟩) | h
    · exact .inl (by rw [h]; simp)
    · exact .inl (by rw [h]; simp)
    · exact .inr fun H => .inr h
  exact ⟨⟨0, 0, 0, e1, by omega, by omega, by omega⟩, s1.seq hsc, hS0.imp (fun h e => h (by rw [e]; exact hr)) id⟩
end Z
set_option maxHeartbeats 1000000
namespace Z
open PySem PySem.Spec PyProof.Rows L2
end Z
set_option maxHeartbeats 1000000
namespace Z
open PySem PySem.Spec PyProof.Rows L2
structure Pln (P : Pl) : Prop where
  ok : P.Ok
  edge : ∀ l ∈ P.ls, l.kd = "edge"
  run : ∀ l ∈ P.ls, ∀ s ∈ l.st, s.1 = "run"
  jobs : P.ws = []
section
variable {P : Pl}
theorem Pln.st (pn : Pln P) {z : Str} (hz : z ∈ P.names) {i : Nat} {s : Str × Key} (h : (P.ln z).st[i]? = some s) : s.1 = "run" := pn.run _ (pn.ok.ln_mem hz).1 s (List.mem_of_getElem? h)
structure PIn (P : Pl) (G : Sg) : Prop where
  lim : G.C.limit = 0
  kp : ∀ f ∈ G.C.frames, f.kp = 0
  jobs : G.C.jobs = []
  shut : G.B.shut = []
  high : G.B.high = []
  mod : ∃ M, Both P M G
theorem PIn.start (pn : Pln P) : PIn P (Sg.start P) := ⟨rfl, by simp [Sg.start], rfl, rfl, rfl, _, Both.start P⟩
theorem PIn.ring (pn : Pln P) {G : Sg} (h : PIn P G) {z : Str} (hz : z ∈ P.names) : PIn P (G.ring P z) ∧ (G.ring P z).C = G.C ∧ (G.ring P z).sums = G.sums ∧ (G.ring P z).time = G.time ∧ ((G.B.ring P z).2 = !decide (z ∈ G.B.wanted)) ∧ ∀ y, y ∈ (G.ring P z).B.wanted ↔ y ∈ G.B.wanted ∨ y = z := by
  obtain ⟨M, b⟩ := h.mod
  have ke : (P.ln z).kd = "edge" := pn.edge _ (pn.ok.ln_mem hz).1
  have bd := (b.deed pn.ok (s := ("ring", .inr z)) (.inl ⟨by simp, z, rfl, hz⟩)).1
  have eb : (G.B.carry P (("ring" : Str), (Sum.inr z : Key))).1 = (G.B.ring P z).1 := by
    unfold Bd.carry
    rw [if_pos rfl]
    rfl
  rw [eb] at bd
  have er : G.B.ring P z = if z ∈ G.B.wanted then ({ G.B with joined := bump G.B.joined z }, false) else ({ G.B with wanted := G.B.wanted ++ [z] }, true) := by
    unfold Bd.ring
    rw [if_pos ke]
  by_cases hw : z ∈ G.B.wanted
  · rw [if_pos hw] at er
    refine ⟨⟨h.lim, h.kp, h.jobs, ?_, ?_, _, bd⟩, rfl, rfl, rfl, ?_, fun y => ?_⟩
    · show (G.B.ring P z).1.shut = []
      rw [er]; exact h.shut
    · show (G.B.ring P z).1.high = []
      rw [er]; exact h.high
    · rw [er, decide_eq_true hw]; rfl
    · show y ∈ (G.B.ring P z).1.wanted ↔ _
      rw [er]
      constructor
      · exact .inl
      · rintro (h | rfl)
        · exact h
        · exact hw
  · rw [if_neg hw] at er
    refine ⟨⟨h.lim, h.kp, h.jobs, ?_, ?_, _, bd⟩, rfl, rfl, rfl, ?_, fun y => ?_⟩
    · show (G.B.ring P z).1.shut = []
      rw [er]; exact h.shut
    · show (G.B.ring P z).1.high = []
      rw [er]; exact h.high
    · rw [er, decide_eq_false hw]; rfl
    · show y ∈ (G.B.ring P z).1.wanted ↔ _
      rw [er]
      show y ∈ G.B.wanted ++ [z] ↔ _
      rw [List.mem_append, List.mem_singleton]
end
end Z
set_option maxHeartbeats 1000000
namespace Z
open PySem PySem.Spec PyProof.Rows L2
section
variable {P : Pl} {least : Int}
structure RelU (P U : Pl) (G G' : Sg) : Prop where
  fr : G'.C.frames = G.C.frames.filter fun f => decide (f.ln ∈ U.names)
  wa : ∀ z, z ∈ G'.B.wanted ↔ z ∈ G.B.wanted ∧ z ∈ U.names
theorem RelU.start {P U : Pl} : RelU P U (Sg.start P) (Sg.start U) := ⟨rfl, by simp [Sg.start]⟩
end
end Z
set_option maxHeartbeats 1000000
namespace Z
open PySem PySem.Spec PyProof.Rows L2
structure TwoS (K : Fg) (H0 H : Hp) (A A' : SA) (P P' : Pl) (G G' : Sg) : Prop where
  s1 : SgAt K H A P G
  s2 : SgAt K H A' P' G'
  d : ∀ a ∈ A.own, a ∉ A'.own
  e1 : ∀ a ∈ A.PD.own, a ∉ A'.own
  e2 : ∀ a ∈ A'.PD.own, a ∉ A.own
  n1 : ∀ a ∈ A.own, H0 a = none
  n2 : ∀ a ∈ A'.own, H0 a = none
  p1 : ∀ a ∈ A.PD.own, H0 a = none
  p2 : ∀ a ∈ A'.PD.own, H0 a = none
section
variable {K : Fg} {H0 H H' : Hp} {A A' B : SA} {P P' : Pl} {G G' G2 : Sg}
theorem TwoS.keep (t : TwoS K H0 H A A' P P' G G') {N : List Addr} (f : Fr N H H') (n : ∀ a ∈ N, H0 a ≠ none) : TwoS K H0 H' A A' P P' G G' := by
  have z : ∀ {a}, H0 a = none → a ∉ N := fun h q => n _ q h
  exact ⟨t.s1.keep f (fun a ha => z (t.n1 a ha)) (fun a ha => z (t.p1 a ha)), t.s2.keep f (fun a ha => z (t.n2 a ha)) (fun a ha => z (t.p2 a ha)), t.d, t.e1, t.e2, t.n1, t.n2, t.p1, t.p2⟩
theorem TwoS.same (t : TwoS K H0 H A A' P P' G G') (s : Same H H') : TwoS K H0 H' A A' P P' G G' := t.keep (N := []) s.fr (by simp)
theorem TwoS.row (t : TwoS K H0 H A A' P P' G G') {r : Addr} (f : Fr [r] H H') (n : H0 r ≠ none) : TwoS K H0 H' A A' P P' G G' := t.keep f (by simpa using n)
theorem TwoS.swap (t : TwoS K H0 H A A' P P' G G') : TwoS K H0 H A' A P' P G' G := ⟨t.s2, t.s1, fun a ha z => t.d a z ha, t.e2, t.e1, t.n2, t.n1, t.p2, t.p1⟩
end
structure OneS (K : Fg) (H0 H : Hp) (A : SA) (P : Pl) (G : Sg) : Prop where
  s : SgAt K H A P G
  n : ∀ a ∈ A.own, H0 a = none
  p : ∀ a ∈ A.PD.own, H0 a = none
theorem made {K : Fg} {H1 H2 H3 H4 H5 : Hp} {x rd wd : Addr} {A : SA} {P : Pl} {G : Sg} (hx : H1 x = none) (s2 : Same H1 H2) (hrd : H2 rd = none) (hwd : H2 wd = none) (f3 : Fr [x] H2 H3) (hy : H3 A.s = none) (s4 : Same H3 H4) (hAP : A.PD = ⟨x, rd, wd⟩) (hown : ∀ a ∈ A.own, a = A.s ∨ H4 a = none) (f5 : Fr [A.s] H4 H5) (sg : SgAt K H5 A P G) : OneS K H1 H5 A P G ∧ Same H1 H5 := by
  have F3 : Fr [] H1 H3 := s2.fr.seq f3 (fun a ha => .inr (by rw [List.mem_singleton.mp ha]; exact hx))
  have F4 : Fr [] H1 H4 := F3.trans s4.fr
  have hy1 : H1 A.s = none := F3.back hy
  have F5 : Fr [] H1 H5 := F4.seq f5 (fun a ha => .inr (by rw [List.mem_singleton.mp ha]; exact hy1))
  refine ⟨⟨sg, fun a ha => ?_, fun a ha => ?_⟩, F5.same⟩
  · rcases hown a ha with h | h
    · rw [h]; exact hy1
    · exact F4.back h
  · rw [hAP] at ha
    simp only [Z.PA.own, List.mem_cons, List.not_mem_nil, or_false] at ha
    rcases ha with rfl | rfl | rfl
    · exact hx
    · exact s2.fr.back (A := []) hrd
    · exact s2.fr.back (A := []) hwd
end Z
set_option maxHeartbeats 1000000
namespace Z
open PySem PySem.Spec PyProof.Rows L2
end Z
set_option maxHeartbeats 1000000
namespace Z
open PySem PySem.Spec PyProof.Rows L2
def more (P : Pl) (i : Ln) : Pl := ⟨P.ls ++ [i], P.ws⟩
def jx (B : Bd) (J : List (Str × Int)) : Bd := { B with joined := J }
section
variable {P : Pl} {i : Ln}
structure Bsd (G G' : Sg) : Prop where
  c : G'.C = G.C
  b : ∃ J, G'.B = jx G.B J
  t : G'.time = G.time
  s : G'.sums = G.sums
theorem Bsd.start : Bsd (Sg.start P) (Sg.start (more P i)) := ⟨rfl, ⟨_, rfl⟩, rfl, rfl⟩
end
end Z
set_option maxHeartbeats 1000000
namespace Z
open PySem PySem.Spec PyProof.Rows L2
def planD (P : Pl) : PyData := .tuple [.tuple (P.ls.map dLn), .tuple (P.ws.map dWk)]
theorem lay_map {α : Type} {g : α → PyData} {n : Nat} : ∀ {l : List α}, (∀ x ∈ l, (g x).canLay0 = true ∧ (g x).depth ≤ n) → PyData.canLayAll0 (l.map g) = true ∧ PyData.depthAll (l.map g) ≤ n
  | [], _ => ⟨rfl, Nat.zero_le _⟩
  | x :: l, h => by
    obtain ⟨h1, h2⟩ := h x (by simp)
    obtain ⟨h3, h4⟩ := lay_map (l := l) fun y hy => h y (by simp [hy])
    refine ⟨?_, ?_⟩
    · show ((g x).canLay0 && PyData.canLayAll0 (l.map g)) = true
      rw [h1, h3]
      rfl
    · show max (g x).depth (PyData.depthAll (l.map g)) ≤ n
      omega
theorem lay_st {P : Pl} (ok : P.Ok) {s : Str × Key} (h : StepIs P s) : (dSt s).canLay0 = true ∧ (dSt s).depth ≤ 1 := by
  have lt : ∀ w : Str, w ∈ (["run", "bar", "later", "set", "clear", "await", "ring", "mask", "unmask", "quiet"] : List Str) → (PyData.str w).canLay0 = true := by decide +kernel
  have fin : ∀ {w : Str} {k : Key}, (PyData.str w).canLay0 = true → (kD k).canLay0 = true → (dSt (w, k)).canLay0 = true ∧ (dSt (w, k)).depth ≤ 1 := fun {w k} h1 h2 => by
    refine ⟨?_, ?_⟩
    · show ((PyData.str w).canLay0 && ((kD k).canLay0 && true)) = true
      rw [h1, h2]
      rfl
    · show max 0 (max (kD k).depth 0) + 1 ≤ 1
      cases k <;> exact Nat.le_refl _
  cases h with
  | run i _ _ => exact fin (lt _ (by simp)) rfl
  | bar i _ _ => exact fin (lt _ (by simp)) rfl
  | later z hz => exact fin (lt _ (by simp)) (ok.lay (.inr hz))
  | flag w i hw _ _ =>
    refine fin (lt _ ?_) rfl
    simp only [List.mem_cons, List.not_mem_nil, or_false] at hw ⊢
    rcases hw with rfl | rfl | rfl <;> simp
  | line w z hw hz _ =>
    refine fin (lt _ ?_) (ok.lay (.inl hz))
    simp only [List.mem_cons, List.not_mem_nil, or_false] at hw ⊢
    rcases hw with rfl | rfl | rfl | rfl <;> simp
theorem lay_ln {P : Pl} (ok : P.Ok) {l : Ln} (hl : l ∈ P.ls) : (dLn l).canLay0 = true ∧ (dLn l).depth ≤ 3 := by
  obtain ⟨h1, h2⟩ := lay_map (g := dSt) (n := 1) fun s hs => lay_st ok (ok.step hl hs)
  have hn := ok.lay (.inl (List.mem_map.mpr ⟨l, hl, rfl⟩) : l.nm ∈ P.names ∨ l.nm ∈ P.wnames)
  have hk : (PyData.str l.kd).canLay0 = true := by
    have h := isEdge ok (z := l.nm) (List.mem_map.mpr ⟨l, hl, rfl⟩)
    rw [ok.ln_eq hl] at h
    rcases h with e | e <;> (rw [e]; decide +kernel)
  refine ⟨?_, ?_⟩
  · show ((PyData.str l.nm).canLay0 && ((PyData.str l.kd).canLay0 && (true && (PyData.canLayAll0 (l.st.map dSt) && true)))) = true
    rw [hn, hk, h1]
    rfl
  · show max 0 (max 0 (max 0 (max (PyData.depthAll (l.st.map dSt) + 1) 0))) + 1 ≤ 3
    omega
theorem shaped_plan {P : Pl} (ok : P.Ok) : SeqAt.shaped (planD P) = true := by
  obtain ⟨h1, h2⟩ := lay_map (l := P.ls) (g := dLn) (n := 3) fun l hl => lay_ln ok hl
  obtain ⟨h3, h4⟩ := lay_map (l := P.ws) (g := dWk) (n := 1) fun w hw => by
    have hn := ok.lay (.inr (List.mem_map.mpr ⟨w, hw, rfl⟩) : w.nm ∈ P.names ∨ w.nm ∈ P.wnames)
    refine ⟨?_, Nat.le_refl _⟩
    show ((PyData.str w.nm).canLay0 && (true && (true && true))) = true
    rw [hn]
    rfl
  have c : (planD P).canLay0 = true := by
    show (PyData.canLayAll0 (P.ls.map dLn) && (PyData.canLayAll0 (P.ws.map dWk) && true)) = true
    rw [h1, h3]
    rfl
  have d : (planD P).depth ≤ 64 := by
    show max (PyData.depthAll (P.ls.map dLn) + 1) (max (PyData.depthAll (P.ws.map dWk) + 1) 0) + 1 ≤ 64
    omega
  show ((planD P).canLay0 && decide ((planD P).depth ≤ 64)) = true
  rw [c, decide_eq_true d]
  rfl
theorem plan_refl {P : Pl} (ok : P.Ok) : PyData.eqv (planD P) (planD P) = true := SeqAt.eqv_refl _ (Bool.and_eq_true_iff.mp (shaped_plan ok)).1
end Z
set_option maxHeartbeats 1000000
namespace Z
open PySem PySem.Spec PyProof.Rows L2
def flatW (n : Nat) (d : PyData) : Prop := d.canLay0 = true ∧ d.depth ≤ n
theorem flatW.mono {n m : Nat} {d : PyData} (h : flatW n d) (hm : n ≤ m) : flatW m d := ⟨h.1, Nat.le_trans h.2 hm⟩
theorem flatWs {n : Nat} : ∀ {l : List PyData}, (∀ d ∈ l, flatW n d) → PyData.canLayAll0 l = true ∧ PyData.depthAll l ≤ n
  | [], _ => ⟨rfl, Nat.zero_le _⟩
  | x :: l, h => by
    obtain ⟨h1, h2⟩ := h x List.mem_cons_self
    obtain ⟨h3, h4⟩ := flatWs (l := l) fun d hd => h d (List.mem_cons_of_mem _ hd)
    exact ⟨by show (x.canLay0 && PyData.canLayAll0 l) = true; rw [h1, h3]; rfl, by show max x.depth (PyData.depthAll l) ≤ n; omega⟩
theorem flatW_tup {n : Nat} {l : List PyData} (h : ∀ d ∈ l, flatW n d) : flatW (n + 1) (.tuple l) := by
  obtain ⟨h1, h2⟩ := flatWs h
  exact ⟨h1, show PyData.depthAll l + 1 ≤ n + 1 by omega⟩
theorem flatW.shaped {n : Nat} {d : PyData} (h : flatW n d) (hn : n ≤ 64) : SeqAt.shaped d = true := by
  show (d.canLay0 && decide (d.depth ≤ 64)) = true
  rw [h.1, decide_eq_true (Nat.le_trans h.2 hn)]
  rfl
theorem shaped_eqvW {d : PyData} (h : SeqAt.shaped d = true) : PyData.eqv d d = true := SeqAt.eqv_refl _ (SeqAt.canLay_of_shaped h)
theorem flatW_int (i : Int) : flatW 0 (.int i) := ⟨rfl, Nat.le_refl _⟩
theorem flatW_str {z : Str} (h : (PyData.str z).canLay0 = true) : flatW 0 (.str z) := ⟨h, Nat.le_refl _⟩
end Z
set_option maxHeartbeats 1000000
namespace Z
open PySem PySem.Spec PyProof.Rows L2
def plainB (P : Pl) : Bool := decide (P.ls.map (·.rk)).Nodup && P.ls.all fun l => decide (l.kd = "edge") && l.st.all fun s => decide (s.1 = "run")
theorem PlainP.plain {P : Pl} (d : PlainP P) : plainB P = true := by
  unfold plainB
  rw [decide_eq_true d.rks, Bool.true_and]
  refine List.all_eq_true.mpr fun l hl => ?_
  rw [decide_eq_true (d.edge l hl), Bool.true_and]
  exact List.all_eq_true.mpr fun s hs => decide_eq_true (d.run l hl s hs)
theorem step_run {kvs kvs2 : List (Key × V)} {ws ws2 : List V} {s : Str × Key} (e : s.1 = "run") (h : isStep kvs ws (dSt s) = true) : isStep kvs2 ws2 (dSt s) = true := by
  obtain ⟨w, x⟩ := s
  have e : w = ("run" : Str) := e
  subst e
  have q : ∀ kvs ws, isStepX kvs ws "run" (kD x) = ((decide (V.str "run" = V.str "run") && isIntD 1 99 (kD x)) || (decide (V.str "run" = V.str "bar") && isIntD 0 9 (kD x))) := fun kvs ws => by
    unfold isStepX
    rw [if_neg (by decide), if_neg (by decide), if_neg (by decide)]
  show isStepX kvs2 ws2 "run" (kD x) = true
  rw [q, ← q kvs ws]
  exact h
end Z
set_option maxHeartbeats 1000000
namespace T
open PySem PySem.Spec PyProof.Rows L2 Z
open He (ga ma)
local macro_rules | `(tactic| walk_at "z") => `(tactic| with_reducible first | refine ⟨_, _, rfl, rfl, ?_⟩ | refine ⟨_, rfl, ?_⟩)
local macro_rules | `(tactic| walk_at "z") => `(tactic| ((with_reducible refine s_isi (d := ?d1) ?h1 ?h2 ?q1); (case h1 => first | assumption | constructor); (case h2 => decide)))
local macro_rules | `(tactic| walk_at "z") => `(tactic| with_reducible first | refine s_tup ?_ | refine s_lst ?_)
local macro_rules | `(tactic| walk_at "z") => `(tactic| ((with_reducible refine s_ne ?h1 ?q1); (case h1 => exact rfl)))
local macro_rules | `(tactic| walk_at "z") => `(tactic| ((with_reducible refine s_eq ?h1 ?q1); (case h1 => exact rfl)))
local macro_rules | `(tactic| walk_at "z") => `(tactic| with_reducible first | refine s_cvalg ?_ | refine s_fldS ?_ | refine s_I0 ?_ | refine s_U ?_)
local macro_rules | `(tactic| walk_at "z") => `(tactic| with_reducible first | refine s_fldaug ?_ | refine s_add ?_ | refine s_ipI ?_ | refine s_ixO ?_ | refine s_lcL ?_ | refine s_dcT ?_)
local macro_rules | `(tactic| walk_at "z") => `(tactic| with_reducible first | refine s_daugg ?_ | refine s_disp ?_ | refine s_pcons ?_ | refine s_pnil ?_ | refine s_gsub ?_ | refine s_augS ?_)
local macro_rules | `(tactic| walk_at "z") => `(tactic| with_reducible first | refine s_bm ?_ | refine s_bm0 ?_ | refine s_fldg ?_ | refine s_meth ?_ | refine s_prop ?_ | refine s_lcT ?_)
local macro_rules | `(tactic| walk_at "z") => `(tactic| with_reducible first | refine s_yes ?_ | refine s_gcons ?_ | refine s_gnil ?_ | refine s_din ?_ | refine s_dnin ?_ | refine s_dget ?_)
local macro_rules | `(tactic| walk_at "z") => `(tactic| with_reducible first | refine s_orV ?_ | refine s_notV ?_ | refine s_if ?_ | refine s_chain ?_ | refine s_call ?_ | refine s_bl ?_)
local macro_rules | `(tactic| walk_at "z") => `(tactic| with_reducible first | refine s_test ?_ | refine s_B ?_ | refine s_and ?_ | refine s_or ?_ | refine s_not ?_ | refine s_andV ?_)
local macro_rules | `(tactic| walk_at "z") => `(tactic| with_reducible first | refine s_op ?_ | refine s_un ?_ | refine s_cb ?_ | refine s_cons ?_ | refine s_nil ?_ | refine s_star ?_)
local macro_rules | `(tactic| walk_at "z") => `(tactic| ((with_reducible refine s_var (v := ?v1) ?h1 ?q1); (case h1 => exact rfl)))
local macro_rules | `(tactic| walk_at "z") => `(tactic| with_reducible refine s_c ?_)
local macro_rules | `(tactic| walk_at "z") => `(tactic| with_reducible first | refine s_drop ?_ | refine s_next ?_ | refine s_cont ?_ | refine s_break ?_ | refine s_par ?_ | refine s_par2 ?_)
local macro_rules | `(tactic| walk_at "z") => `(tactic| with_reducible first | refine s_seq ?_ | refine s_asg ?_ | refine s_gname ?_ | refine s_ret ?_ | refine s_retN ?_ | refine s_ifS ?_)
local macro_rules | `(tactic| walk_at "zi") => `(tactic| ((with_reducible refine ite_t ?h1 ?q1); (case h1 => rfl)))
local macro_rules | `(tactic| walk_at "zi") => `(tactic| ((with_reducible refine ite_f ?h1 ?q1); (case h1 => rfl)))
local macro_rules | `(tactic| walk_at "zi") => `(tactic| walk_at "z")
local macro_rules | `(tactic| walk_at "ori") => `(tactic| ((with_reducible apply ite_t); (· rfl)))
local macro_rules | `(tactic| walk_at "ori") => `(tactic| ((with_reducible apply ite_f); (· rfl)))
local macro_rules | `(tactic| walk_at "ori") => `(tactic| with_reducible first | refine ⟨_, _, rfl, rfl, ?_⟩ | refine ⟨_, rfl, ?_⟩)
local macro_rules | `(tactic| walk_at "ori") => `(tactic| ((with_reducible apply s_isi); (· assumption); (· decide)))
local macro_rules | `(tactic| walk_at "ori") => `(tactic| with_reducible first | refine s_tup ?_ | refine s_lst ?_)
local macro_rules | `(tactic| walk_at "ori") => `(tactic| ((with_reducible apply s_ne); (· exact rfl)))
local macro_rules | `(tactic| walk_at "ori") => `(tactic| ((with_reducible apply s_eq); (· exact rfl)))
local macro_rules | `(tactic| walk_at "ori") => `(tactic| with_reducible first | refine s_lcL ?_ | refine s_dcT ?_ | refine s_cvalg ?_ | refine s_I0 ?_ | refine s_U ?_)
local macro_rules | `(tactic| walk_at "ori") => `(tactic| with_reducible first | refine s_daugg ?_ | refine s_disp ?_ | refine s_gsub ?_ | refine s_fldaug ?_ | refine s_ipI ?_ | refine s_ixO ?_)
local macro_rules | `(tactic| walk_at "ori") => `(tactic| with_reducible first | refine s_chain ?_ | refine s_yes ?_ | refine s_din ?_ | refine s_dnin ?_ | refine s_bm0 ?_ | refine s_lcT ?_)
local macro_rules | `(tactic| walk_at "ori") => `(tactic| with_reducible first | refine s_un ?_ | refine s_star ?_ | refine s_and ?_ | refine s_or ?_ | refine s_orV ?_ | refine s_notV ?_)
local macro_rules | `(tactic| walk_at "ori") => `(tactic| with_reducible first | refine s_augS ?_ | refine s_retN ?_ | refine s_cont ?_ | refine s_break ?_ | refine s_par ?_ | refine s_par2 ?_)
local macro_rules | `(tactic| walk_at "ori") => `(tactic| with_reducible first | refine s_andV ?_ | refine s_add ?_ | refine s_prop ?_ | refine s_pnil ?_ | refine s_cb ?_ | refine s_not ?_)
local macro_rules | `(tactic| walk_at "ori") => `(tactic| with_reducible first | refine s_call ?_ | refine s_pcons ?_ | refine s_bm ?_ | refine s_if ?_ | refine s_gcons ?_ | refine s_gnil ?_)
local macro_rules | `(tactic| walk_at "ori") => `(tactic| with_reducible first | refine s_next ?_ | refine s_gname ?_ | refine s_drop ?_ | refine s_meth ?_ | refine s_fldS ?_ | refine s_asg ?_)
local macro_rules | `(tactic| walk_at "ori") => `(tactic| with_reducible first | refine s_fldg ?_ | refine s_ifS ?_ | refine s_dget ?_ | refine s_ret ?_ | refine s_B ?_ | refine s_test ?_)
local macro_rules | `(tactic| walk_at "ori") => `(tactic| with_reducible first | refine s_cons ?_ | refine s_c ?_ | refine s_nil ?_ | refine s_seq ?_ | refine s_op ?_ | refine s_bl ?_)
local macro_rules | `(tactic| walk_at "ori") => `(tactic| ((with_reducible apply s_var); (· exact rfl)))
local macro_rules | `(tactic| walk_at "ri") => `(tactic| repeat walk_at "ori")
local macro_rules | `(tactic| walk_at "zn") => `(tactic| (intro p hp; generalize eH : upd _ p _ = H2; have s2 := newS hp eH; have e2 := newE eH; clear eH))
local macro_rules | `(tactic| walk_at "zt") => `(tactic| (refine ⟨Nat.le_of_ble_eq_true rfl, ?_⟩; intro p hp; generalize eH : upd _ p _ = H2; have s2 := newS hp eH; have e2 := newE eH; clear eH))
def spIsInt (K : Fg) : Sp := fun vs H Q _ => ∃ v d lo hi, vs = [v, .int lo, .int hi] ∧ Dp K H v d ∧ Q (.bl (isIntD lo hi d)) H
section
variable {P : Program} {w : World} {K : Fg} {mg : Str → Option Value} {base : Heap}
theorem ok_is_integer (T : Txt K mg) : FnOk P w K mg base (L2.CX P w) 1 (ga K "is_integer") (fdOf K (ga K "is_integer")) ["value", "low", "high"] (spIsInt K) := by
  refine FunD.ok T.F_is_integer sc_is_integer (fun vs H Q E h => ?_) (fun cdv A outer s H vs Q E hr h => ⟨_, PSs.nox (pss_one (ps_ret (pe_and (pe_callB (call_isiDK K) (by rfl) T.u_isinstance (by decide +kernel) (pa_cons (pv 0) (pa_cons (z_ty (n := "int") T.u_int) pa_nil))) (pe_and (pe_not (pe_callB (call_isiDK K) (by rfl) T.u_isinstance (by decide +kernel) (pa_cons (pv 0) (pa_cons (z_ty (n := "bool") T.u_bool) pa_nil)))) (pe_one (pe_chain op_le op_le (pv 1) (pv 0) (pv 2))))))), ?_⟩)
  · obtain ⟨v, d, lo, hi, rfl, _⟩ := h
    rfl
  obtain ⟨v, d, lo, hi, rfl, hd, q⟩ := h
  show (_ : TS) _ [some v, some (.int lo), some (.int hi)] H
  try dsimp only [cxOf]
  have hd0 := hd
  cases hd <;> (walk_at "ri") <;> try exact q
  rename_i i
  by_cases h1 : lo ≤ i
  · refine ite_t (decide_eq_true h1) ?_
    walk_at "ri"
    have e : isIntD lo hi (.int i) = decide (i ≤ hi) := by simp [isIntD, h1]
    rw [e] at q
    exact q
  · refine ite_f (decide_eq_false h1) ?_
    have e : isIntD lo hi (.int i) = false := by simp [isIntD, h1]
    rw [e] at q
    exact q
def spIsWord (K : Fg) : Sp := fun vs H Q _ => ∃ v d, vs = [v] ∧ Dp K H v d ∧ short d = true ∧ ∀ H', Same H H' → Q (.bl (isWord d)) H'
theorem ok_is_word (T : Txt K mg) : FnOk P w K mg base (L2.CX P w) 1 (ga K "is_word") (fdOf K (ga K "is_word")) ["value"] (spIsWord K) := by
  refine FunD.ok T.F_is_word sc_is_word (fun vs H Q E h => ?_) (fun cdv A outer s H vs Q E hr h => ⟨_, PSs.nox (pss_one (ps_ret (pe_and (pe_callB (call_isiDK K) (by rfl) T.u_isinstance (by decide +kernel) (pa_cons (pv 0) (pa_cons (z_ty (n := "str") T.u_str) pa_nil))) (pe_and (pe_cmpR op_ne (pv 0) pe_str (nomark _)) (pe_one (pe_callB (cr_allK K rfl) (by rfl) T.u_all (by decide +kernel) (pa_cons (pe_lc (own := [("letter", 1)]) rfl sc_is_word.nd (pi_str (pv 0)) (blkOk_by (own := [("letter", 1)]) (N := n_is_word) (sc := defScope s_is_word) (by decide +kernel)) (fun _ _ _ _ _ => (zg 1 sc_is_word.nd)) (fun _ _ _ _ _ => pts_nil) (fun _ _ _ _ _ => (pe_cmpR op_in_sign (pv 1) (z_str T.i_LETTERS) (by rfl)))) pa_nil))))))), ?_⟩)
  · obtain ⟨v, d, rfl, _⟩ := h
    rfl
  obtain ⟨v, d, rfl, hd, hz, q⟩ := h
  show (_ : TS) _ [some v, none] H
  try dsimp only [cxOf]
  have hd0 := hd
  cases hd <;> (walk_at "ri") <;> try exact q _ (Same.refl H)
  rename_i z
  refine ite_b (fun h1 => ?_) (fun h1 => ?_)
  · walk_at "ri"
    refine ⟨_, rfl, z, rfl, fun D hD => lc_dat (K := K) walk_str (fun _ => true) (dAt z.cps.toList fun c => .bool (decide (c ∈ letters))) hD (short_str hz) (dAt_tupd fun _ _ => rfl) (fun _ _ => True.intro) (fun i H x H' y => by rw [y.1]; exact Same.refl H) (fun i x H H' Yes No hi s1 y yes no => ?_) (fun H' ys s1 e1 a1 => ?_)⟩
    · obtain ⟨rfl, c, hc, rfl⟩ := y
      refine ⟨rfl, ?_⟩
      walk_at "ri"
      refine yes rfl _ _ (Same.refl _) ?_
      rw [dAt_eq (by simpa using hc)]
      exact .bl _
    · have e := keptD_map z.cps.toList fun c => PyData.bool (decide (c ∈ letters))
      rw [Array.length_toList] at e
      rw [e, map_bool] at a1
      rw [dp_bools a1] at e1
      refine s_all (SqL.of e1) ?_
      have e2 : isWord (.str z) = ((z.cps.toList.map fun c => decide (c ∈ letters)).all id) := by
        simp only [isWord, h1, Bool.true_and, List.all_map]
        rfl
      rw [← e2]
      exact q _ s1
  · walk_at "ri"
    have e2 : isWord (.str z) = false := by simp only [isWord, h1, Bool.false_and]
    rw [e2] at q
    exact q _ (Same.refl H)
def spIsName (K : Fg) : Sp := fun vs H Q _ => ∃ v d, vs = [v] ∧ Dp K H v d ∧ short d = true ∧ ∀ H', Same H H' → Q (.bl (isName d)) H'
theorem ok_is_name (T : Txt K mg) : FnOk P w K mg base (L2.CX P w) 2 (ga K "is_name") (fdOf K (ga K "is_name")) ["value"] (spIsName K) := by
  refine FunD.ok T.F_is_name sc_is_name (fun vs H Q E h => ?_) (fun cdv A outer s H vs Q E hr h => ⟨_, PSs.nox (pss_one (ps_ret (pe_and (z_call (ok_is_word T) T.c_is_word (hr.mono (by decide)) rfl T.g_is_word passL (pa_cons (pv 0) pa_nil)) (pe_one (pe_cmpR op_le (pe_callB (call_lenK K) (by rfl) T.u_len (by decide +kernel) (pa_cons (pv 0) pa_nil)) (z_int T.i_MAX_NAME) (nomark _)))))), ?_⟩)
  · obtain ⟨v, d, rfl, _⟩ := h
    rfl
  obtain ⟨v, d, rfl, hd, hz, q⟩ := h
  show (_ : TS) _ [some v] H
  try dsimp only [cxOf]
  walk_at "ri"
  refine ⟨v, d, rfl, hd, hz, fun H' s1 => ?_⟩
  walk_at "ri"
  refine ite_b (fun h1 => ?_) (fun h1 => ?_)
  · cases hd <;> try (simp [isWord] at h1; done)
    rename_i z
    walk_at "ri"
    refine s_lenS (by have := short_str hz; show z.cps.size ≤ sizeLine; rw [sizeLine_eq]; omega) ?_
    walk_at "ri"
    have e2 : isName (.str z) = decide ((z.length : Int) ≤ 8) := by simp only [isName, h1, Bool.true_and]
    rw [e2] at q
    exact q _ s1
  · walk_at "ri"
    have e2 : isName d = false := by simp only [isName, h1, Bool.false_and]
    rw [e2] at q
    exact q _ s1
def spIsLine (K : Fg) : Sp := fun vs H Q _ => ∃ v d, vs = [v] ∧ Dp K H v d ∧ short d = true ∧ ∀ H', Same H H' → Q (.bl (isLine d)) H'
theorem ok_is_line (T : Txt K mg) : FnOk P w K mg base (L2.CX P w) 3 (ga K "is_line") (fdOf K (ga K "is_line")) ["line"] (spIsLine K) := by
  refine FunD.ok T.F_is_line sc_is_line (fun vs H Q E h => ?_) (fun cdv A outer s H vs Q E hr h => ⟨_, PSs.nox (pss_cons (ps_if (PW.pt (pw_or (pt_not (pt_val (pe_callB (call_isiDK K) (by rfl) T.u_isinstance (by decide +kernel) (pa_cons (pv 0) (pa_cons (z_ty (n := "tuple") T.u_tuple) pa_nil))))) (pw_or (pt_cmpR op_ne (pe_callB (call_lenK K) (by rfl) T.u_len (by decide +kernel) (pa_cons (pv 0) pa_nil)) pe_int (nomark _)) (pw_or1 (pt_not (pt_val (z_call (ok_is_name T) T.c_is_name (hr.mono (by decide)) rfl T.g_is_name passL (pa_cons (pe_ix (ix_tupK K) (pv 0) pe_int (fun _ _ => rfl)) pa_nil)))))))) (pss_one (ps_ret pe_bl)) pss_nil)
      (pss_cons (ps_if (PW.pt (pw_or (pt_not (pt_val (pe_callB (call_isiDK K) (by rfl) T.u_isinstance (by decide +kernel) (pa_cons (pe_ix (ix_tupK K) (pv 0) pe_int (fun _ _ => rfl)) (pa_cons (z_ty (n := "str") T.u_str) pa_nil))))) (pw_or (pt_cmpR (op_notIn_seqK K) (pe_ix (ix_tupK K) (pv 0) pe_int (fun _ _ => rfl)) (pe_tup (pa_cons (z_str T.i_EDGE) (pa_cons (z_str T.i_LEVEL) pa_nil))) (by rfl)) (pw_or1 (pt_not (pt_val (z_call (ok_is_integer T) T.c_is_integer (hr.mono (by decide)) rfl T.g_is_integer passL (pa_cons (pe_ix (ix_tupK K) (pv 0) pe_int (fun _ _ => rfl)) (pa_cons pe_int (pa_cons (z_int T.i_MAX_RANK) pa_nil)))))))))) (pss_one (ps_ret pe_bl)) pss_nil)
      (pss_one (ps_ret (pe_and (pe_callB (call_isiDK K) (by rfl) T.u_isinstance (by decide +kernel) (pa_cons (pe_ix (ix_tupK K) (pv 0) pe_int (fun _ _ => rfl)) (pa_cons (z_ty (n := "tuple") T.u_tuple) pa_nil))) (pe_one (pe_chain op_le op_le pe_int (pe_callB (call_lenK K) (by rfl) T.u_len (by decide +kernel) (pa_cons (pe_ix (ix_tupK K) (pv 0) pe_int (fun _ _ => rfl)) pa_nil)) (z_int T.i_MAX_STEPS)))))))), ?_⟩)
  · obtain ⟨v, d, rfl, _⟩ := h
    rfl
  obtain ⟨v, d, rfl, hd, hz, q⟩ := h
  show (_ : TS) _ [some v] H
  try dsimp only [cxOf]
  have hd0 := hd
  cases hd <;> (walk_at "ri") <;> try exact q _ (Same.refl H)
  rename_i a xs ds hT hA
  refine s_lenT hT ?_
  walk_at "ri"
  by_cases h4 : ds.length = 4
  · have hl : xs.length = 4 := hA.len.trans h4
    refine ite_f (by rw [hl]; rfl) ?_
    obtain ⟨da, db, dc, de, rfl⟩ : ∃ da db dc de, ds = [da, db, dc, de] := by
      match ds, h4 with
      | [a, b, c, e], _ => exact ⟨a, b, c, e, rfl⟩
    cases hA with | cons h1 hA => ?_
    cases hA with | cons h2 hA => ?_
    cases hA with | cons h3 hA => ?_
    cases hA with | cons h5 hA => ?_
    cases hA
    walk_at "ri"
    refine s_ixT hT rfl ?_
    walk_at "ri"
    have sz := short_tup hz
    refine ⟨_, _, rfl, h1, shorts_at sz (by simp), fun H1 s1 => ?_⟩
    walk_at "ri"
    refine ite_b (fun n1 => ?_) (fun n1 => ?_)
    · walk_at "ri"
      have e : isLine (.tuple [da, db, dc, de]) = false := by simp [isLine, bnt n1]
      rw [e] at q
      exact q _ s1
    have m1 : isName da = true := by simpa using n1
    replace hT := s1.sqT hT
    replace h2 := h2.same s1
    replace h3 := h3.same s1
    replace h5 := h5.same s1
    walk_at "ri"
    refine s_ixT hT rfl ?_
    walk_at "ri"
    have h20 := h2
    cases h2 <;> (walk_at "ri") <;> try (
      refine (?_ : _ → _) (q _ s1)
      rw [show isLine (.tuple [da, _, dc, de]) = false from by simp [isLine, isKind]]
      exact fun z => z)
    rename_i z
    refine s_ixT hT rfl ?_
    walk_at "ri"
    refine ⟨by show 2 ≤ sizeLine; decide, ?_⟩
    walk_at "zn"
    rename_i p hp H2 s2 e2
    refine s_in (.inr (SqT.of e2)) rfl rfl ?_
    walk_at "ri"
    refine ite_b (fun n2 => ?_) (fun n2 => ?_)
    · walk_at "ri"
      have e : isLine (.tuple [da, .str z, dc, de]) = false := by
        have n3 : inV (.str z) [.str "edge", .str "level"] = false := by simpa using n2
        simp [isLine, isKind, n3]
      rw [e] at q
      exact q _ (s1.trans s2)
    have m2 : isKind (.str z) = true := by simpa [isKind] using n2
    replace hT := s2.sqT hT
    replace h3 := h3.same s2
    replace h5 := h5.same s2
    walk_at "ri"
    refine s_ixT hT rfl ?_
    walk_at "ri"
    refine ⟨_, _, _, _, rfl, h3, ?_⟩
    walk_at "ri"
    refine ite_b (fun n2 => ?_) (fun n2 => ?_)
    · walk_at "ri"
      have e : isLine (.tuple [da, .str z, dc, de]) = false := by simp [isLine, bnt n2]
      rw [e] at q
      exact q _ (s1.trans s2)
    have m3 : isIntD 1 9 dc = true := by simpa using n2
    have e : isLine (.tuple [da, .str z, dc, de]) = isSteps 8 de := by simp [isLine, m1, m2, m3]
    rw [e] at q
    walk_at "ri"
    refine s_ixT hT rfl ?_
    walk_at "ri"
    have h50 := h5
    cases h5 <;> (walk_at "ri") <;> try exact q _ (s1.trans s2)
    rename_i a' xs' ds' hT' hA'
    refine s_ixT hT rfl ?_
    walk_at "ri"
    refine s_lenT hT' ?_
    walk_at "ri"
    have el := hA'.len
    refine ite_b (fun n5 => ?_) (fun n5 => ?_)
    · walk_at "ri"
      have e6 : isSteps 8 (.tuple ds') = decide ((xs'.length : Int) ≤ 8) := by
        rw [el] at n5
        show (decide ((1 : Int) ≤ ds'.length) && decide ((ds'.length : Int) ≤ (8 : Nat))) = _
        rw [n5, ← el]
        rfl
      rw [e6] at q
      exact q _ (s1.trans s2)
    · walk_at "ri"
      have e6 : isSteps 8 (.tuple ds') = false := by
        rw [el] at n5
        show (decide ((1 : Int) ≤ ds'.length) && decide ((ds'.length : Int) ≤ (8 : Nat))) = _
        rw [n5]
        rfl
      rw [e6] at q
      exact q _ (s1.trans s2)
  · refine ite_t ?_ ?_
    · have hl : xs.length ≠ 4 := by rw [hA.len]; exact h4
      simp
      omega
    · walk_at "ri"
      rw [isLine_no h4] at q
      exact q _ (Same.refl H)
def spIsWork (K : Fg) : Sp := fun vs H Q _ => ∃ v d, vs = [v] ∧ Dp K H v d ∧ short d = true ∧ ∀ H', Same H H' → Q (.bl (isWork d)) H'
theorem ok_is_work (T : Txt K mg) : FnOk P w K mg base (L2.CX P w) 3 (ga K "is_work") (fdOf K (ga K "is_work")) ["work"] (spIsWork K) := by
  refine FunD.ok T.F_is_work sc_is_work (fun vs H Q E h => ?_) (fun cdv A outer s H vs Q E hr h => ⟨_, PSs.nox (pss_cons (ps_if (PW.pt (pw_or (pt_not (pt_val (pe_callB (call_isiDK K) (by rfl) T.u_isinstance (by decide +kernel) (pa_cons (pv 0) (pa_cons (z_ty (n := "tuple") T.u_tuple) pa_nil))))) (pw_or (pt_cmpR op_ne (pe_callB (call_lenK K) (by rfl) T.u_len (by decide +kernel) (pa_cons (pv 0) pa_nil)) pe_int (nomark _)) (pw_or1 (pt_not (pt_val (z_call (ok_is_name T) T.c_is_name (hr.mono (by decide)) rfl T.g_is_name passL (pa_cons (pe_ix (ix_tupK K) (pv 0) pe_int (fun _ _ => rfl)) pa_nil)))))))) (pss_one (ps_ret pe_bl)) pss_nil)
      (pss_one (ps_ret (pe_and (z_call (ok_is_integer T) T.c_is_integer (hr.mono (by decide)) rfl T.g_is_integer passL (pa_cons (pe_ix (ix_tupK K) (pv 0) pe_int (fun _ _ => rfl)) (pa_cons pe_int (pa_cons (z_int T.i_MAX_RANK) pa_nil)))) (pe_one (z_call (ok_is_integer T) T.c_is_integer (hr.mono (by decide)) rfl T.g_is_integer passL (pa_cons (pe_ix (ix_tupK K) (pv 0) pe_int (fun _ _ => rfl)) (pa_cons pe_int (pa_cons (z_int T.i_MAX_TICKS) pa_nil))))))))), ?_⟩)
  · obtain ⟨v, d, rfl, _⟩ := h
    rfl
  obtain ⟨v, d, rfl, hd, hz, q⟩ := h
  show (_ : TS) _ [some v] H
  try dsimp only [cxOf]
  have hd0 := hd
  cases hd <;> (walk_at "ri") <;> try exact q _ (Same.refl H)
  rename_i a xs ds hT hA
  refine s_lenT hT ?_
  walk_at "ri"
  by_cases h4 : ds.length = 3
  · have hl : xs.length = 3 := hA.len.trans h4
    refine ite_f (by rw [hl]; rfl) ?_
    obtain ⟨da, db, dc, rfl⟩ : ∃ da db dc, ds = [da, db, dc] := by
      match ds, h4 with
      | [a, b, c], _ => exact ⟨a, b, c, rfl⟩
    cases hA with | cons h1 hA => ?_
    cases hA with | cons h2 hA => ?_
    cases hA with | cons h3 hA => ?_
    cases hA
    walk_at "ri"
    refine s_ixT hT rfl ?_
    walk_at "ri"
    have sz := short_tup hz
    refine ⟨_, _, rfl, h1, shorts_at sz (by simp), fun H1 s1 => ?_⟩
    walk_at "ri"
    refine ite_b (fun n1 => ?_) (fun n1 => ?_)
    · walk_at "ri"
      have e : isWork (.tuple [da, db, dc]) = false := by simp [isWork, bnt n1]
      rw [e] at q
      exact q _ s1
    have e : isWork (.tuple [da, db, dc]) = (isIntD 1 9 db && isIntD 1 99 dc) := by simp [isWork, bnf n1]
    rw [e] at q
    replace hT := s1.sqT hT
    replace h2 := h2.same s1
    replace h3 := h3.same s1
    walk_at "ri"
    refine s_ixT hT rfl ?_
    walk_at "ri"
    refine ⟨_, _, _, _, rfl, h2, ?_⟩
    walk_at "ri"
    refine ite_b (fun n2 => ?_) (fun n2 => ?_)
    · walk_at "ri"
      refine s_ixT hT rfl ?_
      walk_at "ri"
      refine ⟨_, _, _, _, rfl, h3, ?_⟩
      rw [n2] at q
      exact q _ s1
    · rw [n2] at q
      exact q _ s1
  · refine ite_t ?_ ?_
    · have hl : xs.length ≠ 3 := by rw [hA.len]; exact h4
      simp
      omega
    · walk_at "ri"
      rw [isWork_no h4] at q
      exact q _ (Same.refl H)
end
set_option maxHeartbeats 1000000
open PySem PySem.Spec PyProof.Rows L2 Z
open He (ga ma)
def spIsStep (K : Fg) : Sp := fun vs H Q _ => ∃ v d dk kvs wl ws, vs = [v, .ref dk, .ref wl] ∧ Dp K H v d ∧ H dk = some (.dK kvs) ∧ strVals kvs ∧ SqL K H wl ws ∧ ws.all flatV = true ∧ Q (.bl (isStep kvs ws d)) H
section
variable {P : Program} {w : World} {K : Fg} {mg : Str → Option Value} {base : Heap}
theorem ok_is_step (T : Txt K mg) : FnOk P w K mg base (L2.CX P w) 2 (ga K "is_step") (fdOf K (ga K "is_step")) ["step", "kinds", "works"] (spIsStep K) := by
  refine FunD.ok T.F_is_step sc_is_step (fun vs H Q E h => ?_) (fun cdv A outer s H vs Q E hr h => ⟨_, PSs.nox (pss_cons (ps_if (PW.pt (pw_or (pt_not (pt_val (pe_callB (call_isiDK K) (by rfl) T.u_isinstance (by decide +kernel) (pa_cons (pv 0) (pa_cons (z_ty (n := "tuple") T.u_tuple) pa_nil))))) (pw_or (pt_cmpR op_ne (pe_callB (call_lenK K) (by rfl) T.u_len (by decide +kernel) (pa_cons (pv 0) pa_nil)) pe_int (nomark _)) (pw_or1 (pt_not (pt_val (pe_callB (call_isiDK K) (by rfl) T.u_isinstance (by decide +kernel) (pa_cons (pe_ix (ix_tupK K) (pv 0) pe_int (fun _ _ => rfl)) (pa_cons (z_ty (n := "str") T.u_str) pa_nil))))))))) (pss_one (ps_ret pe_bl)) pss_nil)
      (pss_cons (ps_asg (pv 0) (kGT K (pg_tup (n := 2) rfl (pgs_cons (zg 3 sc_is_step.nd) (pgs_cons (zg 4 sc_is_step.nd) pgs_nil)))))
      (pss_cons (ps_if (pt_cmpR (op_in_seqK K) (pv 3) (z_ref T.g_LINE_WORDS) (by rfl)) (pss_one (ps_ret (pe_and (pe_callB (call_isiDK K) (by rfl) T.u_isinstance (by decide +kernel) (pa_cons (pv 4) (pa_cons (z_ty (n := "str") T.u_str) pa_nil))) (pe_and (pe_cmp (pc_din (hu_of hr) (pv 4) (pv 1))) (pe_one (pe_or (pe_cmpR op_ne (pv 3) (z_str T.i_QUIET) (nomark _)) (pe_one (pe_cmpR op_eq (pe_dget (hu_of hr) (pv 1) (pv 4) (fun _ _ => rfl)) (z_str T.i_LEVEL) (nomark _))))))))) pss_nil)
      (pss_cons (ps_if (pt_cmpR op_eq (pv 3) (z_str T.i_LATER) (nomark _)) (pss_one (ps_ret (pe_and (pe_callB (call_isiDK K) (by rfl) T.u_isinstance (by decide +kernel) (pa_cons (pv 4) (pa_cons (z_ty (n := "str") T.u_str) pa_nil))) (pe_one (pe_cmpR (op_in_seqK K) (pv 4) (pv 2) (by rfl)))))) pss_nil)
      (pss_cons (ps_if (pt_cmpR (op_in_seqK K) (pv 3) (z_ref T.g_FLAG_WORDS) (by rfl)) (pss_one (ps_ret (z_call (ok_is_integer T) T.c_is_integer (hr.mono (by decide)) rfl T.g_is_integer passL (pa_cons (pv 4) (pa_cons pe_int (pa_cons (z_int T.i_MAX_FLAG) pa_nil)))))) pss_nil)
      (pss_one (ps_ret (pe_or (pe_and (pe_cmpR op_eq (pv 3) (z_str T.i_RUN) (nomark _)) (pe_one (z_call (ok_is_integer T) T.c_is_integer (hr.mono (by decide)) rfl T.g_is_integer passL (pa_cons (pv 4) (pa_cons pe_int (pa_cons (z_int T.i_MAX_TICKS) pa_nil)))))) (pe_one (pe_and (pe_cmpR op_eq (pv 3) (z_str T.i_BAR) (nomark _)) (pe_one (z_call (ok_is_integer T) T.c_is_integer (hr.mono (by decide)) rfl T.g_is_integer passL (pa_cons (pv 4) (pa_cons pe_int (pa_cons (z_int T.i_MAX_RANK) pa_nil))))))))))))))), ?_⟩)
  · obtain ⟨v, d, dk, kvs, wl, ws, rfl, _⟩ := h
    rfl
  obtain ⟨v, d, dk, kvs, wl, ws, rfl, hd, hK, hkv, hW, hws, q⟩ := h
  show (_ : TS) _ [some v, some (.ref dk), some (.ref wl), none, none] H
  try dsimp only [cxOf]
  have hd0 := hd
  cases hd <;> (walk_at "ri") <;> try exact q
  rename_i a xs ds hT hA
  refine s_lenT hT ?_
  walk_at "ri"
  by_cases h4 : ds.length = 2
  · have hl : xs.length = 2 := hA.len.trans h4
    refine ite_f (by rw [hl]; rfl) ?_
    obtain ⟨da, db, rfl⟩ : ∃ da db, ds = [da, db] := by
      match ds, h4 with
      | [a, b], _ => exact ⟨a, b, rfl⟩
    cases hA with | cons h1 hA => ?_
    cases hA with | cons h2 hA => ?_
    cases hA
    walk_at "ri"
    refine s_ixT hT rfl ?_
    walk_at "ri"
    have h10 := h1
    cases h1 <;> (walk_at "ri") <;> try exact q
    rename_i y w
    refine s_gtup hT rfl ?_
    walk_at "ri"
    have q' : Q (.bl (isStepX kvs ws w db)) H := q
    unfold isStepX at q'
    refine s_in (.inr (T.t_LINE_WORDS H)) rfl rfl ?_
    walk_at "ri"
    refine ite_b (fun n1 => ?_) (fun n1 => ?_)
    · have n1' : inV (.str w) lineWords = true := n1
      have h20 := h2
      cases h2 <;> (walk_at "ri") <;> try (rw [if_pos n1'] at q'; exact q')
      rename_i y
      rw [if_pos n1'] at q'
      dsimp only at q'
      refine s_dS hK ?_
      walk_at "ri"
      refine ite_b (fun n2 => ?_) (fun n2 => ?_)
      · rw [n2, Bool.true_and] at q'
        walk_at "ri"
        refine ite_b (fun n3 => ?_) (fun n3 => ?_)
        · rw [n3] at q'
          exact q'
        · rw [n3, Bool.false_or] at q'
          obtain ⟨u, hu⟩ := Option.isSome_iff_exists.mp n2
          obtain ⟨z, rfl⟩ := hkv _ _ hu
          walk_at "ri"
          refine s_dgS hK hu ?_
          walk_at "ri"
          rw [hu] at q'
          have e : decide ((some (V.str z) : Option V) = some (.str "level")) = decide (V.str z = V.str "level") := by simp
          rw [e] at q'
          exact q'
      · rw [n2, Bool.false_and] at q'
        exact q'
    have n1' : ¬ inV (.str w) lineWords = true := by rw [show inV (.str w) lineWords = false from n1]; decide
    rw [if_neg n1'] at q'
    walk_at "ri"
    refine ite_b (fun n2 => ?_) (fun n2 => ?_)
    · rw [if_pos n2] at q'
      walk_at "ri"
      have h20 := h2
      cases h2 <;> (walk_at "ri") <;> try exact q'
      refine s_in (.inl hW) rfl hws ?_
      exact q'
    rw [if_neg (by rw [n2]; decide)] at q'
    walk_at "ri"
    refine s_in (.inr (T.t_FLAG_WORDS H)) rfl rfl ?_
    walk_at "ri"
    refine ite_b (fun n3 => ?_) (fun n3 => ?_)
    · rw [if_pos (show inV (.str w) flagWords = true from n3)] at q'
      walk_at "ri"
      exact ⟨_, _, _, _, rfl, h2, q'⟩
    rw [if_neg (show ¬ inV (.str w) flagWords = true by rw [show inV (.str w) flagWords = false from n3]; decide)] at q'
    walk_at "ri"
    refine ite_b (fun n4 => ?_) (fun n4 => ?_)
    · rw [n4, Bool.true_and] at q'
      walk_at "ri"
      refine ⟨_, _, _, _, rfl, h2, ?_⟩
      walk_at "ri"
      refine ite_b (fun n5 => ?_) (fun n5 => ?_)
      · rw [n5] at q'
        exact q'
      · rw [n5, Bool.false_or] at q'
        walk_at "ri"
        refine ite_b (fun n6 => ?_) (fun n6 => ?_)
        · rw [n6, Bool.true_and] at q'
          walk_at "ri"
          exact ⟨_, _, _, _, rfl, h2, q'⟩
        · rw [n6, Bool.false_and] at q'
          exact q'
    · rw [n4, Bool.false_and, Bool.false_or] at q'
      walk_at "ri"
      refine ite_b (fun n6 => ?_) (fun n6 => ?_)
      · rw [n6, Bool.true_and] at q'
        walk_at "ri"
        exact ⟨_, _, _, _, rfl, h2, q'⟩
      · rw [n6, Bool.false_and] at q'
        exact q'
  · refine ite_t ?_ ?_
    · have hl : xs.length ≠ 2 := by rw [hA.len]; exact h4
      simp
      omega
    · walk_at "ri"
      rw [isStep_no h4] at q
      exact q
end
set_option maxHeartbeats 1000000
open PySem PySem.Spec PyProof.Rows L2 Z
open He (ga ma)
def spCheckLines (K : Fg) (ok : PyData → Bool) : Sp := fun vs H Q _ => ∃ v ls, ∃ most : Int, vs = [v, .int most] ∧ Dp K H v (.tuple ls) ∧ shorts ls = true ∧ (∀ d ∈ ls, ok d = true) ∧ (ls.map nameD).Nodup ∧ (ls.length : Int) ≤ most ∧ ls.length ≤ 10000 ∧ ∀ H', Same H H' → Q .non H'
section
variable {P : Program} {w : World} {K : Fg} {mg : Str → Option Value} {base : Heap}
theorem ok_check_lines (T : Txt K mg) : FnOk P w K mg base (L2.CX P w) 4 (ga K "check_lines") (fdOf K (ga K "check_lines")) ["lines", "most"] (spCheckLines K isLine) := by
  refine FunD.ok T.F_check_lines sc_check_lines (fun vs H Q E h => ?_) (fun cdv A outer s H vs Q E hr h => ⟨_, PSs.nox (pss_cons (zset 2 sc_check_lines.nd (pe_lst pa_nil))
      (pss_one (ps_for PassesOwn.never rfl (kIET K (pi_enumT (by rfl) T.u_enumerate (pa_cons (pv 0) pa_nil))) (kGT K (pg_tup (n := 2) rfl (pgs_cons (zg 3 sc_check_lines.nd) (pgs_cons (zg 4 sc_check_lines.nd) pgs_nil))))
      (pss_cons (ps_if (PW.pt (pw_or (pt_cmpR op_eq (pv 3) (pv 1) (nomark _)) (pw_or (pt_not (pt_val (z_call (ok_is_line T) T.c_is_line (hr.mono (by decide)) rfl T.g_is_line passL (pa_cons (pv 4) pa_nil)))) (pw_or1 (pt_cmpR (op_in_seqK K) (pe_ix (ix_tupK K) (pv 4) pe_int (fun _ _ => rfl)) (pv 2) (by rfl)))))) (pss_one ps_never) pss_nil)
      (pss_one (ps_expr (kBM K (pe_bm PySem.F.plainAttrs_list PySem.F.slot_list_append PySem.F.type_list_append mt_append (pv 2) (pa_cons (pe_ix (ix_tupK K) (pv 4) pe_int (fun _ _ => rfl)) pa_nil))))))))), ?_⟩)
  · obtain ⟨v, ls, most, rfl, _⟩ := h
    rfl
  obtain ⟨v, ls, most, rfl, hd, hz, hok, hnd, hm, hn, q⟩ := h
  obtain ⟨a, xs, rfl, hT, hA⟩ := hd.tupI
  show (_ : TS) _ [some (.ref a), some (.int most), none, none, none] H
  try dsimp only [cxOf]
  walk_at "ri"
  refine ⟨by decide, ?_⟩
  walk_at "zn"
  rename_i l hl H1 s1 e1
  walk_at "ri"
  refine ⟨_, rfl, a, xs, rfl, s1.sqT hT, for_it walk_enumT (fun i σ H' => ∃ v3 v4, σ = [some (.ref a), some (.int most), some (.ref l), v3, v4] ∧ Same H H' ∧ H' l = some (.lst (((ls.map nameD).take i).map V.str))) ⟨none, none, rfl, s1, e1⟩ (fun i σ H' _ ⟨_, _, _, s2, _⟩ => s2.sqT hT) (fun i x σ H2 H3 hi p y => ?_) (fun σ H' ⟨_, _, _, s2, _⟩ => q _ s2)⟩
  obtain ⟨v3, v4, rfl, s2, e2⟩ := p
  obtain ⟨t, y1, y2, rfl, ht, rfl, h1, h2⟩ := y
  cases h1
  generalize eH : upd H2 t _ = H3
  have s3 := newS ht eH
  have e3 := newE eH
  clear eH
  refine s_gtup (SqT.of e3) rfl ?_
  walk_at "ri"
  have hix : i < ls.length := by rw [← hA.len]; exact hi
  have hx2 : xs[i]? = some y2 := h2
  obtain ⟨d, hdi, hdd⟩ := hA.getv hx2
  have hmem : d ∈ ls := List.mem_of_getElem? hdi
  refine ite_f (decide_eq_false fun z => by cases z; omega) ?_
  walk_at "ri"
  refine ⟨y2, d, rfl, (hdd.same s2).same s3, shorts_at hz hmem, fun H4 s4 => ?_⟩
  rw [hok d hmem]
  walk_at "ri"
  obtain ⟨nm, rest, hd5⟩ := isLine_name2 (hok d hmem)
  subst hd5
  have s24 := (s2.trans s3).trans s4
  obtain ⟨b, zs, rfl, hTb, hAb⟩ := (hdd.same s24).tupI
  cases hAb with | cons b1 hAb => ?_
  cases b1
  refine s_ixT hTb (at_of (j := 0) rfl rfl) ?_
  walk_at "ri"
  have e4 : H4 l = some (.lst (((ls.map nameD).take i).map V.str)) := s4 _ _ (s3 _ _ e2)
  have hnm : (ls.map nameD)[i]? = some nm := by
    rw [List.getElem?_map, hdi]
    rfl
  refine s_in (.inl (SqL.of e4)) rfl flat_strs ?_
  walk_at "ri"
  refine ite_f (by rw [if_neg (by decide), inV_strs]; exact decide_eq_false (nodup_take hnd hnm)) ?_
  walk_at "ri"
  refine s_tyL e4 ?_
  walk_at "ri"
  refine s_ixT hTb (at_of (j := 0) rfl rfl) ?_
  walk_at "ri"
  refine s_append e4 ?_ ?_
  · rw [List.length_map, List.length_take, List.length_map, sizeLine_eq]
    omega
  refine ⟨_, _, rfl, fun c o h => ?_, ?_⟩
  · rw [upd_ne (ne_of_none h hl)]
    exact s24 _ _ h
  · rw [upd_same, List.take_add_one, hnm, List.map_append]
    rfl
theorem ok_check_works (T : Txt K mg) : FnOk P w K mg base (L2.CX P w) 4 (ga K "check_works") (fdOf K (ga K "check_works")) ["works", "most"] (spCheckLines K isWork) := by
  refine FunD.ok T.F_check_works sc_check_works (fun vs H Q E h => ?_) (fun cdv A outer s H vs Q E hr h => ⟨_, PSs.nox (pss_cons (zset 2 sc_check_works.nd (pe_lst pa_nil))
      (pss_one (ps_for PassesOwn.never rfl (kIET K (pi_enumT (by rfl) T.u_enumerate (pa_cons (pv 0) pa_nil))) (kGT K (pg_tup (n := 2) rfl (pgs_cons (zg 3 sc_check_works.nd) (pgs_cons (zg 4 sc_check_works.nd) pgs_nil))))
      (pss_cons (ps_if (PW.pt (pw_or (pt_cmpR op_eq (pv 3) (pv 1) (nomark _)) (pw_or (pt_not (pt_val (z_call (ok_is_work T) T.c_is_work (hr.mono (by decide)) rfl T.g_is_work passL (pa_cons (pv 4) pa_nil)))) (pw_or1 (pt_cmpR (op_in_seqK K) (pe_ix (ix_tupK K) (pv 4) pe_int (fun _ _ => rfl)) (pv 2) (by rfl)))))) (pss_one ps_never) pss_nil)
      (pss_one (ps_expr (kBM K (pe_bm PySem.F.plainAttrs_list PySem.F.slot_list_append PySem.F.type_list_append mt_append (pv 2) (pa_cons (pe_ix (ix_tupK K) (pv 4) pe_int (fun _ _ => rfl)) pa_nil))))))))), ?_⟩)
  · obtain ⟨v, ls, most, rfl, _⟩ := h
    rfl
  obtain ⟨v, ls, most, rfl, hd, hz, hok, hnd, hm, hn, q⟩ := h
  obtain ⟨a, xs, rfl, hT, hA⟩ := hd.tupI
  show (_ : TS) _ [some (.ref a), some (.int most), none, none, none] H
  try dsimp only [cxOf]
  walk_at "ri"
  refine ⟨by decide, ?_⟩
  walk_at "zn"
  rename_i l hl H1 s1 e1
  walk_at "ri"
  refine ⟨_, rfl, a, xs, rfl, s1.sqT hT, for_it walk_enumT (fun i σ H' => ∃ v3 v4, σ = [some (.ref a), some (.int most), some (.ref l), v3, v4] ∧ Same H H' ∧ H' l = some (.lst (((ls.map nameD).take i).map V.str))) ⟨none, none, rfl, s1, e1⟩ (fun i σ H' _ ⟨_, _, _, s2, _⟩ => s2.sqT hT) (fun i x σ H2 H3 hi p y => ?_) (fun σ H' ⟨_, _, _, s2, _⟩ => q _ s2)⟩
  obtain ⟨v3, v4, rfl, s2, e2⟩ := p
  obtain ⟨t, y1, y2, rfl, ht, rfl, h1, h2⟩ := y
  cases h1
  generalize eH : upd H2 t _ = H3
  have s3 := newS ht eH
  have e3 := newE eH
  clear eH
  refine s_gtup (SqT.of e3) rfl ?_
  walk_at "ri"
  have hix : i < ls.length := by rw [← hA.len]; exact hi
  have hx2 : xs[i]? = some y2 := h2
  obtain ⟨d, hdi, hdd⟩ := hA.getv hx2
  have hmem : d ∈ ls := List.mem_of_getElem? hdi
  refine ite_f (decide_eq_false fun z => by cases z; omega) ?_
  walk_at "ri"
  refine ⟨y2, d, rfl, (hdd.same s2).same s3, shorts_at hz hmem, fun H4 s4 => ?_⟩
  rw [hok d hmem]
  walk_at "ri"
  obtain ⟨nm, rest, hd5⟩ := isWork_name2 (hok d hmem)
  subst hd5
  have s24 := (s2.trans s3).trans s4
  obtain ⟨b, zs, rfl, hTb, hAb⟩ := (hdd.same s24).tupI
  cases hAb with | cons b1 hAb => ?_
  cases b1
  refine s_ixT hTb (at_of (j := 0) rfl rfl) ?_
  walk_at "ri"
  have e4 : H4 l = some (.lst (((ls.map nameD).take i).map V.str)) := s4 _ _ (s3 _ _ e2)
  have hnm : (ls.map nameD)[i]? = some nm := by
    rw [List.getElem?_map, hdi]
    rfl
  refine s_in (.inl (SqL.of e4)) rfl flat_strs ?_
  walk_at "ri"
  refine ite_f (by rw [if_neg (by decide), inV_strs]; exact decide_eq_false (nodup_take hnd hnm)) ?_
  walk_at "ri"
  refine s_tyL e4 ?_
  walk_at "ri"
  refine s_ixT hTb (at_of (j := 0) rfl rfl) ?_
  walk_at "ri"
  refine s_append e4 ?_ ?_
  · rw [List.length_map, List.length_take, List.length_map, sizeLine_eq]
    omega
  refine ⟨_, _, rfl, fun c o h => ?_, ?_⟩
  · rw [upd_ne (ne_of_none h hl)]
    exact s24 _ _ h
  · rw [upd_same, List.take_add_one, hnm, List.map_append]
    rfl
end
set_option maxHeartbeats 1000000
open PySem PySem.Spec PyProof.Rows L2 Z
open He (ga ma)
def spSetupInit (K : Fg) : Sp := fun vs H Q _ => ∃ x a b dx P, vs = [.ref x, .ref a, .ref b] ∧ H x = some (.ins (ga K "Setup") dx []) ∧ Dp K H (.ref a) (.tuple (P.ls.map dLn)) ∧ Dp K H (.ref b) (.tuple (P.ws.map dWk)) ∧ P.Ok ∧
  ∀ H' rd wd, H rd = none → H wd = none → rd ≠ wd → Fr [x] H H' → PlanAt K H' ⟨x, rd, wd⟩ P → Q .non H'
section
variable {P : Program} {w : World} {K : Fg} {mg : Str → Option Value} {base : Heap}
theorem ok_Setup_init (T : Txt K mg) : FnOk P w K mg base (L2.CX P w) 5 (ma K (ga K "Setup") "__init__") (fdOf K (ma K (ga K "Setup") "__init__")) ["self", "lines", "works"] (spSetupInit K) := by
  refine FunD.ok T.F_Setup_init sc_Setup_init (fun vs H Q E h => ?_) (fun cdv A outer s H vs Q E hr h => ⟨_, PSs.nox (pss_cons (ps_if (PW.pt (pw_or (pt_not (pt_val (pe_callB (call_isiDK K) (by rfl) T.u_isinstance (by decide +kernel) (pa_cons (pv 1) (pa_cons (z_ty (n := "tuple") T.u_tuple) pa_nil))))) (pw_or1 (pt_cmpR (op_eq0K K hr.units) (pv 1) (pe_tup pa_nil) (nomark _))))) (pss_one ps_never) pss_nil)
      (pss_cons (ps_expr (z_call (ok_check_lines T) T.c_check_lines (hr.mono (by decide)) rfl T.g_check_lines passL (pa_cons (pv 1) (pa_cons (ClX.pe_cval (z_ref T.g_Setup)) pa_nil))))
      (pss_cons (ps_if (pt_not (pt_val (pe_callB (call_isiDK K) (by rfl) T.u_isinstance (by decide +kernel) (pa_cons (pv 2) (pa_cons (z_ty (n := "tuple") T.u_tuple) pa_nil))))) (pss_one ps_never) pss_nil)
      (pss_cons (ps_expr (z_call (ok_check_works T) T.c_check_works (hr.mono (by decide)) rfl T.g_check_works passL (pa_cons (pv 2) (pa_cons (ClX.pe_cval (z_ref T.g_Setup)) pa_nil))))
      (pss_cons (zset 3 sc_Setup_init.nd (pe_dc (own := [("line", 6)]) rfl sc_Setup_init.nd (kIT K (pi_tup (pv 1))) (blkOk_by (own := [("line", 6)]) (N := n_Setup_init) (sc := defScope s_Setup_init) (by decide +kernel)) (fun _ _ _ _ _ => (zg 6 sc_Setup_init.nd)) (fun _ _ _ _ _ => pts_nil) (fun _ _ _ _ _ => (pe_ix (ix_tupK K) (pv 6) pe_int (fun _ _ => rfl))) (fun _ _ _ _ _ => (pe_ix (ix_tupK K) (pv 6) pe_int (fun _ _ => rfl)))))
      (pss_cons (zset 4 sc_Setup_init.nd (pe_lc (own := [("work", 7)]) rfl sc_Setup_init.nd (kIT K (pi_tup (pv 2))) (blkOk_by (own := [("work", 7)]) (N := n_Setup_init) (sc := defScope s_Setup_init) (by decide +kernel)) (fun _ _ _ _ _ => (zg 7 sc_Setup_init.nd)) (fun _ _ _ _ _ => pts_nil) (fun _ _ _ _ _ => (pe_ix (ix_tupK K) (pv 7) pe_int (fun _ _ => rfl)))))
      (pss_cons (ps_for PassesOwn.never rfl (kIET K (pi_enumT (by rfl) T.u_enumerate (pa_cons (pv 1) pa_nil))) (kGT K (pg_tup (n := 2) rfl (pgs_cons (zg 5 sc_Setup_init.nd) (pgs_cons (zg 6 sc_Setup_init.nd) pgs_nil))))
      (pss_one (ps_if (pt_not (pt_val (pe_callB (cr_allK K rfl) (by rfl) T.u_all (by decide +kernel) (pa_cons (pe_lc (own := [("step", 8)]) rfl sc_Setup_init.nd (kIT K (pi_tup (pe_ix (ix_tupK K) (pv 6) pe_int (fun _ _ => rfl)))) (blkOk_by (own := [("step", 8)]) (N := n_Setup_init) (sc := defScope s_Setup_init) (by decide +kernel)) (fun _ _ _ _ _ => (zg 8 sc_Setup_init.nd)) (fun _ _ _ _ _ => pts_nil) (fun _ _ _ _ _ => (z_call (ok_is_step T) T.c_is_step (hr.mono (by decide)) rfl T.g_is_step passL (pa_cons (pv 8) (pa_cons (pv 3) (pa_cons (pv 4) pa_nil)))))) pa_nil)))) (pss_one ps_never) pss_nil)))
      (pss_cons (ps_fld (pv 0) (pv 1) rfl)
      (pss_cons (ps_fld (pv 0) (pv 2) rfl)
      (pss_cons (ps_fld (pv 0) (pe_dc (own := [("line", 6)]) rfl sc_Setup_init.nd (kIT K (pi_tup (pv 1))) (blkOk_by (own := [("line", 6)]) (N := n_Setup_init) (sc := defScope s_Setup_init) (by decide +kernel)) (fun _ _ _ _ _ => (zg 6 sc_Setup_init.nd)) (fun _ _ _ _ _ => pts_nil) (fun _ _ _ _ _ => (pe_ix (ix_tupK K) (pv 6) pe_int (fun _ _ => rfl))) (fun _ _ _ _ _ => (pv 6))) rfl)
      (pss_one (ps_fld (pv 0) (pe_dc (own := [("work", 7)]) rfl sc_Setup_init.nd (kIT K (pi_tup (pv 2))) (blkOk_by (own := [("work", 7)]) (N := n_Setup_init) (sc := defScope s_Setup_init) (by decide +kernel)) (fun _ _ _ _ _ => (zg 7 sc_Setup_init.nd)) (fun _ _ _ _ _ => pts_nil) (fun _ _ _ _ _ => (pe_ix (ix_tupK K) (pv 7) pe_int (fun _ _ => rfl))) (fun _ _ _ _ _ => (pv 7))) rfl)))))))))))), ?_⟩)
  · obtain ⟨x, a, b, dx, P, rfl, _⟩ := h
    rfl
  obtain ⟨x, a, b, dx, P, rfl, hx, hda, hdb, ok, q⟩ := h
  show (_ : TS) _ [some (.ref x), some (.ref a), some (.ref b), none, none, none, none, none, none] H
  try dsimp only [cxOf]
  walk_at "ri"
  refine ⟨by decide, ?_⟩
  walk_at "zn"
  rename_i p hp H1 s1 e1
  obtain ⟨_, xs, e, hT, hA⟩ := hda.tupI
  cases e
  obtain ⟨_, ys, e, hTb, hAb⟩ := hdb.tupI
  cases e
  have hxl : xs.length = P.ls.length := by rw [hA.len, List.length_map]
  refine s_eq0T (s1.sqT hT) (SqT.of e1) ?_
  walk_at "ri"
  refine ite_f ?_ ?_
  · cases xs with
    | nil => exact absurd (List.length_eq_zero_iff.mp hxl.symm) ok.ne
    | cons _ _ => rfl
  walk_at "ri"
  refine s_cval T.k_Setup_MAX_LINES ?_
  walk_at "ri"
  have hnm : (P.ls.map dLn).map nameD = P.names := by rw [List.map_map]; rfl
  have hnw : (P.ws.map dWk).map nameD = P.wnames := by rw [List.map_map]; rfl
  have l12 := ok.l12
  have w8 := ok.w8
  refine ⟨_, P.ls.map dLn, 12, rfl, hda.same s1, shorts_map ok.shl, fun d hd => ?_, by rw [hnm]; exact ok.lnd, by rw [List.length_map]; omega, by rw [List.length_map]; omega, fun H2 s2 => ?_⟩
  · obtain ⟨l, hl, rfl⟩ := List.mem_map.mp hd
    exact ok.lok l hl
  have s12 := s1.trans s2
  have hdb2 := hdb.same s12
  walk_at "ri"
  refine s_cval T.k_Setup_MAX_WORKS ?_
  walk_at "ri"
  refine ⟨_, P.ws.map dWk, 8, rfl, hdb.same s12, shorts_map fun w hw => (ok.shw w hw).1, fun d hd => ?_, by rw [hnw]; exact ok.wnd, by rw [List.length_map]; omega, by rw [List.length_map]; omega, fun H3 s3 => ?_⟩
  · obtain ⟨l, hl, rfl⟩ := List.mem_map.mp hd
    exact ok.wok l hl
  walk_at "ri"
  have s13 := s12.trans s3
  have hkk : (P.ls.map fun l => (Sum.inr l.nm : Key)) = P.names.map Sum.inr := by rw [Pl.names, List.map_map]; rfl
  have hkn : (P.ls.map fun l => (Sum.inr l.nm : Key)).Nodup := by
    rw [hkk]
    exact List.Pairwise.map Sum.inr (fun a b h e => h (Sum.inr.inj e)) ok.lnd
  have hkw : (P.ws.map fun l => (Sum.inr l.nm : Key)).Nodup := by
    rw [show (P.ws.map fun l => (Sum.inr l.nm : Key)) = P.wnames.map Sum.inr by rw [Pl.wnames, List.map_map]; rfl]
    exact List.Pairwise.map Sum.inr (fun a b h e => h (Sum.inr.inj e)) ok.wnd
  refine dcT_d (l := P.ls) (da := dLn) (s13.sqT hT) (hA.same s13) (fun l => .inr l.nm) (P.ls.map fun l => .str l.kd) (by rw [List.length_map]) hkn (by omega) (fun i l y v H4 Z N hl hi hy hv s4 hd z => ?_) (fun kd H4 hkd s4 e4 => ?_)
  · obtain ⟨t, zs, rfl, ht, ha⟩ := hd.tupI
    walk_at "ri"
    refine ⟨rfl, ?_⟩
    walk_at "ri"
    cases ha with | cons h1 ha => ?_
    cases ha with | cons h2 ha => ?_
    cases h1
    cases h2
    refine s_ixT ht (at_of (j := 0) rfl rfl) ?_
    walk_at "ri"
    refine s_ixT ht (at_of (j := 1) rfl rfl) ?_
    rw [List.getElem?_map, hi] at hv
    cases hv
    exact z _ (Same.refl _)
  have hkz : (P.ls.map fun l => (Sum.inr l.nm : Key)).zip (P.ls.map fun l => V.str l.kd) = P.kinds := by
    rw [List.zip_map']
    rfl
  rw [hkz] at e4
  walk_at "ri"
  have s14 := s13.trans s4
  refine lcT_d (l := P.ws) (da := dWk) (s14.sqT hTb) (hAb.same s14) (fun _ => true) (fun w => .str w.nm) (by omega) (fun _ _ => rfl) (fun l v H5 Yes No hl s5 hd yes no => ?_) (fun nl H5 ns hnl s5 e5 a5 => ?_)
  · obtain ⟨t, zs, rfl, ht, ha⟩ := hd.tupI
    walk_at "ri"
    refine ⟨rfl, ?_⟩
    walk_at "ri"
    cases ha with | cons h1 ha => ?_
    cases h1
    refine s_ixT ht (at_of (j := 0) rfl rfl) ?_
    exact yes rfl _ _ (Same.refl _) (.str _)
  rw [List.filter_eq_self.mpr (fun _ _ => rfl), map_str] at a5
  have e5' := dp_strs a5
  subst e5'
  have s15 := s14.trans s5
  rw [show (P.ws.map fun w => w.nm) = P.wnames from rfl] at e5
  have hkv : strVals P.kinds := fun k v h => by
    unfold valV at h
    obtain ⟨kv, h1, h2⟩ := Option.map_eq_some_iff.mp h
    obtain ⟨l, hl, rfl⟩ := List.mem_map.mp (List.mem_of_find?_eq_some h1)
    exact ⟨l.kd, h2.symm⟩
  walk_at "ri"
  refine ⟨_, rfl, a, xs, rfl, s15.sqT hT, for_it walk_enumT (fun i σ H' => ∃ v5 v6, σ = [some (.ref x), some (.ref a), some (.ref b), some (.ref kd), some (.ref nl), v5, v6, none, none] ∧ Same H5 H') ⟨none, none, rfl, Same.refl _⟩ (fun i σ H' _ ⟨_, _, _, s6⟩ => s6.sqT (s15.sqT hT)) (fun i x' σ H6 H7 hi p y => ?_) (fun σ H6 ⟨v5, v6, hσ, s6⟩ => ?_)⟩
  · obtain ⟨v5, v6, rfl, s6⟩ := p
    obtain ⟨t, y1, y2, rfl, ht, rfl, h1, h2⟩ := y
    cases h1
    generalize eH : upd H6 t _ = H7
    have s7 := newS ht eH
    have e7 := newE eH
    clear eH
    refine s_gtup (SqT.of e7) rfl ?_
    walk_at "ri"
    have s57 := s6.trans s7
    have s17 := s15.trans s57
    obtain ⟨d, hdi, hdd⟩ := hA.getv h2
    rw [List.getElem?_map] at hdi
    obtain ⟨l, hl, rfl⟩ := Option.map_eq_some_iff.mp hdi
    obtain ⟨c, zs, rfl, hTc, hAc⟩ := (hdd.same s17).tupI
    cases hAc with | cons h1 hAc => ?_
    cases hAc with | cons h2 hAc => ?_
    cases hAc with | cons h3 hAc => ?_
    cases hAc with | cons h4 hAc => ?_
    cases hAc
    refine s_ixT hTc (at_of (j := 3) rfl rfl) ?_
    obtain ⟨st, ss, rfl, hTs, hAs⟩ := h4.tupI
    have hlm := List.mem_of_getElem? hl
    have hst : l.st.length ≤ 8 := by
      have hk := ok.lok l hlm
      simp only [isLine, dLn, isSteps, Bool.and_eq_true, decide_eq_true_eq, List.length_map] at hk
      omega
    refine lcT_d (l := l.st) (da := dSt) hTs hAs (fun _ => true) (fun s => .bool (isStep P.kinds (P.wnames.map V.str) (dSt s))) (by omega) (fun _ _ => rfl) (fun s v H8 Yes No hs s8 hd yes no => ?_) (fun bl H8 bs hbl s8 e8 a8 => ?_)
    · walk_at "ri"
      refine ⟨rfl, ?_⟩
      walk_at "ri"
      refine ⟨_, _, _, _, _, _, rfl, hd, s8 _ _ (s57 _ _ (s5 _ _ e4)), hkv, SqL.of (s8 _ _ (s57 _ _ e5)), flat_strs, ?_⟩
      exact yes rfl _ _ (Same.refl _) (.bl _)
    rw [List.filter_eq_self.mpr (fun _ _ => rfl), map_bool] at a8
    have e8' := dp_bools a8
    subst e8'
    walk_at "ri"
    refine s_all (SqL.of e8) ?_
    walk_at "ri"
    refine ite_f ?_ ?_
    · rw [List.all_map]
      exact congrArg Bool.not (List.all_eq_true.mpr fun s hs => ok.sok l hlm s hs)
    walk_at "ri"
    exact ⟨_, _, rfl, s57.trans s8⟩
  subst hσ
  have s16 := s15.trans s6
  walk_at "ri"
  refine s_fldput (s16 _ _ hx) T.cl_Setup T.n_Setup_line_rows (of_decide_eq_true (by kernel_rfl)) ?_
  walk_at "ri"
  refine s_fldput upd_same T.cl_Setup T.n_Setup_work_rows (of_decide_eq_true (by kernel_rfl)) ?_
  generalize eH : upd (upd H6 x _) x _ = H8
  have e8 : H8 x = some (.ins (ga K "Setup") dx (putF "work_rows" (.ref b) (putF "line_rows" (.ref a) []))) := by rw [← eH, upd_same]
  have f8 : Fr [x] H H8 := by
    rw [← eH]
    exact s16.fr.trans ((Fr.upd (by simp) (s16 _ _ hx) rfl).trans (Fr.upd (by simp) upd_same rfl))
  clear eH
  have hrow : ∀ {H9 : Hp}, Fr [x] H H9 → SqT K H9 a xs ∧ DpAll K H9 xs (P.ls.map dLn) ∧ SqT K H9 b ys ∧ DpAll K H9 ys (P.ws.map dWk) := fun f => ⟨f.tk.sqT hT, hA.tk f.tk (tupds_map tupd_dLn _), f.tk.sqT hTb, hAb.tk f.tk (tupds_map tupd_dWk _)⟩
  walk_at "ri"
  refine dcT_d (l := P.ls) (da := dLn) (hrow f8).1 (hrow f8).2.1 (fun l => .inr l.nm) xs hxl.symm hkn (by omega) (fun i l y v H9 Z N hl hi hy hv s9 hd z => ?_) (fun rd H9 hrd s9 e9 => ?_)
  · obtain ⟨t, zs, rfl, ht, ha⟩ := hd.tupI
    walk_at "ri"
    refine ⟨rfl, ?_⟩
    walk_at "ri"
    cases ha with | cons h1 ha => ?_
    cases h1
    refine s_ixT ht (at_of (j := 0) rfl rfl) ?_
    walk_at "ri"
    rw [hy] at hv
    cases hv
    exact z _ (Same.refl _)
  walk_at "ri"
  refine s_fldput (s9 _ _ e8) T.cl_Setup T.n_Setup_rows_by_name (of_decide_eq_true (by kernel_rfl)) ?_
  generalize eH : upd H9 x _ = H10
  have e10 : H10 x = some (.ins (ga K "Setup") dx (putF "rows_by_name" (.ref rd) (putF "work_rows" (.ref b) (putF "line_rows" (.ref a) [])))) := by rw [← eH, upd_same]
  have f9 : Fr [x] H9 H10 := by rw [← eH]; exact Fr.upd (by simp) (s9 _ _ e8) rfl
  have f10 : Fr [x] H H10 := (f8.trans s9.fr).trans f9
  have hxrd : rd ≠ x := fun z => by rw [z, e8] at hrd; cases hrd
  have d10 : H10 rd = some (.dK ((P.ls.map fun l => (Sum.inr l.nm : Key)).zip xs)) := f9.at e9 (by simp [hxrd])
  clear eH
  have hyl : ys.length = P.ws.length := by rw [hAb.len, List.length_map]
  walk_at "ri"
  refine dcT_d (l := P.ws) (da := dWk) (hrow f10).2.2.1 (hrow f10).2.2.2 (fun l => .inr l.nm) ys hyl.symm hkw (by omega) (fun i l y v H9 Z N hl hi hy hv s9 hd z => ?_) (fun wd H11 hwd s11 e11 => ?_)
  · obtain ⟨t, zs, rfl, ht, ha⟩ := hd.tupI
    walk_at "ri"
    refine ⟨rfl, ?_⟩
    walk_at "ri"
    cases ha with | cons h1 ha => ?_
    cases h1
    refine s_ixT ht (at_of (j := 0) rfl rfl) ?_
    walk_at "ri"
    rw [hy] at hv
    cases hv
    exact z _ (Same.refl _)
  walk_at "ri"
  refine s_fldput (s11 _ _ e10) T.cl_Setup T.n_Setup_works_by_name (of_decide_eq_true (by kernel_rfl)) ?_
  generalize eH : upd H11 x _ = H12
  have f12 : Fr [x] H11 H12 := by rw [← eH]; exact Fr.upd (by simp) (s11 _ _ e10) rfl
  have e12 : H12 x = some (.ins (ga K "Setup") dx (planF a b rd wd)) := by
    rw [← eH, upd_same]
    kernel_rfl
  clear eH
  have f := (f10.trans s11.fr).trans f12
  have hxwd : wd ≠ x := fun z => by rw [z, e10] at hwd; cases hwd
  have new : ∀ {a : Addr} {H9 : Hp}, Fr [x] H H9 → a ≠ x → H9 a = none → H a = none := fun {a H9} f n h => by
    cases e : H a with
    | none => rfl
    | some o => rw [f.at e (by simp [n])] at h; cases h
  refine q H12 rd wd (new f8 hxrd hrd) (new f10 hxwd hwd) (fun z => by rw [← z, d10] at hwd; cases hwd) f ⟨ok, ⟨dx, a, b, e12, hda.tk f.tk (tupds_map tupd_dLn _), hdb.tk f.tk (tupds_map tupd_dWk _)⟩, dictOf_zip (nm := Ln.nm) (f12.at (s11 _ _ d10) (by simp [hxrd])) ok.lnd (hrow f).2.1, dictOf_zip (nm := Wk.nm) (f12.at e11 (by simp [hxwd])) ok.wnd (hrow f).2.2.2⟩
end
set_option maxHeartbeats 1000000
open PySem PySem.Spec PyProof.Rows L2 Z
open He (ga ma)
def nameIn (P : Pl) : PyData → Bool
  | .str z => decide (z ∈ P.names)
  | _ => false
def spContains (K : Fg) : Sp := fun vs H Q _ => ∃ D v d P, vs = [.ref D.p, v] ∧ PlanAt K H D P ∧ Dp K H v d ∧ Q (.bl (nameIn P d)) H
def spCheckLine (K : Fg) : Sp := fun vs H Q _ => ∃ D z P, vs = [.ref D.p, .str z] ∧ PlanAt K H D P ∧ z ∈ P.names ∧ Q .non H
def spGetItem (K : Fg) : Sp := fun vs H Q _ => ∃ D z P, vs = [.ref D.p, .str z] ∧ PlanAt K H D P ∧ z ∈ P.names ∧ ∀ v, Dp K H v (dLn (P.ln z)) → Q v H
def spOrder (K : Fg) : Sp := fun vs H Q _ => ∃ D P, vs = [.ref D.p] ∧ PlanAt K H D P ∧ ∀ H' a, Same H H' → H a = none → H' a = some (.tup (P.order.map V.str)) → Q (.ref a) H'
def spTicksOf (K : Fg) : Sp := fun vs H Q _ => ∃ D z P, vs = [.ref D.p, .str z] ∧ PlanAt K H D P ∧ z ∈ P.names ∧ ∀ H', Same H H' → Q (.int (ticksOf (P.ln z))) H'
section
variable {P : Program} {w : World} {K : Fg} {mg : Str → Option Value} {base : Heap}
theorem ok_Setup_contains (T : Txt K mg) : FnOk P w K mg base (L2.CX P w) 1 (ma K (ga K "Setup") "__contains__") (fdOf K (ma K (ga K "Setup") "__contains__")) ["self", "name"] (spContains K) := by
  refine FunD.ok T.F_Setup_contains sc_Setup_contains (fun vs H Q E h => ?_) (fun cdv A outer s H vs Q E hr h => ⟨_, PSs.nox (pss_one (ps_ret (pe_and (pe_callB (call_isiDK K) (by rfl) T.u_isinstance (by decide +kernel) (pa_cons (pv 1) (pa_cons (z_ty (n := "str") T.u_str) pa_nil))) (pe_one (pe_cmp (pc_din (hu_of hr) (pv 1) (kFld K (pe_fld (pv 0) rfl)))))))), ?_⟩)
  · obtain ⟨D, v, d, P, rfl, _⟩ := h
    rfl
  obtain ⟨D, v, d, P, rfl, pl, hd, q⟩ := h
  show (_ : TS) _ [some (.ref D.p), some v] H
  try dsimp only [cxOf]
  have hd0 := hd
  obtain ⟨dx, a, b, hp, _⟩ := pl.ins
  obtain ⟨kr, hrd, hk, _⟩ := pl.rows.at_
  cases hd <;> (walk_at "ri") <;> try exact q
  refine s_fldat hp T.cl_Setup T.n_Setup_rows_by_name plF_rn ?_
  refine s_dS hrd ?_
  rw [hk]
  exact q
theorem ok_Setup_check_line (T : Txt K mg) : FnOk P w K mg base (L2.CX P w) 2 (ma K (ga K "Setup") "check_line") (fdOf K (ma K (ga K "Setup") "check_line")) ["self", "name"] (spCheckLine K) := by
  refine FunD.ok T.F_Setup_check_line sc_Setup_check_line (fun vs H Q E h => ?_) (fun cdv A outer s H vs Q E hr h => ⟨_, PSs.nox (pss_one (ps_if (pt_cmpR (op_notInO T.m_Setup_contains.at_ T.m_Setup_contains.fn (ok_Setup_contains T) T.c_Setup_contains (hr.mono (by decide)) passL) (pv 1) (pv 0) (by rfl)) (pss_one ps_never) pss_nil)), ?_⟩)
  · obtain ⟨D, z, P, rfl, _⟩ := h
    rfl
  obtain ⟨D, z, P, rfl, pl, hz, q⟩ := h
  show (_ : TS) _ [some (.ref D.p), some (.str z)] H
  try dsimp only [cxOf]
  walk_at "ri"
  obtain ⟨dx, a, b, hp, _⟩ := pl.ins
  refine ⟨_, _, _, rfl, hp, D, _, _, P, rfl, pl, .str z, ?_⟩
  walk_at "ri"
  refine ite_f (by rw [if_pos rfl]; exact congrArg Bool.not (decide_eq_true hz)) ?_
  walk_at "ri"
  exact q
theorem ok_Setup_getitem (T : Txt K mg) : FnOk P w K mg base (L2.CX P w) 3 (ma K (ga K "Setup") "__getitem__") (fdOf K (ma K (ga K "Setup") "__getitem__")) ["self", "name"] (spGetItem K) := by
  refine FunD.ok T.F_Setup_getitem sc_Setup_getitem (fun vs H Q E h => ?_) (fun cdv A outer s H vs Q E hr h => ⟨_, PSs.nox (pss_cons (ps_expr (z_meth (pv 0) T.cl_Setup T.m_Setup_check_line (ok_Setup_check_line T) T.c_Setup_check_line (hr.mono (by decide)) passL (pa_cons (pv 1) pa_nil)))
      (pss_one (ps_ret (pe_dget (hu_of hr) (kFld K (pe_fld (pv 0) rfl)) (pv 1) (fun _ _ => rfl))))), ?_⟩)
  · obtain ⟨D, z, P, rfl, _⟩ := h
    rfl
  obtain ⟨D, z, P, rfl, pl, hz, q⟩ := h
  show (_ : TS) _ [some (.ref D.p), some (.str z)] H
  try dsimp only [cxOf]
  obtain ⟨dx, a, b, hp, _⟩ := pl.ins
  obtain ⟨kr, hrd, hk, hv⟩ := pl.rows.at_
  obtain ⟨hl, en⟩ := pl.ok.ln_mem hz
  obtain ⟨v, h1, h2⟩ := hv _ hl
  rw [en] at h1
  walk_at "ri"
  refine s_methat hp (by kernel_rfl) ?_
  walk_at "ri"
  refine ⟨D, z, P, rfl, pl, hz, ?_⟩
  walk_at "ri"
  refine s_fldat hp T.cl_Setup T.n_Setup_rows_by_name plF_rn ?_
  walk_at "ri"
  refine s_dgS hrd h1 ?_
  exact q v h2
theorem ok_Setup_order (T : Txt K mg) : FnOk P w K mg base (L2.CX P w) 1 (pga K (ga K "Setup") "order") (fdOf K (pga K (ga K "Setup") "order")) ["self"] (spOrder K) := by
  refine FunD.ok T.F_Setup_order sc_Setup_order (fun vs H Q E h => ?_) (fun cdv A outer s H vs Q E hr h => ⟨_, PSs.nox (pss_cons (zset 1 sc_Setup_order.nd (pe_callB (cr_sortedDatK K hr.units) (by rfl) T.u_sorted (by decide +kernel) (pa_cons (pe_lc (own := [("line", 2)]) rfl sc_Setup_order.nd (kIT K (pi_tup (kFld K (pe_fld (pv 0) rfl)))) (blkOk_by (own := [("line", 2)]) (N := n_Setup_order) (sc := defScope s_Setup_order) (by decide +kernel)) (fun _ _ _ _ _ => (zg 2 sc_Setup_order.nd)) (fun _ _ _ _ _ => pts_nil) (fun _ _ _ _ _ => (pe_tup (pa_cons (pe_op op_sub pe_int (pe_ix (ix_tupK K) (pv 2) pe_int (fun _ _ => rfl))) (pa_cons (pe_ix (ix_tupK K) (pv 2) pe_int (fun _ _ => rfl)) pa_nil))))) pa_nil)))
      (pss_one (ps_ret (pe_callTy (call_tuple_ofK K) (by rfl) T.u_tuple (by decide +kernel) (pa_cons (pe_lc (own := [("rank", 3), ("name", 4)]) rfl sc_Setup_order.nd (kIL K (pi_list (pv 1))) (blkOk_by (own := [("rank", 3), ("name", 4)]) (N := n_Setup_order) (sc := defScope s_Setup_order) (by decide +kernel)) (fun _ _ _ _ _ => (kGT K (pg_tup (n := 2) rfl (pgs_cons (zg 3 sc_Setup_order.nd) (pgs_cons (zg 4 sc_Setup_order.nd) pgs_nil))))) (fun _ _ _ _ _ => pts_nil) (fun _ _ _ _ _ => (pv 4))) pa_nil))))), ?_⟩)
  · obtain ⟨D, P, rfl, _⟩ := h
    rfl
  obtain ⟨D, P, rfl, pl, q⟩ := h
  show (_ : TS) _ [some (.ref D.p), none, none, none, none] H
  try dsimp only [cxOf]
  obtain ⟨dx, a, b, hp, hda, hdb⟩ := pl.ins
  obtain ⟨_, xs, e, hT, hA⟩ := hda.tupI
  cases e
  have l12 := pl.ok.l12
  walk_at "ri"
  refine s_fldat hp T.cl_Setup T.n_Setup_line_rows plF_lr ?_
  refine lcT_d (l := P.ls) (da := dLn) hT hA (fun _ => true) ordD (by omega) (fun _ _ => rfl) (fun l v H5 Yes No hl s5 hd yes no => ?_) (fun nl H1 ns hnl s1 e1 a1 => ?_)
  · obtain ⟨t, zs, rfl, ht, ha⟩ := hd.tupI
    walk_at "ri"
    refine ⟨rfl, ?_⟩
    walk_at "ri"
    cases ha with | cons h1 ha => ?_
    cases ha with | cons h2 ha => ?_
    cases ha with | cons h3 ha => ?_
    cases h1
    cases h3
    refine s_ixT ht (at_of (j := 2) rfl rfl) ?_
    walk_at "ri"
    refine s_ixT ht (at_of (j := 0) rfl rfl) ?_
    walk_at "ri"
    walk_at "zt"
    rename_i p hp H2 s2 e2
    exact yes rfl _ _ s2 (.tup (SqT.of e2) (.cons (.int _) (.cons (.str _) .nil)))
  rw [List.filter_eq_self.mpr (fun _ _ => rfl)] at a1
  walk_at "ri"
  refine ⟨nl, ns, P.ls.map ordD, rfl, SqL.of e1, a1, PySem.W.AllAlike.of (fun _ _ => rfl), PySem.W.Sortable.tuples (fun b => ⟨_, _, rfl⟩), fun d hd => ?_, fun ys p ha hp2 => ?_⟩
  · obtain ⟨l, _, rfl⟩ := List.mem_map.mp hd
    exact of_decide_eq_true rfl
  rw [← List.map_mergeSort (f := ordD) (r := PySem.W.dataLe false ordD) (s := PySem.W.dataLe false id) (fun a _ b _ => rfl)] at ha
  generalize eH : upd H1 p _ = H2
  have s2 := newS hp2 eH
  have e2 := newE eH
  clear eH
  walk_at "ri"
  have hlen : (P.ls.mergeSort (PySem.W.dataLe false ordD)).length = P.ls.length := List.length_mergeSort _
  refine lcL_d (l := P.ls.mergeSort (PySem.W.dataLe false ordD)) (da := ordD) (SqL.of e2) (ha.same s2) (fun _ => true) (fun l => .str l.nm) (by omega) (fun _ _ => rfl) (fun l v H5 Yes No hl s5 hd yes no => ?_) (fun nm H3 ms hnm s3 e3 a3 => ?_)
  · obtain ⟨t, zs, rfl, ht, hz⟩ := hd.tupI
    cases hz with | cons h1 hz => ?_
    cases hz with | cons h2 hz => ?_
    cases hz
    cases h1
    cases h2
    refine s_gtup ht rfl ?_
    walk_at "ri"
    refine ⟨rfl, ?_⟩
    walk_at "ri"
    exact yes rfl _ _ (Same.refl _) (.str _)
  rw [List.filter_eq_self.mpr (fun _ _ => rfl), map_str] at a3
  have e4 := dp_strs a3
  subst e4
  walk_at "ri"
  refine ⟨nm, _, rfl, .inl ⟨SqL.of e3, fun t ht => ?_⟩⟩
  have s13 := (s1.trans s2).trans s3
  refine q _ t (s13.trans (Same.new ht)) ?_ upd_same
  cases e : H t with
  | none => rfl
  | some o => rw [s13 _ _ e] at ht; cases ht
theorem ok_Setup_ticks_of (T : Txt K mg) : FnOk P w K mg base (L2.CX P w) 5 (ma K (ga K "Setup") "ticks_of") (fdOf K (ma K (ga K "Setup") "ticks_of")) ["self", "line"] (spTicksOf K) := by
  refine FunD.ok T.F_Setup_ticks_of sc_Setup_ticks_of (fun vs H Q E h => ?_) (fun cdv A outer s H vs Q E hr h => ⟨_, PSs.nox (pss_one (ps_ret (pe_callB (cr_sumK K rfl) (by rfl) T.u_sum (by decide +kernel) (pa_cons (pe_lc (own := [("step", 2)]) rfl sc_Setup_ticks_of.nd (kIT K (pi_tup (pe_ix (ix_tupK K) (z_ixO (pv 0) (pv 1) T.m_Setup_getitem.at_ T.sub_Setup T.m_Setup_getitem.fn (ok_Setup_getitem T) T.c_Setup_getitem (hr.mono (by decide)) passL) pe_int (fun _ _ => rfl)))) (blkOk_by (own := [("step", 2)]) (N := n_Setup_ticks_of) (sc := defScope s_Setup_ticks_of) (by decide +kernel)) (fun _ _ _ _ _ => (zg 2 sc_Setup_ticks_of.nd)) (fun _ _ _ _ _ => (pts_one (pt_cmpR op_eq (pe_ix (ix_tupK K) (pv 2) pe_int (fun _ _ => rfl)) (z_str T.i_RUN) (nomark _)))) (fun _ _ _ _ _ => (pe_ix (ix_tupK K) (pv 2) pe_int (fun _ _ => rfl)))) pa_nil)))), ?_⟩)
  · obtain ⟨D, z, P, rfl, _⟩ := h
    rfl
  obtain ⟨D, z, P, rfl, pl, hz, q⟩ := h
  show (_ : TS) _ [some (.ref D.p), some (.str z), none] H
  try dsimp only [cxOf]
  obtain ⟨dx, a, b, hp, hda, hdb⟩ := pl.ins
  walk_at "ri"
  refine ⟨_, _, _, rfl, hp, D, z, P, rfl, pl, hz, fun v hv => ?_⟩
  obtain ⟨hl, _⟩ := pl.ok.ln_mem hz
  obtain ⟨c, zs, rfl, hTc, hAc⟩ := hv.tupI
  cases hAc with | cons h1 hAc => ?_
  cases hAc with | cons h2 hAc => ?_
  cases hAc with | cons h3 hAc => ?_
  cases hAc with | cons h4 hAc => ?_
  cases hAc
  walk_at "ri"
  refine s_ixT hTc (at_of (j := 3) rfl rfl) ?_
  obtain ⟨st, ss, rfl, hTs, hAs⟩ := h4.tupI
  have hst := pl.ok.steps8 hl
  refine lcT_d (l := (P.ln z).st) (da := dSt) hTs hAs (fun s => decide (s.1 = ("run" : Str))) (fun s => .int (kI s.2)) (by omega) (fun _ _ => rfl) (fun s v H8 Yes No hs s8 hd yes no => ?_) (fun bl H8 bs hbl s8 e8 a8 => ?_)
  · obtain ⟨t, zs, rfl, ht, ha⟩ := hd.tupI
    cases ha with | cons h1 ha => ?_
    cases ha with | cons h2 ha => ?_
    cases ha
    cases h1
    walk_at "ri"
    refine ⟨rfl, ?_⟩
    walk_at "ri"
    refine s_ixT ht (at_of (j := 0) rfl rfl) ?_
    walk_at "ri"
    refine ite_b (fun h => ?_) (fun h => ?_)
    · have e : s.1 = ("run" : Str) := by simpa using h
      obtain ⟨i, hi, _⟩ := (pl.ok.step hl hs).run_int e
      rw [hi] at h2
      cases h2
      walk_at "ri"
      refine s_ixT ht (at_of (j := 1) rfl rfl) ?_
      refine yes (decide_eq_true e) _ _ (Same.refl _) ?_
      rw [hi]
      exact .int i
    · have e : ¬ s.1 = ("run" : Str) := by simpa using h
      exact no (decide_eq_false e) _ (Same.refl _)
  rw [map_int] at a8
  have e8' := dp_ints a8
  subst e8'
  walk_at "ri"
  exact ⟨bl, _, rfl, SqL.of e8, q _ s8⟩
end
end T
set_option maxHeartbeats 1000000
namespace T
open PySem PySem.Spec PyProof.Rows L2 Z
open He (ga ma)
local macro_rules | `(tactic| walk_at "z") => `(tactic| with_reducible first | refine ⟨_, _, rfl, rfl, ?_⟩ | refine ⟨_, rfl, ?_⟩)
local macro_rules | `(tactic| walk_at "z") => `(tactic| ((with_reducible refine s_isi (d := ?d1) ?h1 ?h2 ?q1); (case h1 => first | assumption | constructor); (case h2 => decide)))
local macro_rules | `(tactic| walk_at "z") => `(tactic| with_reducible first | refine s_tup ?_ | refine s_lst ?_)
local macro_rules | `(tactic| walk_at "z") => `(tactic| ((with_reducible refine s_ne ?h1 ?q1); (case h1 => exact rfl)))
local macro_rules | `(tactic| walk_at "z") => `(tactic| ((with_reducible refine s_eq ?h1 ?q1); (case h1 => exact rfl)))
local macro_rules | `(tactic| walk_at "z") => `(tactic| with_reducible first | refine s_dcT ?_ | refine s_cvalg ?_ | refine s_fldS ?_ | refine s_I0 ?_ | refine s_U ?_)
local macro_rules | `(tactic| walk_at "z") => `(tactic| with_reducible first | refine s_make ?_ | refine s_sl ?_ | refine s_nop ?_ | refine s_part ?_ | refine s_lcE ?_ | refine s_lc ?_)
local macro_rules | `(tactic| walk_at "z") => `(tactic| with_reducible first | refine s_for ?_ | refine s_rng1 ?_ | refine s_iT ?_ | refine s_iL ?_ | refine Or.inl (Exists.intro _ (And.intro rfl ?_)) | refine Or.inr (Exists.intro _ (And.intro rfl ?_)))
local macro_rules | `(tactic| walk_at "z") => `(tactic| with_reducible first | refine s_fldaug ?_ | refine s_add ?_ | refine s_ipI ?_ | refine s_ixO ?_ | refine s_lcL ?_ | refine s_dputg ?_)
local macro_rules | `(tactic| walk_at "z") => `(tactic| with_reducible first | refine s_daugg ?_ | refine s_disp ?_ | refine s_pcons ?_ | refine s_pnil ?_ | refine s_gsub ?_ | refine s_augS ?_)
local macro_rules | `(tactic| walk_at "z") => `(tactic| with_reducible first | refine s_bm ?_ | refine s_bm0 ?_ | refine s_fldg ?_ | refine s_meth ?_ | refine s_prop ?_ | refine s_lcT ?_)
local macro_rules | `(tactic| walk_at "z") => `(tactic| with_reducible first | refine s_yes ?_ | refine s_gcons ?_ | refine s_gnil ?_ | refine s_din ?_ | refine s_dnin ?_ | refine s_dget ?_)
local macro_rules | `(tactic| walk_at "z") => `(tactic| with_reducible first | refine s_orV ?_ | refine s_notV ?_ | refine s_if ?_ | refine s_chain ?_ | refine s_call ?_ | refine s_bl ?_)
local macro_rules | `(tactic| walk_at "z") => `(tactic| with_reducible first | refine s_test ?_ | refine s_B ?_ | refine s_and ?_ | refine s_or ?_ | refine s_not ?_ | refine s_andV ?_)
local macro_rules | `(tactic| walk_at "z") => `(tactic| with_reducible first | refine s_op ?_ | refine s_un ?_ | refine s_cb ?_ | refine s_cons ?_ | refine s_nil ?_ | refine s_star ?_)
local macro_rules | `(tactic| walk_at "z") => `(tactic| ((with_reducible refine s_var (v := ?v1) ?h1 ?q1); (case h1 => exact rfl)))
local macro_rules | `(tactic| walk_at "z") => `(tactic| with_reducible refine s_c ?_)
local macro_rules | `(tactic| walk_at "z") => `(tactic| with_reducible first | refine s_drop ?_ | refine s_next ?_ | refine s_cont ?_ | refine s_break ?_ | refine s_par ?_ | refine s_par2 ?_)
local macro_rules | `(tactic| walk_at "z") => `(tactic| with_reducible first | refine s_seq ?_ | refine s_asg ?_ | refine s_gname ?_ | refine s_ret ?_ | refine s_retN ?_ | refine s_ifS ?_)
local macro_rules | `(tactic| walk_at "zi") => `(tactic| ((with_reducible refine ite_t ?h1 ?q1); (case h1 => rfl)))
local macro_rules | `(tactic| walk_at "zi") => `(tactic| ((with_reducible refine ite_f ?h1 ?q1); (case h1 => rfl)))
local macro_rules | `(tactic| walk_at "zi") => `(tactic| walk_at "z")
local macro_rules | `(tactic| walk_at "zn") => `(tactic| (intro p hp; generalize eH : upd _ p _ = H2; have s2 := newS hp eH; have e2 := newE eH; clear eH))
local macro_rules | `(tactic| walk_at "zt") => `(tactic| ((with_reducible refine And.intro ?h1 ?_); (case h1 => exact Nat.le_of_ble_eq_true rfl); intro p hp; generalize eH : upd _ p _ = H2; have s2 := newS hp eH; have e2 := newE eH; clear eH))
local macro_rules | `(tactic| walk_at "hl") => `(tactic| ((with_reducible apply ev_same); (· assumption); · walk_at "hl"))
local macro_rules | `(tactic| walk_at "hl") => `(tactic| ((with_reducible apply mst_same); (· assumption); · walk_at "hl"))
local macro_rules | `(tactic| walk_at "hl") => `(tactic| ((with_reducible apply plm_same); (· assumption); · walk_at "hl"))
local macro_rules | `(tactic| walk_at "hl") => `(tactic| ((with_reducible apply md_same); (· assumption); · walk_at "hl"))
local macro_rules | `(tactic| walk_at "hl") => `(tactic| ((with_reducible apply row_same); (· assumption); · walk_at "hl"))
local macro_rules | `(tactic| walk_at "hl") => `(tactic| ((with_reducible apply sg_same); (· assumption); · walk_at "hl"))
local macro_rules | `(tactic| walk_at "hl") => `(tactic| ((with_reducible apply cst_same); (· assumption); · walk_at "hl"))
local macro_rules | `(tactic| walk_at "hl") => `(tactic| ((with_reducible apply co_same); (· assumption); · walk_at "hl"))
local macro_rules | `(tactic| walk_at "hl") => `(tactic| ((with_reducible apply bd_same); (· assumption); · walk_at "hl"))
local macro_rules | `(tactic| walk_at "hl") => `(tactic| ((with_reducible apply pl_same); (· assumption); · walk_at "hl"))
local macro_rules | `(tactic| walk_at "hl") => `(tactic| ((with_reducible apply dpA_same); (· assumption); · walk_at "hl"))
local macro_rules | `(tactic| walk_at "hl") => `(tactic| ((with_reducible apply dp_same); (· assumption); · walk_at "hl"))
local macro_rules | `(tactic| walk_at "hl") => `(tactic| ((with_reducible apply SqL.of); · walk_at "hl"))
local macro_rules | `(tactic| walk_at "hl") => `(tactic| ((with_reducible apply SqT.of); · walk_at "hl"))
local macro_rules | `(tactic| walk_at "hl") => `(tactic| ((with_reducible apply sqL_same); (· assumption); · walk_at "hl"))
local macro_rules | `(tactic| walk_at "hl") => `(tactic| ((with_reducible apply sqT_same); (· assumption); · walk_at "hl"))
local macro_rules | `(tactic| walk_at "hl") => `(tactic| ((with_reducible apply at_same); (· assumption); · walk_at "hl"))
local macro_rules | `(tactic| walk_at "hl") => `(tactic| assumption)
local macro_rules | `(tactic| walk_at "lk") => `(tactic| with_reducible first | exact bdF_jo | exact sgF_plan | exact sgF_board | exact sgF_core | exact sgF_time | exact sgF_sums | exact coF_plan | exact coF_fr | exact coF_lim | exact coF_jo)
local macro_rules | `(tactic| walk_at "lk") => `(tactic| with_reducible first | exact plF_lr | exact plF_wr | exact plF_rn | exact plF_wn | exact bdF_plan | exact bdF_sh | exact bdF_wa | exact bdF_hi | exact bdF_ta | exact bdF_ra)
local macro_rules | `(tactic| walk_at "mk") => `(tactic| with_reducible first | exact mk_jn | exact mk_ln | exact mk_wk)
local macro_rules | `(tactic| walk_at "mk") => `(tactic| with_reducible first | exact mk_ca | exact mk_ed | exact mk_hi | exact mk_up | exact mk_sh | exact mk_bar | exact mk_jo | exact mk_now | exact mk_lg | exact mk_sp)
local macro_rules | `(tactic| walk_at "cl") => `(tactic| with_reducible first | exact Txt.cl_InvalidSetup (by assumption) | exact Txt.cl_UnknownLine (by assumption) | exact Txt.cl_Setup (by assumption))
local macro_rules | `(tactic| walk_at "na") => `(tactic| with_reducible first | exact Txt.n_InvalidSetup_part (by assumption) | exact Txt.n_InvalidSetup_index (by assumption) | exact Txt.n_UnknownLine_line (by assumption) | exact Txt.n_Setup_line_rows (by assumption) | exact Txt.n_Setup_work_rows (by assumption) | exact Txt.n_Setup_rows_by_name (by assumption) | exact Txt.n_Setup_works_by_name (by assumption))
local macro_rules | `(tactic| walk_at "zz") => `(tactic| walk_at "zt")
local macro_rules | `(tactic| walk_at "zz") => `(tactic| ((with_reducible apply s_dgS); (· walk_at "hl"); (· walk_at "mk")))
local macro_rules | `(tactic| walk_at "zz") => `(tactic| ((with_reducible apply s_ixL); (· walk_at "hl"); (· with_reducible first | exact at0 | exact at1 | exact at2 | exact at3 | exact at4)))
local macro_rules | `(tactic| walk_at "zz") => `(tactic| ((with_reducible apply s_ixT); (· walk_at "hl"); (· with_reducible first | exact at0 | exact at1 | exact at2 | exact at3 | exact at4)))
local macro_rules | `(tactic| walk_at "zz") => `(tactic| ((with_reducible apply s_propat); (· walk_at "hl")))
local macro_rules | `(tactic| walk_at "zz") => `(tactic| ((with_reducible apply s_methat); (· walk_at "hl"); (· kernel_rfl)))
local macro_rules | `(tactic| walk_at "zz") => `(tactic| ((with_reducible apply s_fldat); (· walk_at "hl"); (· walk_at "cl"); (· walk_at "na"); (· walk_at "lk")))
local macro_rules | `(tactic| walk_at "zz") => `(tactic| walk_at "zi")
local macro_rules | `(tactic| walk_at "orz") => `(tactic| walk_at "zt")
local macro_rules | `(tactic| walk_at "orz") => `(tactic| ((with_reducible apply s_dgS); (· walk_at "hl"); (· walk_at "mk")))
local macro_rules | `(tactic| walk_at "orz") => `(tactic| ((with_reducible apply s_ixL); (· walk_at "hl"); (· with_reducible first | exact at0 | exact at1 | exact at2 | exact at3 | exact at4)))
local macro_rules | `(tactic| walk_at "orz") => `(tactic| ((with_reducible apply s_ixT); (· walk_at "hl"); (· with_reducible first | exact at0 | exact at1 | exact at2 | exact at3 | exact at4)))
local macro_rules | `(tactic| walk_at "orz") => `(tactic| ((with_reducible apply s_propat); (· walk_at "hl")))
local macro_rules | `(tactic| walk_at "orz") => `(tactic| ((with_reducible apply s_methat); (· walk_at "hl"); (· kernel_rfl)))
local macro_rules | `(tactic| walk_at "orz") => `(tactic| ((with_reducible apply s_fldat); (· walk_at "hl"); (· walk_at "cl"); (· walk_at "na"); (· walk_at "lk")))
local macro_rules | `(tactic| walk_at "orz") => `(tactic| ((with_reducible apply ite_t); (· rfl)))
local macro_rules | `(tactic| walk_at "orz") => `(tactic| ((with_reducible apply ite_f); (· rfl)))
local macro_rules | `(tactic| walk_at "orz") => `(tactic| with_reducible first | refine ⟨_, _, rfl, rfl, ?_⟩ | refine ⟨_, rfl, ?_⟩)
local macro_rules | `(tactic| walk_at "orz") => `(tactic| ((with_reducible apply s_isi); (· assumption); (· decide)))
local macro_rules | `(tactic| walk_at "orz") => `(tactic| with_reducible first | refine s_tup ?_ | refine s_lst ?_)
local macro_rules | `(tactic| walk_at "orz") => `(tactic| ((with_reducible apply s_ne); (· exact rfl)))
local macro_rules | `(tactic| walk_at "orz") => `(tactic| ((with_reducible apply s_eq); (· exact rfl)))
local macro_rules | `(tactic| walk_at "orz") => `(tactic| with_reducible first | refine s_lcE ?_ | refine s_lc ?_ | refine s_dcT ?_ | refine s_cvalg ?_ | refine s_I0 ?_ | refine s_U ?_)
local macro_rules | `(tactic| walk_at "orz") => `(tactic| with_reducible first | refine Or.inl (Exists.intro _ (And.intro rfl ?_)) | refine Or.inr (Exists.intro _ (And.intro rfl ?_)) | refine s_make ?_ | refine s_sl ?_ | refine s_nop ?_ | refine s_part ?_)
local macro_rules | `(tactic| walk_at "orz") => `(tactic| with_reducible first | refine s_lcL ?_ | refine s_dputg ?_ | refine s_for ?_ | refine s_rng1 ?_ | refine s_iT ?_ | refine s_iL ?_)
local macro_rules | `(tactic| walk_at "orz") => `(tactic| with_reducible first | refine s_daugg ?_ | refine s_disp ?_ | refine s_gsub ?_ | refine s_fldaug ?_ | refine s_ipI ?_ | refine s_ixO ?_)
local macro_rules | `(tactic| walk_at "orz") => `(tactic| with_reducible first | refine s_chain ?_ | refine s_yes ?_ | refine s_din ?_ | refine s_dnin ?_ | refine s_bm0 ?_ | refine s_lcT ?_)
local macro_rules | `(tactic| walk_at "orz") => `(tactic| with_reducible first | refine s_un ?_ | refine s_star ?_ | refine s_and ?_ | refine s_or ?_ | refine s_orV ?_ | refine s_notV ?_)
local macro_rules | `(tactic| walk_at "orz") => `(tactic| with_reducible first | refine s_augS ?_ | refine s_retN ?_ | refine s_cont ?_ | refine s_break ?_ | refine s_par ?_ | refine s_par2 ?_)
local macro_rules | `(tactic| walk_at "orz") => `(tactic| with_reducible first | refine s_andV ?_ | refine s_add ?_ | refine s_prop ?_ | refine s_pnil ?_ | refine s_cb ?_ | refine s_not ?_)
local macro_rules | `(tactic| walk_at "orz") => `(tactic| with_reducible first | refine s_call ?_ | refine s_pcons ?_ | refine s_bm ?_ | refine s_if ?_ | refine s_gcons ?_ | refine s_gnil ?_)
local macro_rules | `(tactic| walk_at "orz") => `(tactic| with_reducible first | refine s_next ?_ | refine s_gname ?_ | refine s_drop ?_ | refine s_meth ?_ | refine s_fldS ?_ | refine s_asg ?_)
local macro_rules | `(tactic| walk_at "orz") => `(tactic| with_reducible first | refine s_fldg ?_ | refine s_ifS ?_ | refine s_dget ?_ | refine s_ret ?_ | refine s_B ?_ | refine s_test ?_)
local macro_rules | `(tactic| walk_at "orz") => `(tactic| with_reducible first | refine s_cons ?_ | refine s_c ?_ | refine s_nil ?_ | refine s_seq ?_ | refine s_op ?_ | refine s_bl ?_)
local macro_rules | `(tactic| walk_at "orz") => `(tactic| ((with_reducible apply s_var); (· exact rfl)))
local macro_rules | `(tactic| walk_at "rz") => `(tactic| repeat walk_at "orz")
local macro_rules | `(tactic| walk_at "zm") => `(tactic| (intro x dx hx hdx hne; generalize eH : upd (upd _ dx _) x _ = H2; have s2 := mkS hx hdx eH; have e2 := mkE eH; clear eH hdx hne))
local macro_rules | `(tactic| walk_at "zb") => `(tactic| with_reducible first | refine s_gcons ?_ | refine s_gnil ?_ | refine s_gname ?_ | refine s_seq ?_ | refine s_ifS ?_ | refine s_if ?_ | refine s_next ?_ | refine s_drop ?_ | refine s_ret ?_ | refine s_asg ?_)
def spTaken (K : Fg) : Sp := fun vs H Q _ => ∃ r sc ns many, vs = [.ref r, .int many] ∧ RowAt K H r sc ns ∧ 0 < many ∧ many < 1000000 ∧ ∀ n H', 0 ≤ n → n < many → Fr [r] H H' → RowAt K H' r sc ns → Q (.int n) H'
section
variable {P : Program} {w : World} {K : Fg} {mg : Str → Option Value} {base : Heap}
theorem ok_w_taken (T : Txt K mg) : FnOk P w K mg base (L2.CX P w) 1 (ga K "_law_taken") (fdOf K (ga K "_law_taken")) ["_law_row", "_law_many"] (spTaken K) := by
  refine FunD.ok T.F_w_taken sc_w_taken (fun vs H Q E h => ?_) (fun cdv A outer s H vs Q E hr h => ⟨_, PSs.nox (pss_cons (ps_if (pt_cmpR op_gt (pe_ix (ix_listK K) (pv 0) pe_int (fun _ _ => rfl)) pe_int (nomark _)) (pss_cons (zset 2 sc_w_taken.nd (pe_op op_mod (pe_callTy call_int1 (by rfl) T.u_int (by decide +kernel) (pa_cons (pe_ix (ix_listK K) (pv 0) pe_int (fun _ _ => rfl)) pa_nil)) (pv 1)))
      (pss_cons (ps_asg (pe_op op_fdiv (pe_ix (ix_listK K) (pv 0) pe_int (fun _ _ => rfl)) (pv 1)) (pg_sub (pv 0) pe_int set_list))
      (pss_one (ps_ret (pv 2))))) pss_nil)
      (pss_cons (ps_asg (pe_op op_add (pe_ix (ix_listK K) (pv 0) pe_int (fun _ _ => rfl)) pe_int) (pg_sub (pv 0) pe_int set_list))
      (pss_cons (ps_if (pt_cmpR op_gt (pe_ix (ix_listK K) (pv 0) pe_int (fun _ _ => rfl)) (pe_callB (call_lenK K) (by rfl) T.u_len (by decide +kernel) (pa_cons (pe_ix (ix_listK K) (pv 0) pe_int (fun _ _ => rfl)) pa_nil)) (nomark _)) (pss_cons (ps_asg (pe_op op_mod (pe_callTy call_int1 (by rfl) T.u_int (by decide +kernel) (pa_cons (pe_op op_add (pe_op op_mul (pe_ix (ix_listK K) (pv 0) pe_int (fun _ _ => rfl)) pe_int) pe_int) pa_nil)) pe_int) (pg_sub (pv 0) pe_int set_list))
      (pss_one (ps_ret (pe_op op_mod (pe_callTy call_int1 (by rfl) T.u_int (by decide +kernel) (pa_cons (pe_op op_fdiv (pe_ix (ix_listK K) (pv 0) pe_int (fun _ _ => rfl)) pe_int) pa_nil)) (pv 1))))) pss_nil)
      (pss_cons (zset 3 sc_w_taken.nd (pe_ix (ix_listK K) (pe_ix (ix_listK K) (pv 0) pe_int (fun _ _ => rfl)) (pe_op op_sub (pe_ix (ix_listK K) (pv 0) pe_int (fun _ _ => rfl)) pe_int) (fun _ _ => rfl)))
      (pss_cons (ps_asg (pe_op op_mod (pe_callTy call_int1 (by rfl) T.u_int (by decide +kernel) (pa_cons (pe_op op_add (pe_op op_add (pe_op op_mul (pe_ix (ix_listK K) (pv 0) pe_int (fun _ _ => rfl)) pe_int) (pv 3)) pe_int) pa_nil)) pe_int) (pg_sub (pv 0) pe_int set_list))
      (pss_cons (ps_if (pt_cmpR op_ge (pv 3) (pe_op op_pow pe_int pe_int) (nomark _)) (pss_one (ps_asg (pe_op op_fdiv (pv 3) (pv 1)) (pg_sub (pv 0) pe_int set_list))) pss_nil)
      (pss_one (ps_ret (pe_op op_mod (pe_callTy call_int1 (by rfl) T.u_int (by decide +kernel) (pa_cons (pv 3) pa_nil)) (pv 1)))))))))), ?_⟩)
  · obtain ⟨r, sc, ns, many, rfl, _⟩ := h
    rfl
  obtain ⟨r, sc, ns, many, rfl, hrow, hm0, hm1, q⟩ := h
  show (_ : TS) _ [some (.ref r), some (.int many), none, none] H
  try dsimp only [cxOf]
  obtain ⟨i, seed, rest, er, hi, hs0, hs1⟩ := hrow.row
  have hL : SqL K H r [.ref sc, .int i, .int seed, .int rest] := SqL.of er
  have hsc := hrow.scr
  have hne := hrow.ne
  walk_at "rz"
  refine ite_b (fun h => ?_) (fun h => ?_)
  · walk_at "rz"
    refine s_I hm0 ?_
    walk_at "rz"
    refine s_I ⟨hm0, by omega⟩ ?_
    walk_at "rz"
    refine s_setL er (j := 3) rfl ?_
    walk_at "rz"
    refine q _ _ (Int.emod_nonneg _ (by omega)) (Int.emod_lt_of_pos _ hm0) (Fr.upd (by simp) er rfl) ⟨⟨i, seed, rest / many, upd_same, hi, hs0, hs1⟩, (Fr.upd (A := [r]) (by simp) er rfl).scr hsc hne, hne⟩
  · have f1 : ∀ o, Fr [r] H (upd H r o) := fun o => Fr.upd (by simp) er rfl
    walk_at "rz"
    refine s_setL er (j := 1) rfl ?_
    show (_ : L2.St → Hp → Prop) _ (upd H r (.lst [.ref sc, .int (i + 1), .int seed, .int rest]))
    have f1 : Fr [r] H (upd H r (.lst [.ref sc, .int (i + 1), .int seed, .int rest])) := Fr.upd (by simp) er rfl
    have er1 : upd H r (.lst [.ref sc, .int (i + 1), .int seed, .int rest]) r = some (.lst [.ref sc, .int (i + 1), .int seed, .int rest]) := upd_same
    generalize upd H r (.lst [.ref sc, .int (i + 1), .int seed, .int rest]) = H1 at *
    have hL1 : SqL K H1 r [.ref sc, .int (i + 1), .int seed, .int rest] := SqL.of er1
    have hsc1 := f1.scr hsc hne
    walk_at "rz"
    refine s_lenL hsc1 ?_
    rw [List.length_map]
    walk_at "rz"
    refine ite_b (fun h => ?_) (fun h => ?_)
    · walk_at "rz"
      refine s_I (.inl ⟨by omega, by omega⟩) ?_
      walk_at "rz"
      refine s_I (by decide) ?_
      walk_at "rz"
      refine s_setL er1 (j := 2) rfl ?_
      show (_ : L2.St → Hp → Prop) _ (upd H1 r (.lst [.ref sc, .int (i + 1), .int ((seed * 48271 + 11) % 2147483647), .int rest]))
      have f2 : Fr [r] H1 (upd H1 r (.lst [.ref sc, .int (i + 1), .int ((seed * 48271 + 11) % 2147483647), .int rest])) := Fr.upd (by simp) er1 rfl
      have er2 : upd H1 r (.lst [.ref sc, .int (i + 1), .int ((seed * 48271 + 11) % 2147483647), .int rest]) r = some (.lst [.ref sc, .int (i + 1), .int ((seed * 48271 + 11) % 2147483647), .int rest]) := upd_same
      generalize upd H1 r (.lst [.ref sc, .int (i + 1), .int ((seed * 48271 + 11) % 2147483647), .int rest]) = H2 at *
      have hL2 : SqL K H2 r [.ref sc, .int (i + 1), .int ((seed * 48271 + 11) % 2147483647), .int rest] := SqL.of er2
      walk_at "rz"
      refine s_I ⟨by decide, by decide⟩ ?_
      walk_at "rz"
      refine s_I hm0 ?_
      exact q _ _ (Int.emod_nonneg _ (by omega)) (Int.emod_lt_of_pos _ hm0) (f1.trans f2) ⟨⟨_, _, _, er2, by omega, Int.emod_nonneg _ (by omega), Int.emod_lt_of_pos _ (by omega)⟩, f2.scr hsc1 hne, hne⟩
    · have hlt : i.toNat < ns.length := by
        have := of_decide_eq_false h
        omega
      obtain ⟨cell, hcell⟩ : ∃ c, ns[i.toNat]? = some c := ⟨_, List.getElem?_eq_getElem hlt⟩
      walk_at "rz"
      refine s_ixL hsc1 (v := .int cell) (at_of (j := i.toNat) (by omega) (by rw [List.getElem?_map, hcell]; rfl)) ?_
      walk_at "rz"
      refine s_I (.inl ⟨by omega, by omega⟩) ?_
      walk_at "rz"
      refine s_I (by decide) ?_
      walk_at "rz"
      refine s_setL er1 (j := 2) rfl ?_
      show (_ : L2.St → Hp → Prop) _ (upd H1 r (.lst [.ref sc, .int (i + 1), .int ((seed * 48271 + cell + 11) % 2147483647), .int rest]))
      have f2 : Fr [r] H1 (upd H1 r (.lst [.ref sc, .int (i + 1), .int ((seed * 48271 + cell + 11) % 2147483647), .int rest])) := Fr.upd (by simp) er1 rfl
      have er2 : upd H1 r (.lst [.ref sc, .int (i + 1), .int ((seed * 48271 + cell + 11) % 2147483647), .int rest]) r = some (.lst [.ref sc, .int (i + 1), .int ((seed * 48271 + cell + 11) % 2147483647), .int rest]) := upd_same
      generalize upd H1 r (.lst [.ref sc, .int (i + 1), .int ((seed * 48271 + cell + 11) % 2147483647), .int rest]) = H2 at *
      have f12 := f1.trans f2
      have hsc2 := f2.scr hsc1 hne
      have fin : ∀ (H3 : Hp) (x y z : Int), Fr [r] H H3 → SqL K H3 sc (ns.map V.int) → H3 r = some (.lst [.ref sc, .int x, .int y, .int z]) → 0 ≤ x → 0 ≤ y → y < 2147483647 → Q (.int (cell % many)) H3 := fun H3 x y z f hs he h1 h2 h3 =>
        q _ _ (Int.emod_nonneg _ (by omega)) (Int.emod_lt_of_pos _ hm0) f ⟨⟨_, _, _, he, h1, h2, h3⟩, hs, hne⟩
      walk_at "rz"
      refine s_I ⟨by decide, by decide, by decide⟩ ?_
      walk_at "rz"
      refine ite_b (fun h => ?_) (fun h => ?_)
      · walk_at "rz"
        refine s_I ⟨hm0, by omega⟩ ?_
        walk_at "rz"
        refine s_setL er2 (j := 3) rfl ?_
        walk_at "rz"
        refine s_I hm0 ?_
        have f3 : ∀ o, Fr [r] H2 (upd H2 r o) := fun o => Fr.upd (by simp) er2 rfl
        exact fin _ (i + 1) ((seed * 48271 + cell + 11) % 2147483647) (cell / many) (f12.trans (f3 _)) ((f3 _).scr hsc2 hne) upd_same (by omega) (Int.emod_nonneg _ (by omega)) (Int.emod_lt_of_pos _ (by omega))
      · walk_at "rz"
        refine s_I hm0 ?_
        exact fin H2 _ _ _ f12 hsc2 er2 (by omega) (Int.emod_nonneg _ (by omega)) (Int.emod_lt_of_pos _ (by omega))
end
set_option maxHeartbeats 4000000
open PySem PySem.Spec PyProof.Rows L2 Z
open He (ga ma)
def spMixed (K : Fg) : Sp := fun vs H Q _ => ∃ r sc ns a, ∃ xs : List V, vs = [.ref r, .ref a] ∧ RowAt K H r sc ns ∧ (SqL K H a xs ∨ SqT K H a xs) ∧ xs.length ≤ 100 ∧ ∀ H' p ys, Fr [r] H H' → RowAt K H' r sc ns → H p = none → H' p = some (.lst ys) → ys.Perm xs → Q (.ref p) H'
section
variable {P : Program} {w : World} {K : Fg} {mg : Str → Option Value} {base : Heap}
theorem ok_w_mixed (T : Txt K mg) : FnOk P w K mg base (L2.CX P w) 4 (ga K "_law_mixed") (fdOf K (ga K "_law_mixed")) ["_law_row", "_law_things"] (spMixed K) := by
  refine FunD.ok T.F_w_mixed sc_w_mixed (fun vs H Q E h => ?_) (fun cdv A outer s H vs Q E hr h => ⟨_, PSs.nox (pss_cons (ps_par (by rfl) sc_w_mixed.nd (i := 2) (j := 3) rfl rfl (by decide) rfl rfl (pa_cons (pe_callTy call_list_of (by rfl) T.u_list (by decide +kernel) (pa_cons (pv 1) pa_nil)) (pa_cons (pe_lst pa_nil) pa_nil)) (by rfl))
      (pss_cons (ps_while PassesOwn.never (pt_cmpR (op_ne0K K hr.units) (pv 2) (pe_lst pa_nil) (nomark _))
      (pss_one (ps_expr (kBM K (pe_bm PySem.F.plainAttrs_list PySem.F.slot_list_append PySem.F.type_list_append mt_append (pv 3) (pa_cons (kBM K (pe_bm PySem.F.plainAttrs_list PySem.F.slot_list_pop PySem.F.type_list_pop mt_popAt (pv 2) (pa_cons (z_call (ok_w_taken T) T.c_w_taken (hr.mono (by decide)) rfl T.g_w_taken passL (pa_cons (pv 0) (pa_cons (pe_callB (call_lenK K) (by rfl) T.u_len (by decide +kernel) (pa_cons (pv 2) pa_nil)) pa_nil))) pa_nil))) pa_nil))))))
      (pss_one (ps_ret (pv 3))))), ?_⟩)
  · obtain ⟨r, sc, ns, a, xs, rfl, _⟩ := h
    rfl
  obtain ⟨r, sc, ns, a, xs, rfl, hrow, ha, l100, q⟩ := h
  show (_ : TS) _ [some (.ref r), some (.ref a), none, none] H
  try dsimp only [cxOf]
  walk_at "rz"
  refine ⟨a, xs, rfl, ha, fun l hl => ?_⟩
  generalize eH : upd H l _ = H1
  have s1 := newS hl eH
  have e1 := newE eH
  clear eH
  walk_at "rz"
  rename_i f hf H2 s2 e2
  have row2 := (hrow.same s1).same s2
  have hlr : l ≠ r := fun e => hrow.ex (by rw [← e]; exact hl)
  have hfr : f ≠ r := fun e => hrow.ex (by rw [← e]; exact s1.fr.back (A := []) hf)
  have hfl : f ≠ l := fun e => by rw [e, e1] at hf; cases hf
  have hf0 : H f = none := s1.fr.back (A := []) hf
  refine while_e (fun σ H3 => ∃ ys, σ = [some (.ref r), some (.ref a), some (.ref l), some (.ref f)] ∧ Fr [r] H H3 ∧ RowAt K H3 r sc ns ∧ H3 f = some (.lst ys) ∧ ys.Perm xs) ?rest (fun hx => ?loop)
  case rest =>
    rintro σ H3 ⟨ys, rfl, f3, row3, e3, p3⟩
    walk_at "rz"
    exact q _ _ _ f3 row3 hf0 e3 p3
  refine ⟨fun m σ H3 => ∃ zs ys, σ = [some (.ref r), some (.ref a), some (.ref l), some (.ref f)] ∧ Fr [r] H H3 ∧ RowAt K H3 r sc ns ∧ H3 l = some (.lst zs) ∧ H3 f = some (.lst ys) ∧ (ys ++ zs).Perm xs ∧ m = zs.length,
    ⟨_, xs, [], rfl, s1.fr.trans s2.fr, row2, s2 _ _ e1, e2, .refl _, rfl⟩, ?_⟩
  rintro m σ H3 ⟨zs, ys, rfl, f3, row3, el, ef, pm, rfl⟩
  have plen := pm.length_eq
  rw [List.length_append] at plen
  walk_at "rz"
  rename_i p4 hp4 H4 s4 e4
  refine s_eq0L (SqL.of (s4 _ _ el)) (SqL.of e4) ?_
  have row4 := row3.same s4
  have f4 : Fr [r] H H4 := f3.trans s4.fr
  have el4 := s4 _ _ el
  have ef4 := s4 _ _ ef
  clear e4
  cases zs with
  | nil =>
    refine ⟨false, rfl, ?_⟩
    rw [if_neg (by simp)]
    rw [List.append_nil] at pm
    exact hx _ _ ⟨ys, rfl, f4, row4, ef4, pm⟩
  | cons z zs =>
    refine ⟨true, rfl, ?_⟩
    rw [if_pos rfl]
    refine ⟨_, fun σ' H' n => n, ?_⟩
    walk_at "rz"
    refine s_tyL ef4 ?_
    walk_at "rz"
    refine s_tyL el4 ?_
    walk_at "rz"
    refine s_lenL (SqL.of el4) ?_
    walk_at "rz"
    refine ⟨r, sc, ns, _, rfl, row4, by simp only [List.length_cons]; omega, by simp only [List.length_cons] at plen ⊢; omega, fun n H5 n0 n1 f5 row5 => ?_⟩
    have el5 := f5.at el4 (by simp [hlr])
    have ef5 := f5.at ef4 (by simp [hfr])
    obtain ⟨k, rfl⟩ := Int.eq_ofNat_of_zero_le n0
    have hk : k < (z :: zs).length := by omega
    obtain ⟨j, h1, h2, h3⟩ := atI_get (atI_nat (xs := z :: zs) (List.getElem?_eq_getElem hk))
    walk_at "rz"
    refine ⟨l, z :: zs, k, j, _, rfl, rfl, el5, by omega, by simp only [List.length_cons] at plen hk; omega, h1, h2, ?_⟩
    generalize (z :: zs)[k] = y at h2
    generalize eH : upd H5 l _ = H6
    have f6 : Fr [l] H5 H6 := by rw [← eH]; exact Fr.upd (by simp) el5 rfl
    have el6 := newE eH
    clear eH
    have ef6 := f6.at ef5 (by simp [hfl])
    walk_at "rz"
    refine s_append ef6 (by rw [sizeLine_eq]; omega) ?_
    generalize eH : upd H6 f _ = H7
    have f7 : Fr [f] H6 H7 := by rw [← eH]; exact Fr.upd (by simp) ef6 rfl
    have ef7 := newE eH
    clear eH
    have el7 := f7.at el6 (by simp [Ne.symm hfl])
    walk_at "rz"
    refine ⟨_, ?_, (z :: zs).eraseIdx j, ys ++ [y], rfl, ((f4.trans f5).seq f6 (by simp [hl])).seq f7 (by simp [hf0]), hrow.kept (hrow.kept row5 f6 (by simp [hl])) f7 (by simp [hf0]), el7, ef7, ?_, rfl⟩
    · rw [List.length_eraseIdx_of_lt h3.1]
      omega
    · refine List.Perm.trans ?_ pm
      rw [List.append_assoc]
      refine List.Perm.append_left ys ?_
      exact perm_erase h2
end
set_option maxHeartbeats 4000000
open PySem PySem.Spec PyProof.Rows L2 Z
open He (ga ma)
def spMStep (K : Fg) : Sp := fun vs H Q _ => ∃ r sc ns nl ll wl, ∃ names levels works : List Str, ∃ nk : NK, vs = [.ref r, .ref nl, .ref ll, .ref wl] ∧ RowAt K H r sc ns ∧ H nl = some (.lst (names.map V.str)) ∧ H ll = some (.lst (levels.map V.str)) ∧ H wl = some (.lst (works.map V.str)) ∧ nl ≠ r ∧ ll ≠ r ∧ wl ≠ r ∧ names ≠ [] ∧ names.length ≤ 12 ∧ levels.length ≤ 12 ∧ works.length ≤ 12 ∧ (∀ z ∈ names, z ∈ nk.map (·.1)) ∧ (∀ z ∈ levels, (z, ("level" : Str)) ∈ nk) ∧ ∀ t s H', Fr [r] H H' → RowAt K H' r sc ns → FitSt nk works s → Dp K H' (.ref t) (dSt s) → Q (.ref t) H'
section
variable {P : Program} {w : World} {K : Fg} {mg : Str → Option Value} {base : Heap}
theorem ok_w_step (T : Txt K mg) : FnOk P w K mg base (L2.CX P w) 4 (ga K "_law_step") (fdOf K (ga K "_law_step")) ["_law_row", "_law_names", "_law_levels", "_law_works"] (spMStep K) := by
  refine FunD.ok T.F_w_step sc_w_step (fun vs H Q E h => ?_) (fun cdv A outer s H vs Q E hr h => ⟨_, PSs.nox (pss_cons (zset 4 sc_w_step.nd (pe_lst (pa_cons pe_str (pa_cons pe_str (pa_cons pe_str (pa_cons pe_str (pa_cons pe_str (pa_cons pe_str (pa_cons pe_str (pa_cons pe_str (pa_cons pe_str (pa_cons pe_str (pa_cons pe_str (pa_cons pe_str pa_nil))))))))))))))
      (pss_cons (zset 4 sc_w_step.nd (pe_ix (ix_listK K) (pv 4) (z_call (ok_w_taken T) T.c_w_taken (hr.mono (by decide)) rfl T.g_w_taken passL (pa_cons (pv 0) (pa_cons pe_int pa_nil))) (fun _ _ => rfl)))
      (pss_cons (ps_if (PW.pt (pw_and (pt_cmpR op_eq (pv 4) pe_str (nomark _)) (pw_and1 (pt_cmpR (op_ne0K K hr.units) (pv 3) (pe_lst pa_nil) (nomark _))))) (pss_one (ps_ret (pe_tup (pa_cons (pv 4) (pa_cons (pe_ix (ix_listK K) (pv 3) (z_call (ok_w_taken T) T.c_w_taken (hr.mono (by decide)) rfl T.g_w_taken passL (pa_cons (pv 0) (pa_cons (pe_callB (call_lenK K) (by rfl) T.u_len (by decide +kernel) (pa_cons (pv 3) pa_nil)) pa_nil))) (fun _ _ => rfl)) pa_nil))))) pss_nil)
      (pss_cons (ps_if (PW.pt (pw_and (pt_cmpR op_eq (pv 4) pe_str (nomark _)) (pw_and1 (pt_cmpR (op_ne0K K hr.units) (pv 2) (pe_lst pa_nil) (nomark _))))) (pss_one (ps_ret (pe_tup (pa_cons (pv 4) (pa_cons (pe_ix (ix_listK K) (pv 2) (z_call (ok_w_taken T) T.c_w_taken (hr.mono (by decide)) rfl T.g_w_taken passL (pa_cons (pv 0) (pa_cons (pe_callB (call_lenK K) (by rfl) T.u_len (by decide +kernel) (pa_cons (pv 2) pa_nil)) pa_nil))) (fun _ _ => rfl)) pa_nil))))) pss_nil)
      (pss_cons (ps_if (pt_cmpR (op_in_seqK K) (pv 4) (pe_tup (pa_cons pe_str (pa_cons pe_str (pa_cons pe_str pa_nil)))) (by rfl)) (pss_one (ps_ret (pe_tup (pa_cons (pv 4) (pa_cons (pe_ix (ix_listK K) (pv 1) (z_call (ok_w_taken T) T.c_w_taken (hr.mono (by decide)) rfl T.g_w_taken passL (pa_cons (pv 0) (pa_cons (pe_callB (call_lenK K) (by rfl) T.u_len (by decide +kernel) (pa_cons (pv 1) pa_nil)) pa_nil))) (fun _ _ => rfl)) pa_nil))))) pss_nil)
      (pss_cons (ps_if (pt_cmpR (op_in_seqK K) (pv 4) (pe_tup (pa_cons pe_str (pa_cons pe_str (pa_cons pe_str pa_nil)))) (by rfl)) (pss_one (ps_ret (pe_tup (pa_cons (pv 4) (pa_cons (z_call (ok_w_taken T) T.c_w_taken (hr.mono (by decide)) rfl T.g_w_taken passL (pa_cons (pv 0) (pa_cons pe_int pa_nil))) pa_nil))))) pss_nil)
      (pss_one (ps_ret (pe_ifExp (pt_cmpR op_eq (pv 4) pe_str (nomark _)) (pe_tup (pa_cons pe_str (pa_cons (z_call (ok_w_taken T) T.c_w_taken (hr.mono (by decide)) rfl T.g_w_taken passL (pa_cons (pv 0) (pa_cons pe_int pa_nil))) pa_nil))) (pe_tup (pa_cons pe_str (pa_cons (pe_op op_add pe_int (z_call (ok_w_taken T) T.c_w_taken (hr.mono (by decide)) rfl T.g_w_taken passL (pa_cons (pv 0) (pa_cons pe_int pa_nil)))) pa_nil)))))))))))), ?_⟩)
  · obtain ⟨r, sc, ns, nl, ll, wl, names, levels, works, nk, rfl, _⟩ := h
    rfl
  obtain ⟨r, sc, ns, nl, ll, wl, names, levels, works, nk, rfl, hrow, hn, hl, hw, nr, lr, wr, nne, n12, l12, w12, nin, lin, q⟩ := h
  show (_ : TS) _ [some (.ref r), some (.ref nl), some (.ref ll), some (.ref wl), none] H
  try dsimp only [cxOf]
  have nr' : nl ∉ [r] := by simpa using nr
  have lr' : ll ∉ [r] := by simpa using lr
  have wr' : wl ∉ [r] := by simpa using wr
  walk_at "rz"
  rename_i p3 hp3 H3 s3 e3
  have row3 := hrow.same s3
  have p3r : p3 ∉ [r] := fun z => hrow.ex (by rw [← List.mem_singleton.mp z]; exact hp3)
  refine ⟨r, sc, ns, 12, rfl, row3, by omega, by omega, fun n H0 h0 h12 f4 row0 => ?_⟩
  have e4 := f4.at e3 p3r
  have n0 := f4.at (s3 _ _ hn) nr'
  have l0 := f4.at (s3 _ _ hl) lr'
  have w0 := f4.at (s3 _ _ hw) wr'
  have f0 : Fr [r] H H0 := s3.fr.trans f4
  obtain ⟨k, rfl⟩ := Int.eq_ofNat_of_zero_le h0
  have hk : k < 12 := by omega
  obtain ⟨wd, hwd, hwm⟩ : ∃ wd : Str, ((["run", "run", "run", "ring", "mask", "unmask", "set", "clear", "await", "bar", "later", "quiet"] : List Str).map V.str)[k]? = some (V.str wd) ∧ wd ∈ (["run", "ring", "mask", "unmask", "set", "clear", "await", "bar", "later", "quiet"] : List Str) := by
    have hk2 : k < (["run", "run", "run", "ring", "mask", "unmask", "set", "clear", "await", "bar", "later", "quiet"] : List Str).length := hk
    refine ⟨_, by rw [List.getElem?_map, List.getElem?_eq_getElem hk2]; rfl, ?_⟩
    have hm := List.getElem_mem hk2
    generalize (["run", "run", "run", "ring", "mask", "unmask", "set", "clear", "await", "bar", "later", "quiet"] : List Str)[k] = wd at hm
    simp only [List.mem_cons, List.not_mem_nil, or_false] at hm ⊢
    rcases hm with h | h | h | h | h | h | h | h | h | h | h | h <;> simp [h]
  refine s_ixL (SqL.of e4) (v := .str wd) (atI_nat hwd) ?_
  clear e3 e4 hwd row3 f4 s3 hn hl hw h0 h12
  have pick : ∀ {H5 : Hp} {R : VK} {a : Addr} {l : List Str}, RowAt K H5 r sc ns → a ∉ [r] → H5 a = some (.lst (l.map V.str)) → l ≠ [] → l.length ≤ 12 → (∀ z H6, z ∈ l → Fr [r] H5 H6 → RowAt K H6 r sc ns → R (.str z) H6) → spTaken K [.ref r, .int l.length] H5 (fun y H6 => rIxL K (.ref a) y H6 R) E0 := fun {H5 R a l} row ar ea lne l12 h => by
    have l0 : 0 < l.length := List.length_pos_iff.mpr lne
    refine ⟨r, sc, ns, l.length, rfl, row, by omega, by omega, fun n H6 h0 h1 f6 row6 => ?_⟩
    obtain ⟨k, rfl⟩ := Int.eq_ofNat_of_zero_le h0
    have hk : k < l.length := by omega
    exact s_ixL (SqL.of (f6.at ea ar)) (v := .str l[k]) (atI_nat (by rw [List.getElem?_map, List.getElem?_eq_getElem hk]; rfl)) (h _ _ (List.getElem_mem hk) f6 row6)
  simp only [List.mem_cons, List.not_mem_nil, or_false] at hwm
  rcases hwm with rfl | rfl | rfl | rfl | rfl | rfl | rfl | rfl | rfl | rfl
  · walk_at "rz"
    rename_i p1 hp1 H1 s1 e1
    refine s_in (.inr (SqT.of e1)) rfl rfl ?_
    rw [show (if false = true then !inV (V.str "run") _ else inV (V.str "run") _) = false by kernel_rfl]
    have row1 := row0.same s1
    have n1 := s1 _ _ n0
    have l1 := s1 _ _ l0
    have w1 := s1 _ _ w0
    have f1 : Fr [r] H H1 := f0.trans s1.fr
    walk_at "rz"
    rename_i p2 hp2 H2 s2 e2
    refine s_in (.inr (SqT.of e2)) rfl rfl ?_
    rw [show (if false = true then !inV (V.str "run") _ else inV (V.str "run") _) = false by kernel_rfl]
    have row2 := row1.same s2
    have n2 := s2 _ _ n1
    have l2 := s2 _ _ l1
    have w2 := s2 _ _ w1
    have f2 : Fr [r] H H2 := f1.trans s2.fr
    walk_at "rz"
    refine ⟨r, sc, ns, 3, rfl, row2, by omega, by omega, fun m H3 m0 m1 g3 row3 => ?_⟩
    have f3 : Fr [r] H H3 := f2.trans g3
    walk_at "rz"
    rename_i p4 hp4 H4 s4 e4
    exact q p4 (("run" : Str), (Sum.inl (1 + m) : Key)) H4 (f3.trans s4.fr) (row3.same s4) (.run (by omega) (by omega)) (.tup (SqT.of e4) (.cons (.str _) (.cons (.int _) .nil)))
  · walk_at "rz"
    rename_i p1 hp1 H1 s1 e1
    refine s_in (.inr (SqT.of e1)) rfl rfl ?_
    rw [show (if false = true then !inV (V.str "ring") _ else inV (V.str "ring") _) = true by kernel_rfl]
    have row1 := row0.same s1
    have n1 := s1 _ _ n0
    have l1 := s1 _ _ l0
    have w1 := s1 _ _ w0
    have f1 : Fr [r] H H1 := f0.trans s1.fr
    walk_at "rz"
    refine s_lenL (SqL.of n1) ?_
    rw [List.length_map]
    walk_at "rz"
    refine pick row1 nr' n1 nne n12 fun z H2 hz g2 row2 => ?_
    have f2 : Fr [r] H H2 := f1.trans g2
    walk_at "rz"
    rename_i p3 hp3 H3 s3 e3
    exact q p3 (("ring" : Str), (Sum.inr z : Key)) H3 (f2.trans s3.fr) (row2.same s3) (.line (by simp) (nin z hz)) (.tup (SqT.of e3) (.cons (.str _) (.cons (.str _) .nil)))
  · walk_at "rz"
    rename_i p1 hp1 H1 s1 e1
    refine s_in (.inr (SqT.of e1)) rfl rfl ?_
    rw [show (if false = true then !inV (V.str "mask") _ else inV (V.str "mask") _) = true by kernel_rfl]
    have row1 := row0.same s1
    have n1 := s1 _ _ n0
    have l1 := s1 _ _ l0
    have w1 := s1 _ _ w0
    have f1 : Fr [r] H H1 := f0.trans s1.fr
    walk_at "rz"
    refine s_lenL (SqL.of n1) ?_
    rw [List.length_map]
    walk_at "rz"
    refine pick row1 nr' n1 nne n12 fun z H2 hz g2 row2 => ?_
    have f2 : Fr [r] H H2 := f1.trans g2
    walk_at "rz"
    rename_i p3 hp3 H3 s3 e3
    exact q p3 (("mask" : Str), (Sum.inr z : Key)) H3 (f2.trans s3.fr) (row2.same s3) (.line (by simp) (nin z hz)) (.tup (SqT.of e3) (.cons (.str _) (.cons (.str _) .nil)))
  · walk_at "rz"
    rename_i p1 hp1 H1 s1 e1
    refine s_in (.inr (SqT.of e1)) rfl rfl ?_
    rw [show (if false = true then !inV (V.str "unmask") _ else inV (V.str "unmask") _) = true by kernel_rfl]
    have row1 := row0.same s1
    have n1 := s1 _ _ n0
    have l1 := s1 _ _ l0
    have w1 := s1 _ _ w0
    have f1 : Fr [r] H H1 := f0.trans s1.fr
    walk_at "rz"
    refine s_lenL (SqL.of n1) ?_
    rw [List.length_map]
    walk_at "rz"
    refine pick row1 nr' n1 nne n12 fun z H2 hz g2 row2 => ?_
    have f2 : Fr [r] H H2 := f1.trans g2
    walk_at "rz"
    rename_i p3 hp3 H3 s3 e3
    exact q p3 (("unmask" : Str), (Sum.inr z : Key)) H3 (f2.trans s3.fr) (row2.same s3) (.line (by simp) (nin z hz)) (.tup (SqT.of e3) (.cons (.str _) (.cons (.str _) .nil)))
  · walk_at "rz"
    rename_i p1 hp1 H1 s1 e1
    refine s_in (.inr (SqT.of e1)) rfl rfl ?_
    rw [show (if false = true then !inV (V.str "set") _ else inV (V.str "set") _) = false by kernel_rfl]
    have row1 := row0.same s1
    have n1 := s1 _ _ n0
    have l1 := s1 _ _ l0
    have w1 := s1 _ _ w0
    have f1 : Fr [r] H H1 := f0.trans s1.fr
    walk_at "rz"
    rename_i p2 hp2 H2 s2 e2
    refine s_in (.inr (SqT.of e2)) rfl rfl ?_
    rw [show (if false = true then !inV (V.str "set") _ else inV (V.str "set") _) = true by kernel_rfl]
    have row2 := row1.same s2
    have n2 := s2 _ _ n1
    have l2 := s2 _ _ l1
    have w2 := s2 _ _ w1
    have f2 : Fr [r] H H2 := f1.trans s2.fr
    walk_at "rz"
    refine ⟨r, sc, ns, 2, rfl, row2, by omega, by omega, fun m H3 m0 m1 g3 row3 => ?_⟩
    have f3 : Fr [r] H H3 := f2.trans g3
    walk_at "rz"
    rename_i p4 hp4 H4 s4 e4
    exact q p4 (("set" : Str), (Sum.inl m : Key)) H4 (f3.trans s4.fr) (row3.same s4) (.flag (by simp) (by omega) (by omega)) (.tup (SqT.of e4) (.cons (.str _) (.cons (.int _) .nil)))
  · walk_at "rz"
    rename_i p1 hp1 H1 s1 e1
    refine s_in (.inr (SqT.of e1)) rfl rfl ?_
    rw [show (if false = true then !inV (V.str "clear") _ else inV (V.str "clear") _) = false by kernel_rfl]
    have row1 := row0.same s1
    have n1 := s1 _ _ n0
    have l1 := s1 _ _ l0
    have w1 := s1 _ _ w0
    have f1 : Fr [r] H H1 := f0.trans s1.fr
    walk_at "rz"
    rename_i p2 hp2 H2 s2 e2
    refine s_in (.inr (SqT.of e2)) rfl rfl ?_
    rw [show (if false = true then !inV (V.str "clear") _ else inV (V.str "clear") _) = true by kernel_rfl]
    have row2 := row1.same s2
    have n2 := s2 _ _ n1
    have l2 := s2 _ _ l1
    have w2 := s2 _ _ w1
    have f2 : Fr [r] H H2 := f1.trans s2.fr
    walk_at "rz"
    refine ⟨r, sc, ns, 2, rfl, row2, by omega, by omega, fun m H3 m0 m1 g3 row3 => ?_⟩
    have f3 : Fr [r] H H3 := f2.trans g3
    walk_at "rz"
    rename_i p4 hp4 H4 s4 e4
    exact q p4 (("clear" : Str), (Sum.inl m : Key)) H4 (f3.trans s4.fr) (row3.same s4) (.flag (by simp) (by omega) (by omega)) (.tup (SqT.of e4) (.cons (.str _) (.cons (.int _) .nil)))
  · walk_at "rz"
    rename_i p1 hp1 H1 s1 e1
    refine s_in (.inr (SqT.of e1)) rfl rfl ?_
    rw [show (if false = true then !inV (V.str "await") _ else inV (V.str "await") _) = false by kernel_rfl]
    have row1 := row0.same s1
    have n1 := s1 _ _ n0
    have l1 := s1 _ _ l0
    have w1 := s1 _ _ w0
    have f1 : Fr [r] H H1 := f0.trans s1.fr
    walk_at "rz"
    rename_i p2 hp2 H2 s2 e2
    refine s_in (.inr (SqT.of e2)) rfl rfl ?_
    rw [show (if false = true then !inV (V.str "await") _ else inV (V.str "await") _) = true by kernel_rfl]
    have row2 := row1.same s2
    have n2 := s2 _ _ n1
    have l2 := s2 _ _ l1
    have w2 := s2 _ _ w1
    have f2 : Fr [r] H H2 := f1.trans s2.fr
    walk_at "rz"
    refine ⟨r, sc, ns, 2, rfl, row2, by omega, by omega, fun m H3 m0 m1 g3 row3 => ?_⟩
    have f3 : Fr [r] H H3 := f2.trans g3
    walk_at "rz"
    rename_i p4 hp4 H4 s4 e4
    exact q p4 (("await" : Str), (Sum.inl m : Key)) H4 (f3.trans s4.fr) (row3.same s4) (.flag (by simp) (by omega) (by omega)) (.tup (SqT.of e4) (.cons (.str _) (.cons (.int _) .nil)))
  · walk_at "rz"
    rename_i p1 hp1 H1 s1 e1
    refine s_in (.inr (SqT.of e1)) rfl rfl ?_
    rw [show (if false = true then !inV (V.str "bar") _ else inV (V.str "bar") _) = false by kernel_rfl]
    have row1 := row0.same s1
    have n1 := s1 _ _ n0
    have l1 := s1 _ _ l0
    have w1 := s1 _ _ w0
    have f1 : Fr [r] H H1 := f0.trans s1.fr
    walk_at "rz"
    rename_i p2 hp2 H2 s2 e2
    refine s_in (.inr (SqT.of e2)) rfl rfl ?_
    rw [show (if false = true then !inV (V.str "bar") _ else inV (V.str "bar") _) = false by kernel_rfl]
    have row2 := row1.same s2
    have n2 := s2 _ _ n1
    have l2 := s2 _ _ l1
    have w2 := s2 _ _ w1
    have f2 : Fr [r] H H2 := f1.trans s2.fr
    walk_at "rz"
    refine ⟨r, sc, ns, 10, rfl, row2, by omega, by omega, fun m H3 m0 m1 g3 row3 => ?_⟩
    have f3 : Fr [r] H H3 := f2.trans g3
    walk_at "rz"
    rename_i p4 hp4 H4 s4 e4
    exact q p4 (("bar" : Str), (Sum.inl m : Key)) H4 (f3.trans s4.fr) (row3.same s4) (.bar (by omega) (by omega)) (.tup (SqT.of e4) (.cons (.str _) (.cons (.int _) .nil)))
  · walk_at "rz"
    rename_i p1 hp1 H1 s1 e1
    refine s_eq0L (SqL.of (s1 _ _ w0)) (SqL.of e1) ?_
    rw [if_pos rfl]
    have row1 := row0.same s1
    have n1 := s1 _ _ n0
    have l1 := s1 _ _ l0
    have w1 := s1 _ _ w0
    have f1 : Fr [r] H H1 := f0.trans s1.fr
    walk_at "rz"
    by_cases hne : works = []
    · subst hne
      refine ite_f rfl ?_
      walk_at "rz"
      rename_i p2 hp2 H2 s2 e2
      refine s_in (.inr (SqT.of e2)) rfl rfl ?_
      rw [show (if false = true then !inV (V.str "later") _ else inV (V.str "later") _) = false by kernel_rfl]
      have row2 := row1.same s2
      have n2 := s2 _ _ n1
      have l2 := s2 _ _ l1
      have w2 := s2 _ _ w1
      have f2 : Fr [r] H H2 := f1.trans s2.fr
      walk_at "rz"
      rename_i p3 hp3 H3 s3 e3
      refine s_in (.inr (SqT.of e3)) rfl rfl ?_
      rw [show (if false = true then !inV (V.str "later") _ else inV (V.str "later") _) = false by kernel_rfl]
      have row3 := row2.same s3
      have n3 := s3 _ _ n2
      have l3 := s3 _ _ l2
      have w3 := s3 _ _ w2
      have f3 : Fr [r] H H3 := f2.trans s3.fr
      walk_at "rz"
      refine ⟨r, sc, ns, 3, rfl, row3, by omega, by omega, fun m H4 m0 m1 g4 row4 => ?_⟩
      have f4 : Fr [r] H H4 := f3.trans g4
      walk_at "rz"
      rename_i p5 hp5 H5 s5 e5
      exact q p5 (("run" : Str), (Sum.inl (1 + m) : Key)) H5 (f4.trans s5.fr) (row4.same s5) (.run (by omega) (by omega)) (.tup (SqT.of e5) (.cons (.str _) (.cons (.int _) .nil)))
    · refine ite_t (by cases works with | nil => exact absurd rfl hne | cons _ _ => rfl) ?_
      walk_at "rz"
      refine s_lenL (SqL.of w1) ?_
      rw [List.length_map]
      walk_at "rz"
      refine pick row1 wr' w1 hne w12 fun z H2 hz g2 row2 => ?_
      have f2 : Fr [r] H H2 := f1.trans g2
      walk_at "rz"
      rename_i p3 hp3 H3 s3 e3
      exact q p3 (("later" : Str), (Sum.inr z : Key)) H3 (f2.trans s3.fr) (row2.same s3) (.later hz) (.tup (SqT.of e3) (.cons (.str _) (.cons (.str _) .nil)))
  · walk_at "rz"
    rename_i p1 hp1 H1 s1 e1
    refine s_eq0L (SqL.of (s1 _ _ l0)) (SqL.of e1) ?_
    rw [if_pos rfl]
    have row1 := row0.same s1
    have n1 := s1 _ _ n0
    have l1 := s1 _ _ l0
    have w1 := s1 _ _ w0
    have f1 : Fr [r] H H1 := f0.trans s1.fr
    walk_at "rz"
    by_cases hne : levels = []
    · subst hne
      refine ite_f rfl ?_
      walk_at "rz"
      rename_i p2 hp2 H2 s2 e2
      refine s_in (.inr (SqT.of e2)) rfl rfl ?_
      rw [show (if false = true then !inV (V.str "quiet") _ else inV (V.str "quiet") _) = false by kernel_rfl]
      have row2 := row1.same s2
      have n2 := s2 _ _ n1
      have l2 := s2 _ _ l1
      have w2 := s2 _ _ w1
      have f2 : Fr [r] H H2 := f1.trans s2.fr
      walk_at "rz"
      rename_i p3 hp3 H3 s3 e3
      refine s_in (.inr (SqT.of e3)) rfl rfl ?_
      rw [show (if false = true then !inV (V.str "quiet") _ else inV (V.str "quiet") _) = false by kernel_rfl]
      have row3 := row2.same s3
      have n3 := s3 _ _ n2
      have l3 := s3 _ _ l2
      have w3 := s3 _ _ w2
      have f3 : Fr [r] H H3 := f2.trans s3.fr
      walk_at "rz"
      refine ⟨r, sc, ns, 3, rfl, row3, by omega, by omega, fun m H4 m0 m1 g4 row4 => ?_⟩
      have f4 : Fr [r] H H4 := f3.trans g4
      walk_at "rz"
      rename_i p5 hp5 H5 s5 e5
      exact q p5 (("run" : Str), (Sum.inl (1 + m) : Key)) H5 (f4.trans s5.fr) (row4.same s5) (.run (by omega) (by omega)) (.tup (SqT.of e5) (.cons (.str _) (.cons (.int _) .nil)))
    · refine ite_t (by cases levels with | nil => exact absurd rfl hne | cons _ _ => rfl) ?_
      walk_at "rz"
      refine s_lenL (SqL.of l1) ?_
      rw [List.length_map]
      walk_at "rz"
      refine pick row1 lr' l1 hne l12 fun z H2 hz g2 row2 => ?_
      have f2 : Fr [r] H H2 := f1.trans g2
      walk_at "rz"
      rename_i p3 hp3 H3 s3 e3
      exact q p3 (("quiet" : Str), (Sum.inr z : Key)) H3 (f2.trans s3.fr) (row2.same s3) (.quiet (lin z hz)) (.tup (SqT.of e3) (.cons (.str _) (.cons (.str _) .nil)))
end
set_option maxHeartbeats 8000000
open PySem PySem.Spec PyProof.Rows L2 Z
open He (ga ma)
def FrzL (H : Hp) (a : Addr) : Prop := ∃ xs, FrzT H a xs
theorem FrzL.same {H H' : Hp} {a : Addr} (h : FrzL H a) (s : Same H H') : FrzL H' a := h.imp fun _ k => k.same s
theorem FrzL.fr {A : List Addr} {H H' : Hp} {a : Addr} (h : FrzL H a) (f : Fr A H H') : FrzL H' a := h.imp fun _ ⟨o, e, k⟩ => ⟨o, f.1 _ _ e (.inr rfl), k⟩
def spMSetup (K : Fg) : Sp := fun vs H Q _ => ∃ r sc ns, ∃ most : Int, vs = [.ref r, .int most] ∧ RowAt K H r sc ns ∧ 1 ≤ most ∧ most ≤ 6 ∧ ∀ t a b P H', Fr [r] H H' → RowAt K H' r sc ns → Drawn P → SqT K H' t [.ref a, .ref b] → Dp K H' (.ref a) (.tuple (P.ls.map dLn)) → Dp K H' (.ref b) (.tuple (P.ws.map dWk)) → FrzL H' a → Q (.ref t) H'
theorem s_take {K : Fg} {H : Hp} {r sc : Addr} {ns : List Int} {many : Int} {Q : VK} {E : XK} (h : RowAt K H r sc ns) (h0 : 0 < many) (h1 : many < 1000000) (q : ∀ n H', 0 ≤ n → n < many → Fr [r] H H' → RowAt K H' r sc ns → Q (.int n) H') : spTaken K [.ref r, .int many] H Q E := ⟨r, sc, ns, many, rfl, h, h0, h1, q⟩
section
variable {P : Program} {w : World} {K : Fg} {mg : Str → Option Value} {base : Heap}
theorem ok_w_setup (T : Txt K mg) : FnOk P w K mg base (L2.CX P w) 6 (ga K "_law_setup") (fdOf K (ga K "_law_setup")) ["_law_row", "_law_most"] (spMSetup K) := by
  refine FunD.ok T.F_w_setup sc_w_setup (fun vs H Q E h => ?_) (fun cdv A outer s H vs Q E hr h => ⟨_, PSs.nox (pss_cons (zset 2 sc_w_setup.nd (pe_slice (sl_listK K) (z_call (ok_w_mixed T) T.c_w_mixed (hr.mono (by decide)) rfl T.g_w_mixed passL (pa_cons (pv 0) (pa_cons (pe_lst (pa_cons pe_str (pa_cons pe_str (pa_cons pe_str (pa_cons pe_str (pa_cons pe_str (pa_cons pe_str pa_nil))))))) pa_nil))) po_none (po_some (pe_op op_add pe_int (z_call (ok_w_taken T) T.c_w_taken (hr.mono (by decide)) rfl T.g_w_taken passL (pa_cons (pv 0) (pa_cons (pv 1) pa_nil)))))))
      (pss_cons (zset 3 sc_w_setup.nd (pe_lc (own := [("_law_name", 10)]) rfl sc_w_setup.nd (kIL K (pi_list (pv 2))) (blkOk_by (own := [("_law_name", 10)]) (N := n_w_setup) (sc := defScope s_w_setup) (by decide +kernel)) (fun _ _ _ _ _ => (zg 10 sc_w_setup.nd)) (fun _ _ _ _ _ => pts_nil) (fun _ _ _ _ _ => (pe_ix (ix_listK K) (pe_lst (pa_cons pe_str (pa_cons pe_str (pa_cons pe_str pa_nil)))) (z_call (ok_w_taken T) T.c_w_taken (hr.mono (by decide)) rfl T.g_w_taken passL (pa_cons (pv 0) (pa_cons pe_int pa_nil))) (fun _ _ => rfl)))))
      (pss_cons (zset 4 sc_w_setup.nd (pe_lc (own := [("_law_k", 7)]) rfl sc_w_setup.nd (pi_range1 rfl T.u_range (pa_cons (pe_callB (call_lenK K) (by rfl) T.u_len (by decide +kernel) (pa_cons (pv 2) pa_nil)) pa_nil)) (blkOk_by (own := [("_law_k", 7)]) (N := n_w_setup) (sc := defScope s_w_setup) (by decide +kernel)) (fun _ _ _ _ _ => (zg 7 sc_w_setup.nd)) (fun _ _ _ _ _ => (pts_one (pt_cmpR op_eq (pe_ix (ix_listK K) (pv 3) (pv 7) (fun _ _ => rfl)) pe_str (nomark _)))) (fun _ _ _ _ _ => (pe_ix (ix_listK K) (pv 2) (pv 7) (fun _ _ => rfl)))))
      (pss_cons (zset 5 sc_w_setup.nd (pe_slice (sl_listK K) (pe_lst (pa_cons pe_str (pa_cons pe_str pa_nil))) po_none (po_some (z_call (ok_w_taken T) T.c_w_taken (hr.mono (by decide)) rfl T.g_w_taken passL (pa_cons (pv 0) (pa_cons pe_int pa_nil))))))
      (pss_cons (zset 6 sc_w_setup.nd (pe_lst pa_nil))
      (pss_cons (ps_for PassesOwn.never rfl (pi_range1 rfl T.u_range (pa_cons (pe_callB (call_lenK K) (by rfl) T.u_len (by decide +kernel) (pa_cons (pv 2) pa_nil)) pa_nil)) (zg 7 sc_w_setup.nd)
      (pss_cons (ps_setLc (i := 8) (own := [("_law_turn", 11)]) rfl sc_w_setup.nd rfl rfl (sw_true rfl rfl rfl (by decide +kernel)) (pi_range1 rfl T.u_range (pa_cons (pe_op op_add pe_int (z_call (ok_w_taken T) T.c_w_taken (hr.mono (by decide)) rfl T.g_w_taken passL (pa_cons (pv 0) (pa_cons pe_int pa_nil)))) pa_nil)) (blkOk_by (own := [("_law_turn", 11)]) (N := n_w_setup) (sc := defScope s_w_setup) (by decide +kernel)) (fun _ _ _ _ _ => (zg 11 sc_w_setup.nd)) (fun _ _ _ _ _ => pts_nil) (fun _ _ _ _ _ => (z_call (ok_w_step T) T.c_w_step (hr.mono (by decide)) rfl T.g_w_step passL (pa_cons (pv 0) (pa_cons (pv 2) (pa_cons (pv 4) (pa_cons (pv 5) pa_nil)))))))
      (pss_one (ps_expr (kBM K (pe_bm PySem.F.plainAttrs_list PySem.F.slot_list_append PySem.F.type_list_append mt_append (pv 6) (pa_cons (pe_tup (pa_cons (pe_ix (ix_listK K) (pv 2) (pv 7) (fun _ _ => rfl)) (pa_cons (pe_ix (ix_listK K) (pv 3) (pv 7) (fun _ _ => rfl)) (pa_cons (pe_op op_add pe_int (z_call (ok_w_taken T) T.c_w_taken (hr.mono (by decide)) rfl T.g_w_taken passL (pa_cons (pv 0) (pa_cons pe_int pa_nil)))) (pa_cons (pe_callTy (call_tuple_ofK K) (by rfl) T.u_tuple (by decide +kernel) (pa_cons (pv 8) pa_nil)) pa_nil))))) pa_nil)))))))
      (pss_cons (ps_setLc (i := 9) (own := [("_law_work", 12)]) rfl sc_w_setup.nd rfl rfl (sw_true rfl rfl rfl (by decide +kernel)) (kIL K (pi_list (pv 5))) (blkOk_by (own := [("_law_work", 12)]) (N := n_w_setup) (sc := defScope s_w_setup) (by decide +kernel)) (fun _ _ _ _ _ => (zg 12 sc_w_setup.nd)) (fun _ _ _ _ _ => pts_nil) (fun _ _ _ _ _ => (pe_tup (pa_cons (pv 12) (pa_cons (pe_op op_add pe_int (z_call (ok_w_taken T) T.c_w_taken (hr.mono (by decide)) rfl T.g_w_taken passL (pa_cons (pv 0) (pa_cons pe_int pa_nil)))) (pa_cons (pe_op op_add pe_int (z_call (ok_w_taken T) T.c_w_taken (hr.mono (by decide)) rfl T.g_w_taken passL (pa_cons (pv 0) (pa_cons pe_int pa_nil)))) pa_nil))))))
      (pss_one (ps_ret (pe_tup (pa_cons (pe_callTy (call_tuple_frzK K) (by rfl) T.u_tuple (by decide +kernel) (pa_cons (pv 6) pa_nil)) (pa_cons (pe_callTy (call_tuple_ofK K) (by rfl) T.u_tuple (by decide +kernel) (pa_cons (pv 9) pa_nil)) pa_nil)))))))))))), ?_⟩)
  · obtain ⟨r, sc, ns, most, rfl, _⟩ := h
    rfl
  obtain ⟨r, sc, ns, most, rfl, hrow, m1, m6, q⟩ := h
  show (_ : TS) _ [some (.ref r), some (.int most), none, none, none, none, none, none, none, none, none, none, none] H
  try dsimp only [cxOf]
  have hr0 := hrow.ex
  -- names
  walk_at "rz"
  rename_i l1 hl1 H1 s1 e1
  refine ⟨r, sc, ns, l1, nm6.map V.str, rfl, hrow.same s1, .inl (SqL.of e1), by decide, fun H2 l2 ys f2 row2 hl2 e2 pm => ?_⟩
  obtain ⟨nms, rfl, pn⟩ := perm_strs pm
  have hl2r : l2 ≠ r := fun e => hr0 (by rw [← e]; exact s1.fr.back (A := []) hl2)
  walk_at "rz"
  refine s_take row2 (by omega) (by omega) fun nn H3 nn0 nn1 f3 row3 => ?_
  have e3 := f3.at e2 (by simp [hl2r])
  walk_at "rz"
  refine s_slL (SqL.of e3) fun l4 hl4 => ?_
  rw [show 1 + nn = (((1 + nn).toNat : Nat) : Int) by omega, cut_take, ← List.map_take]
  generalize eH : upd H3 l4 _ = H4
  have s4 := newS hl4 eH
  have e4 := newE eH
  clear eH
  have n6 : nms.length = 6 := pn.length_eq
  have pnd : nms.Nodup := pn.nodup_iff.mpr (by decide)
  have pin : ∀ z ∈ nms, z ∈ nm6 := fun z hz => pn.mem_iff.mp hz
  generalize hN : nms.take (1 + nn).toNat = N at e4
  have hN6 : 1 ≤ N.length ∧ N.length ≤ 6 := by rw [← hN, List.length_take]; omega
  have hNd : N.Nodup := by rw [← hN]; exact pnd.sublist (List.take_sublist _ _)
  have hNi : ∀ z ∈ N, z ∈ nm6 := fun z hz => pin z (by rw [← hN] at hz; exact List.mem_of_mem_take hz)
  have row4 := row3.same s4
  have f14 : Fr [r] H H4 := (s1.fr.trans f2).trans (f3.trans s4.fr)
  have hl40 : H l4 = none := ((s1.fr.trans f2).trans f3 : Fr [r] H H3).back hl4
  have hl4r : l4 ≠ r := fun e => hr0 (by rw [← e]; exact hl40)
  clear e1 e2 e3 pm s1 s4 f2 f3 row2 row3 hl1 hl2 hl2r hl4 hN pn
  -- kinds
  walk_at "rz"
  refine lcL_row e4 hl4r row4 (by rw [List.length_map]; omega) (fun _ (k : Str) => k = "edge" ∨ k = "level") PyData.str (fun _ => rfl) (fun i x Ha Yes No hx fa rowa yes => ?_) (fun l5 H5 ys kd hl5 f5 row5 e5 kl hk a5 => ?_)
  · walk_at "rz"
    refine ⟨rfl, ?_⟩
    walk_at "rz"
    rename_i p6 hp6 H6 s6 e6
    have p6r : p6 ≠ r := fun e => rowa.ex (by rw [← e]; exact hp6)
    refine s_take (rowa.same s6) (by omega) (by omega) fun n1 H7 h1 h2 f7 row7 => ?_
    have e7 := f7.at e6 (by simp [p6r])
    obtain ⟨zk, hzk, hzm⟩ : ∃ zk, ([V.str "edge", V.str "edge", V.str "level"] : List V)[n1.toNat]? = some (.str zk) ∧ (zk = "edge" ∨ zk = "level") := by
      have : n1 = 0 ∨ n1 = 1 ∨ n1 = 2 := by omega
      rcases this with rfl | rfl | rfl
      · exact ⟨"edge", rfl, .inl rfl⟩
      · exact ⟨"edge", rfl, .inl rfl⟩
      · exact ⟨"level", rfl, .inr rfl⟩
    refine s_ixL (SqL.of e7) (v := .str zk) (at_of (j := n1.toNat) (by omega) hzk) ?_
    exact yes _ _ zk (s6.fr.trans f7) row7 hzm (.str _)
  rw [List.length_map] at kl
  cases dp_strs a5
  have hkd : ∀ k ∈ kd, k = "edge" ∨ k = "level" := fun k h => by
    obtain ⟨_, h⟩ := rel_all hk k h
    exact h
  have f15 := f14.trans f5
  have hl50 : H l5 = none := f14.back hl5
  have hl5r : l5 ≠ r := fun e => hr0 (by rw [← e]; exact hl50)
  have en5 := f5.at e4 (by simp [hl4r])
  clear e4 row4 a5 f5 hl5 hk
  -- levels
  walk_at "rz"
  refine s_lenL (SqL.of en5) ?_
  rw [List.length_map]
  walk_at "rz"
  refine ⟨by omega, by omega, ?_⟩
  rw [Int.toNat_natCast]
  refine lcR_d (K := K) (fun k => decide (gS kd k = "level")) (fun k => .str (gS N k)) (by omega) (fun _ _ => rfl) (fun k Ha Yes No hk sa yes no => ?_) (fun l6 H6 ys hl6 s6 e6 a6 => ?_)
  · have hk2 : k < kd.length := by omega
    have ekd := gS_map hk2
    have eN := gS_map hk
    walk_at "rz"
    refine ⟨rfl, ?_⟩
    walk_at "rz"
    refine s_ixL (SqL.of (sa _ _ e5)) (atI_nat ekd) ?_
    walk_at "rz"
    refine ite_b (fun h => ?_) (fun h => ?_)
    · walk_at "rz"
      refine s_ixL (SqL.of (sa _ _ en5)) (atI_nat eN) ?_
      exact yes (by simpa using h) _ _ (Same.refl _) (.str _)
    · exact no (by simpa using h) _ (Same.refl _)
  obtain ⟨L, eL⟩ : ∃ L : List Str, ((List.range N.length).filter fun k => decide (gS kd k = "level")).map (fun k => gS N k) = L := ⟨_, rfl⟩
  have eL2 : ((List.range N.length).filter fun k => decide (gS kd k = "level")).map (fun k => PyData.str (gS N k)) = L.map PyData.str := by rw [← eL, List.map_map]; rfl
  rw [eL2] at a6
  cases dp_strs a6
  have hLl : L.length ≤ 12 := by
    rw [← eL, List.length_map]
    have := List.length_filter_le (fun k => decide (gS kd k = "level")) (List.range N.length)
    rw [List.length_range] at this
    omega
  have hLin : ∀ z ∈ L, (z, ("level" : Str)) ∈ N.zip kd := fun z hz => by
    rw [← eL] at hz
    obtain ⟨k, hk, rfl⟩ := List.mem_map.mp hz
    obtain ⟨h1, h2⟩ := List.mem_filter.mp hk
    have h1 := List.mem_range.mp h1
    have hk2 : k < kd.length := by omega
    have h2 := of_decide_eq_true h2
    refine List.mem_of_getElem? (i := k) (List.getElem?_zip_eq_some.mpr ⟨gS_eq h1, ?_⟩)
    rw [gS_eq hk2, h2]
  have f16 : Fr [r] H H6 := f15.trans s6.fr
  have hl60 : H l6 = none := f15.back hl6
  have hl6r : l6 ≠ r := fun e => hr0 (by rw [← e]; exact hl60)
  have en6 := s6 _ _ en5
  have ek6 := s6 _ _ e5
  have row6 := row5.same s6
  clear en5 e5 row5 a6 s6 hl6 eL eL2
  -- works
  walk_at "rz"
  rename_i p7 hp7 H7 s7 e7
  have p7r : p7 ≠ r := fun e => row6.ex (by rw [← e]; exact hp7)
  refine s_take (row6.same s7) (by omega) (by omega) fun nw H8 nw0 nw1 f8 row8 => ?_
  have e8 := f8.at e7 (by simp [p7r])
  walk_at "rz"
  refine s_slL (SqL.of e8) fun l9 hl9 => ?_
  obtain ⟨kw, rfl⟩ := Int.eq_ofNat_of_zero_le nw0
  rw [cut_take]
  generalize eH : upd H8 l9 _ = H9
  have s9 := newS hl9 eH
  have e9 := newE eH
  clear eH
  have f68 : Fr [r] H6 H8 := s7.fr.trans f8
  have f69 : Fr [r] H6 H9 := f68.trans s9.fr
  have en9 := f69.at en6 (by simp [hl4r])
  have ek9 := f69.at ek6 (by simp [hl5r])
  have el9 := f69.at e6 (by simp [hl6r])
  have row9 := row8.same s9
  have hl90 : H l9 = none := f16.back (f68.back hl9)
  have hl9r : l9 ≠ r := fun e => hr0 (by rw [← e]; exact hl90)
  have f19 := f16.trans f69
  replace e9 : H9 l9 = some (.lst (((nmW.take kw)).map V.str)) := by rw [e9, List.map_take]; rfl
  generalize hW : nmW.take kw = W at e9
  have hW2 : W.length ≤ 2 := by rw [← hW, List.length_take]; show min kw 2 ≤ 2; omega
  clear e7 e8 s7 f8 row8 s9 hl9 f68 f69 en6 ek6 e6 row6
  walk_at "rz"
  rename_i l10 hl10 H10 s10 e10
  have en10 := s10 _ _ en9
  have row10 := row9.same s10
  have f110 : Fr [r] H H10 := f19.trans s10.fr
  have hl100 : H l10 = none := f19.back hl10
  have hl10r : l10 ≠ r := fun e => hr0 (by rw [← e]; exact hl100)
  have ek10 := s10 _ _ ek9
  have el10 := s10 _ _ el9
  have ew10 := s10 _ _ e9
  have n104 : l10 ≠ l4 := fun e => by rw [e, en9] at hl10; cases hl10
  have n105 : l10 ≠ l5 := fun e => by rw [e, ek9] at hl10; cases hl10
  have n106 : l10 ≠ l6 := fun e => by rw [e, el9] at hl10; cases hl10
  have n109 : l10 ≠ l9 := fun e => by rw [e, e9] at hl10; cases hl10
  clear en9 ek9 el9 e9 row9 s10 hl10
  refine s_lenL (SqL.of en10) ?_
  rw [List.length_map]
  walk_at "rz"
  have hzl : (N.zip kd).length = N.length := by rw [List.length_zip]; omega
  have hz1 : (N.zip kd).map (·.1) = N := List.map_fst_zip (by omega)
  refine ⟨by omega, by omega, for_range (lo := 0) (n := ((N.length : Nat) : Int).toNat) (fun i σ Ha => ∃ y7 y8, σ = [some (.ref r), some (.int most), some (.ref l4), some (.ref l5), some (.ref l6), some (.ref l9), some (.ref l10), y7, y8, none, none, none, none] ∧ Fr [r, l10] H10 Ha ∧ RowAt K Ha r sc ns ∧
    ∃ ls xs, Ha l10 = some (.lst xs) ∧ DpAll K Ha xs (ls.map dLn) ∧ nkOf ls = (N.zip kd).take i ∧ ∀ l ∈ ls, FitLn (N.zip kd) W l) ⟨_, _, rfl, Fr.refl, row10, [], [], e10, .nil, by simp [nkOf], by simp⟩ (fun i σ Ha hi hPv => ?_) (fun σ Ha hPv => ?_)⟩
  case _ =>
    obtain ⟨y7, y8, rfl, fa, rowa, ls, xs, ea, da, hnk, hfit⟩ := hPv
    rw [Int.toNat_natCast] at hi
    have hi2 : i < kd.length := by omega
    have e0 : (0 + ((i : Nat) : Int)) = i := by omega
    rw [e0]
    walk_at "rz"
    refine s_take rowa (by omega) (by omega) fun nst Hb hst0 hst4 fb rowb => ?_
    have en10b := fb.at (fa.at en10 (by simp [hl4r, Ne.symm n104])) (by simp [hl4r])
    have el10b := fb.at (fa.at el10 (by simp [hl6r, Ne.symm n106])) (by simp [hl6r])
    have ew10b := fb.at (fa.at ew10 (by simp [hl9r, Ne.symm n109])) (by simp [hl9r])
    have ek10b := fb.at (fa.at ek10 (by simp [hl5r, Ne.symm n105])) (by simp [hl5r])
    have eab := fb.at ea (by simp [hl10r])
    have tl : tupds (ls.map dLn) = true := tupds_map tupd_dLn _
    have ts : ∀ l : List (Str × Key), tupds (l.map dSt) = true := fun l => tupds_map tupd_dSt l
    have dab := da.tk fb.tk tl
    walk_at "rz"
    refine ⟨by omega, by omega, lcR_row rowb (by omega) (fun _ s => FitSt (N.zip kd) W s) dSt tupd_dSt (fun j Hc Yes No hj fc rowc yes => ?_) (fun l11 Hd ys st hl11 fd rowd ed hsl hst dd => ?_)⟩
    · walk_at "rz"
      refine ⟨rfl, ?_⟩
      walk_at "rz"
      refine ⟨r, sc, ns, l4, l6, l9, N, L, W, N.zip kd, rfl, rowc, fc.at en10b (by simp [hl4r]), fc.at el10b (by simp [hl6r]), fc.at ew10b (by simp [hl9r]), hl4r, hl6r, hl9r, fun e => by rw [e] at hN6; simp at hN6, by omega, hLl, by omega, fun z hz => by rw [hz1]; exact hz, hLin, fun t s He fe rowe fit ds => ?_⟩
      exact yes _ _ s fe rowe fit ds
    have hst : ∀ s ∈ st, FitSt (N.zip kd) W s := fun s hs => by
      obtain ⟨_, h⟩ := rel_all hst s hs
      exact h
    have hl11r : l11 ≠ r := fun e => rowb.ex (by rw [← e]; exact hl11)
    have n1110 : l11 ≠ l10 := fun e => by rw [e, eab] at hl11; cases hl11
    have ead := fd.at eab (by simp [hl10r])
    have dad := dab.tk fd.tk tl
    have end_ := fd.at en10b (by simp [hl4r])
    have ekd := fd.at ek10b (by simp [hl5r])
    walk_at "rz"
    refine s_tyL ead ?_
    walk_at "rz"
    refine s_ixL (SqL.of end_) (atI_nat (gS_map hi)) ?_
    walk_at "rz"
    refine s_ixL (SqL.of ekd) (atI_nat (gS_map hi2)) ?_
    walk_at "rz"
    refine s_take rowd (by omega) (by omega) fun nr He hr0' hr9 fe rowe => ?_
    have ede := fe.at ed (by simp [hl11r])
    walk_at "rz"
    refine ⟨l11, ys, rfl, .inl ⟨SqL.of ede, fun t12 ht12 => ?_⟩⟩
    generalize eH : upd He t12 _ = Hf
    have sf := newS ht12 eH
    have ef := newE eH
    clear eH
    walk_at "rz"
    rename_i t13 ht13 Hg sg eg
    have eag := sg _ _ (sf _ _ (fe.at ead (by simp [hl10r])))
    have hxl : xs.length = i := by
      have h1 := da.len
      have h2 := congrArg List.length hnk
      unfold nkOf at h2
      rw [List.length_map] at h1
      rw [List.length_map, List.length_take, hzl] at h2
      omega
    refine s_append eag (by rw [sizeLine_eq]; omega) ?_
    generalize eH : upd Hg l10 _ = Hh
    have fh : Fr [l10] Hg Hh := by rw [← eH]; exact Fr.upd (by simp) eag rfl
    have eh := newE eH
    clear eH
    walk_at "rz"
    have fdg : Fr [r] Hd Hg := fe.trans (sf.fr.trans sg.fr)
    have fag : Fr [r] Ha Hg := (fb.trans fd).trans fdg
    have dst := ((dd.tk fe.tk (ts st)).same sf).same sg
    have d13 : Dp K Hg (.ref t13) (dLn ⟨gS N i, gS kd i, 1 + nr, st⟩) := .tup (SqT.of eg) (.cons (.str _) (.cons (.str _) (.cons (.int _) (.cons (.tup (sg.sqT (SqT.of ef)) dst) .nil))))
    have stl : st.length = (1 + nst).toNat := hsl
    refine ⟨_, _, rfl, (fa.trans (fag.mono (by simp))).trans (fh.mono (by simp)), hrow.kept ((rowe.same sf).same sg) fh (by simp [hl100]), ls ++ [⟨gS N i, gS kd i, 1 + nr, st⟩], _, eh, ?_, ?_, fun l hl => ?_⟩
    · rw [List.map_append]
      exact ((dad.tk fdg.tk tl).tk fh.tk tl).app (.cons (d13.tk fh.tk (tupd_dLn _)) .nil)
    · unfold nkOf at hnk ⊢
      rw [List.map_append, hnk, List.take_add_one, List.getElem?_zip_eq_some (z := (gS N i, gS kd i)) |>.mpr ⟨gS_eq hi, gS_eq hi2⟩]
      rfl
    · rcases List.mem_append.mp hl with hl | hl
      · exact hfit l hl
      · rw [List.mem_singleton.mp hl]
        refine ⟨nm6_A _ (hNi _ (List.mem_of_getElem? (gS_eq hi))), hkd _ (List.mem_of_getElem? (gS_eq hi2)), by show 1 ≤ 1 + nr; omega, by show 1 + nr ≤ 9; omega, fun e => ?_, by show st.length ≤ 8; omega, hst⟩
        have e : st = [] := e
        rw [e] at stl
        simp only [List.length_nil] at stl
        omega
  case _ =>
    obtain ⟨y7, y8, rfl, fa, rowa, ls, xs, ea, da, hnk, hfit⟩ := hPv
    rw [Int.toNat_natCast, ← hzl, List.take_length] at hnk
    have ewa := fa.at ew10 (by simp [hl9r, Ne.symm n109])
    have tl : tupds (ls.map dLn) = true := tupds_map tupd_dLn _
    have fra : Fr [r] H Ha := f110.seq fa (fun a ha => by
      simp only [List.mem_cons, List.not_mem_nil, or_false] at ha
      rcases ha with rfl | rfl
      · exact .inl (by simp)
      · exact .inr hl100)
    walk_at "rz"
    refine lcL_row ewa hl9r rowa (by rw [List.length_map]; omega) (fun k w => W[k]? = some w.nm ∧ FitWk w) dWk tupd_dWk (fun i x Hb Yes No hx fb rowb yes => ?_) (fun l11 Hb ys ws hl11 fb rowb eb wl hw db => ?_)
    · obtain ⟨z, hz, rfl⟩ : ∃ z, W[i]? = some z ∧ x = .str z := by
        rw [List.getElem?_map] at hx
        obtain ⟨z, h1, h2⟩ := Option.map_eq_some_iff.mp hx
        exact ⟨z, h1, h2.symm⟩
      walk_at "rz"
      refine ⟨rfl, ?_⟩
      walk_at "rz"
      refine s_take rowb (by omega) (by omega) fun n1 H5 h1 h2 f5 row5 => ?_
      walk_at "rz"
      refine s_take row5 (by omega) (by omega) fun n2 H6 h3 h4 f6 row6 => ?_
      walk_at "rz"
      rename_i p7 hp7 H7 s7 e7
      have hzA : z ∈ nmA := by
        have h := List.mem_of_getElem? hz
        rw [← hW] at h
        have h := List.mem_of_mem_take h
        revert h
        have : ∀ z ∈ nmW, z ∈ nmA := by decide
        exact this z
      exact yes _ _ ⟨z, 1 + n1, 1 + n2⟩ ((f5.trans f6).trans s7.fr) (row6.same s7) ⟨hz, hzA, by show 1 ≤ 1 + n1; omega, by show 1 + n1 ≤ 9; omega, by show 1 ≤ 1 + n2; omega, by show 1 + n2 ≤ 99; omega⟩ (.tup (SqT.of e7) (.cons (.str _) (.cons (.int _) (.cons (.int _) .nil))))
    rw [List.length_map] at wl
    have hwn : ws.map (·.nm) = W := by
      refine List.ext_getElem? fun i => ?_
      rw [List.getElem?_map]
      cases e : ws[i]? with
      | some w => exact (hw i w e).1.symm
      | none =>
        have := List.getElem?_eq_none_iff.mp e
        exact (List.getElem?_eq_none (show W.length ≤ i by omega)).symm
    have eab := fb.at ea (by simp [hl10r])
    have dab := da.tk fb.tk tl
    walk_at "rz"
    refine ⟨l10, xs, rfl, SqL.of eab, fun t12 o12 ht12 ho12 => ?_⟩
    generalize eH : upd Hb t12 _ = Hc
    have sc1 := newS ht12 eH
    have ec := newE eH
    clear eH
    walk_at "rz"
    refine ⟨l11, ys, rfl, .inl ⟨SqL.of (sc1 _ _ eb), fun t13 ht13 => ?_⟩⟩
    generalize eH : upd Hc t13 _ = Hd
    have sd := newS ht13 eH
    have ed := newE eH
    clear eH
    walk_at "rz"
    rename_i t14 ht14 He se ee
    have s3 := sc1.trans (sd.trans se)
    have hnm : ls.map (·.nm) = N := by rw [← nk_names, hnk, hz1]
    refine q t14 t12 t13 ⟨ls, ws⟩ He ((fra.trans fb).trans s3.fr) (rowb.same s3) ⟨fun l hl => ?_, ?_, ?_, ?_, fun w hw' => ?_, kw, ?_⟩ (SqT.of ee) (.tup ((sd.trans se).sqT (FrzT.sqT ⟨o12, ec, ho12⟩)) (dab.same s3)) (.tup (se.sqT (SqT.of ed)) ((db.same sc1).same (sd.trans se))) ⟨_, o12, (sd.trans se) _ _ ec, ho12⟩
    · show FitLn (nkOf ls) (ws.map (·.nm)) l
      rw [hnk, hwn]
      exact hfit l hl
    · show (ls.map (·.nm)).Nodup
      rw [hnm]
      exact hNd
    · show ls ≠ []
      rintro rfl
      rw [← hnm] at hN6
      simp at hN6
    · show ∀ z ∈ ls.map (·.nm), z ∈ nm6
      rw [hnm]
      exact hNi
    · obtain ⟨_, h⟩ := rel_all hw w hw'
      exact h.2
    · show ws.map (·.nm) = nmW.take kw
      rw [hwn, hW]
end
end T
set_option maxHeartbeats 4000000
namespace T
open PySem PySem.Spec PyProof.Rows L2 Z
open He (ga ma)
open LamX (TabS CodeO)
local macro_rules | `(tactic| walk_at "z") => `(tactic| with_reducible first | refine ⟨_, _, rfl, rfl, ?_⟩ | refine ⟨_, rfl, ?_⟩)
local macro_rules | `(tactic| walk_at "z") => `(tactic| ((with_reducible refine s_isi (d := ?d1) ?h1 ?h2 ?q1); (case h1 => first | assumption | constructor); (case h2 => decide)))
local macro_rules | `(tactic| walk_at "z") => `(tactic| with_reducible first | refine s_tup ?_ | refine s_lst ?_)
local macro_rules | `(tactic| walk_at "z") => `(tactic| ((with_reducible refine s_ne ?h1 ?q1); (case h1 => exact rfl)))
local macro_rules | `(tactic| walk_at "z") => `(tactic| ((with_reducible refine s_eq ?h1 ?q1); (case h1 => exact rfl)))
local macro_rules | `(tactic| walk_at "z") => `(tactic| with_reducible first | refine s_dcT ?_ | refine s_cvalg ?_ | refine s_fldS ?_ | refine s_I0 ?_ | refine s_U ?_)
local macro_rules | `(tactic| walk_at "z") => `(tactic| with_reducible first | refine s_make ?_ | refine s_sl ?_ | refine s_nop ?_ | refine s_part ?_ | refine s_lcE ?_ | refine s_lc ?_)
local macro_rules | `(tactic| walk_at "z") => `(tactic| with_reducible first | refine s_for ?_ | refine s_rng1 ?_ | refine s_iT ?_ | refine s_iL ?_ | refine Or.inl (Exists.intro _ (And.intro rfl ?_)) | refine Or.inr (Exists.intro _ (And.intro rfl ?_)))
local macro_rules | `(tactic| walk_at "z") => `(tactic| with_reducible first | refine s_tupRg ?_ | refine s_lstRg ?_ | refine s_rg1 ?_ | refine s_items ?_ | refine s_get2 ?_ | refine s_callI ?_)
local macro_rules | `(tactic| walk_at "z") => `(tactic| with_reducible first | refine s_fldaug ?_ | refine s_add ?_ | refine s_ipI ?_ | refine s_ixO ?_ | refine s_lcL ?_ | refine s_dputg ?_)
local macro_rules | `(tactic| walk_at "z") => `(tactic| with_reducible first | refine s_daugg ?_ | refine s_disp ?_ | refine s_pcons ?_ | refine s_pnil ?_ | refine s_gsub ?_ | refine s_augS ?_)
local macro_rules | `(tactic| walk_at "z") => `(tactic| with_reducible first | refine s_bm ?_ | refine s_bm0 ?_ | refine s_fldg ?_ | refine s_meth ?_ | refine s_prop ?_ | refine s_lcT ?_)
local macro_rules | `(tactic| walk_at "z") => `(tactic| with_reducible first | refine s_yes ?_ | refine s_gcons ?_ | refine s_gnil ?_ | refine s_din ?_ | refine s_dnin ?_ | refine s_dget ?_)
local macro_rules | `(tactic| walk_at "z") => `(tactic| with_reducible first | refine s_orV ?_ | refine s_notV ?_ | refine s_if ?_ | refine s_chain ?_ | refine s_call ?_ | refine s_bl ?_)
local macro_rules | `(tactic| walk_at "z") => `(tactic| with_reducible first | refine s_test ?_ | refine s_B ?_ | refine s_and ?_ | refine s_or ?_ | refine s_not ?_ | refine s_andV ?_)
local macro_rules | `(tactic| walk_at "z") => `(tactic| with_reducible first | refine s_op ?_ | refine s_un ?_ | refine s_cb ?_ | refine s_cons ?_ | refine s_nil ?_ | refine s_star ?_)
local macro_rules | `(tactic| walk_at "z") => `(tactic| ((with_reducible refine s_var (v := ?v1) ?h1 ?q1); (case h1 => exact rfl)))
local macro_rules | `(tactic| walk_at "z") => `(tactic| with_reducible refine s_c ?_)
local macro_rules | `(tactic| walk_at "z") => `(tactic| with_reducible first | refine s_drop ?_ | refine s_next ?_ | refine s_cont ?_ | refine s_break ?_ | refine s_par ?_ | refine s_par2 ?_)
local macro_rules | `(tactic| walk_at "z") => `(tactic| with_reducible first | refine s_seq ?_ | refine s_asg ?_ | refine s_gname ?_ | refine s_ret ?_ | refine s_retN ?_ | refine s_ifS ?_)
local macro_rules | `(tactic| walk_at "zi") => `(tactic| ((with_reducible refine ite_t ?h1 ?q1); (case h1 => rfl)))
local macro_rules | `(tactic| walk_at "zi") => `(tactic| ((with_reducible refine ite_f ?h1 ?q1); (case h1 => rfl)))
local macro_rules | `(tactic| walk_at "zi") => `(tactic| walk_at "z")
local macro_rules | `(tactic| walk_at "zn") => `(tactic| (intro p hp; generalize eH : upd _ p _ = H2; have s2 := newS hp eH; have e2 := newE eH; clear eH))
local macro_rules | `(tactic| walk_at "zt") => `(tactic| ((with_reducible refine And.intro ?h1 ?_); (case h1 => exact Nat.le_of_ble_eq_true rfl); intro p hp; generalize eH : upd _ p _ = H2; have s2 := newS hp eH; have e2 := newE eH; clear eH))
local macro_rules | `(tactic| walk_at "hl") => `(tactic| ((with_reducible apply ev_same); (· assumption); · walk_at "hl"))
local macro_rules | `(tactic| walk_at "hl") => `(tactic| ((with_reducible apply mh_same); (· assumption); · walk_at "hl"))
local macro_rules | `(tactic| walk_at "hl") => `(tactic| ((with_reducible apply hs_same); (· assumption); · walk_at "hl"))
local macro_rules | `(tactic| walk_at "hl") => `(tactic| ((with_reducible apply mst_same); (· assumption); · walk_at "hl"))
local macro_rules | `(tactic| walk_at "hl") => `(tactic| ((with_reducible apply plm_same); (· assumption); · walk_at "hl"))
local macro_rules | `(tactic| walk_at "hl") => `(tactic| ((with_reducible apply md_same); (· assumption); · walk_at "hl"))
local macro_rules | `(tactic| walk_at "hl") => `(tactic| ((with_reducible apply row_same); (· assumption); · walk_at "hl"))
local macro_rules | `(tactic| walk_at "hl") => `(tactic| ((with_reducible apply sg_same); (· assumption); · walk_at "hl"))
local macro_rules | `(tactic| walk_at "hl") => `(tactic| ((with_reducible apply cst_same); (· assumption); · walk_at "hl"))
local macro_rules | `(tactic| walk_at "hl") => `(tactic| ((with_reducible apply co_same); (· assumption); · walk_at "hl"))
local macro_rules | `(tactic| walk_at "hl") => `(tactic| ((with_reducible apply bd_same); (· assumption); · walk_at "hl"))
local macro_rules | `(tactic| walk_at "hl") => `(tactic| ((with_reducible apply pl_same); (· assumption); · walk_at "hl"))
local macro_rules | `(tactic| walk_at "hl") => `(tactic| ((with_reducible apply dpA_same); (· assumption); · walk_at "hl"))
local macro_rules | `(tactic| walk_at "hl") => `(tactic| ((with_reducible apply dp_same); (· assumption); · walk_at "hl"))
local macro_rules | `(tactic| walk_at "hl") => `(tactic| ((with_reducible apply SqL.of); · walk_at "hl"))
local macro_rules | `(tactic| walk_at "hl") => `(tactic| ((with_reducible apply SqT.of); · walk_at "hl"))
local macro_rules | `(tactic| walk_at "hl") => `(tactic| ((with_reducible apply sqL_same); (· assumption); · walk_at "hl"))
local macro_rules | `(tactic| walk_at "hl") => `(tactic| ((with_reducible apply sqT_same); (· assumption); · walk_at "hl"))
local macro_rules | `(tactic| walk_at "hl") => `(tactic| ((with_reducible apply at_same); (· assumption); · walk_at "hl"))
local macro_rules | `(tactic| walk_at "hl") => `(tactic| assumption)
local macro_rules | `(tactic| walk_at "lk") => `(tactic| with_reducible first | exact coF_fr | exact coF_lim | exact coF_jo)
local macro_rules | `(tactic| walk_at "lk") => `(tactic| with_reducible first | exact bdF_hi | exact bdF_ta | exact bdF_ra | exact bdF_jo | exact sgF_plan | exact sgF_board | exact sgF_core | exact sgF_time | exact sgF_sums | exact coF_plan)
local macro_rules | `(tactic| walk_at "lk") => `(tactic| with_reducible first | exact hsF_mo | exact hsF_tu | exact hsF_rc | exact hsF_ho | exact hsF_bs | exact hsF_ds | exact hsF_ev | exact bdF_plan | exact bdF_sh | exact bdF_wa)
local macro_rules | `(tactic| walk_at "lk") => `(tactic| with_reducible first | exact bdF_re | exact bdF_wt | exact hsF_plan | exact hsF_size | exact hsF_rr | exact hsF_sr | exact hsF_wy | exact hsF_li | exact hsF_bd | exact hsF_co)
local macro_rules | `(tactic| walk_at "lk") => `(tactic| with_reducible first | exact wvF_plan | exact wvF_size | exact plF_lr | exact plF_wr | exact plF_rn | exact plF_wn | exact bdF_tm | exact bdF_hr | exact bdF_sp | exact bdF_ru)
local macro_rules | `(tactic| walk_at "mk") => `(tactic| with_reducible first | exact mk_bar | exact mk_jo | exact mk_now | exact mk_lg | exact mk_sp | exact mk_jn | exact mk_ln | exact mk_wk)
local macro_rules | `(tactic| walk_at "mk") => `(tactic| with_reducible first | exact mh_times | exact mh_done | exact mc_ca | exact mc_bar | exact mc_jo | exact mk_ca | exact mk_ed | exact mk_hi | exact mk_up | exact mk_sh)
local macro_rules | `(tactic| walk_at "mk") => `(tactic| with_reducible first | exact mh_fates | exact mh_lines | exact mh_works | exact mh_routes | exact mh_storms | exact mh_spots | exact mh_turns | exact mh_holds | exact mh_last | exact mh_begun)
local macro_rules | `(tactic| walk_at "mk") => `(tactic| with_reducible first | exact mh_modes | exact mh_cores | exact mh_now | exact mh_order | exact mh_shut | exact mh_wanted | exact mh_high | exact mh_flags | exact mh_log | exact mh_rings)
local macro_rules | `(tactic| walk_at "cl") => `(tactic| with_reducible first | exact Txt.cl_InvalidSetup (by assumption) | exact Txt.cl_UnknownLine (by assumption) | exact Txt.cl_Setup (by assumption))
local macro_rules | `(tactic| walk_at "na") => `(tactic| with_reducible first | exact Txt.n_InvalidSetup_part (by assumption) | exact Txt.n_InvalidSetup_index (by assumption) | exact Txt.n_UnknownLine_line (by assumption) | exact Txt.n_Setup_line_rows (by assumption) | exact Txt.n_Setup_work_rows (by assumption) | exact Txt.n_Setup_rows_by_name (by assumption) | exact Txt.n_Setup_works_by_name (by assumption))
local macro_rules | `(tactic| walk_at "zz") => `(tactic| walk_at "zt")
local macro_rules | `(tactic| walk_at "zz") => `(tactic| ((with_reducible apply s_dgS); (· walk_at "hl"); (· walk_at "mk")))
local macro_rules | `(tactic| walk_at "zz") => `(tactic| ((with_reducible apply s_ixL); (· walk_at "hl"); (· with_reducible first | exact at0 | exact at1 | exact at2 | exact at3 | exact at4)))
local macro_rules | `(tactic| walk_at "zz") => `(tactic| ((with_reducible apply s_ixT); (· walk_at "hl"); (· with_reducible first | exact at0 | exact at1 | exact at2 | exact at3 | exact at4)))
local macro_rules | `(tactic| walk_at "zz") => `(tactic| ((with_reducible apply s_propat); (· walk_at "hl")))
local macro_rules | `(tactic| walk_at "zz") => `(tactic| ((with_reducible apply s_methat); (· walk_at "hl"); (· kernel_rfl)))
local macro_rules | `(tactic| walk_at "zz") => `(tactic| ((with_reducible apply s_fldat); (· walk_at "hl"); (· walk_at "cl"); (· walk_at "na"); (· walk_at "lk")))
local macro_rules | `(tactic| walk_at "zz") => `(tactic| walk_at "zi")
local macro_rules | `(tactic| walk_at "orz") => `(tactic| walk_at "zt")
local macro_rules | `(tactic| walk_at "orz") => `(tactic| ((with_reducible apply s_dgS); (· walk_at "hl"); (· walk_at "mk")))
local macro_rules | `(tactic| walk_at "orz") => `(tactic| ((with_reducible apply s_ixL); (· walk_at "hl"); (· with_reducible first | exact at0 | exact at1 | exact at2 | exact at3 | exact at4)))
local macro_rules | `(tactic| walk_at "orz") => `(tactic| ((with_reducible apply s_ixT); (· walk_at "hl"); (· with_reducible first | exact at0 | exact at1 | exact at2 | exact at3 | exact at4)))
local macro_rules | `(tactic| walk_at "orz") => `(tactic| ((with_reducible apply s_propat); (· walk_at "hl")))
local macro_rules | `(tactic| walk_at "orz") => `(tactic| ((with_reducible apply s_methat); (· walk_at "hl"); (· kernel_rfl)))
local macro_rules | `(tactic| walk_at "orz") => `(tactic| ((with_reducible apply s_fldat); (· walk_at "hl"); (· walk_at "cl"); (· walk_at "na"); (· walk_at "lk")))
local macro_rules | `(tactic| walk_at "orz") => `(tactic| ((with_reducible apply ite_t); (· rfl)))
local macro_rules | `(tactic| walk_at "orz") => `(tactic| ((with_reducible apply ite_f); (· rfl)))
local macro_rules | `(tactic| walk_at "orz") => `(tactic| with_reducible first | refine ⟨_, _, rfl, rfl, ?_⟩ | refine ⟨_, rfl, ?_⟩)
local macro_rules | `(tactic| walk_at "orz") => `(tactic| ((with_reducible apply s_isi); (· assumption); (· decide)))
local macro_rules | `(tactic| walk_at "orz") => `(tactic| with_reducible first | refine s_tup ?_ | refine s_lst ?_)
local macro_rules | `(tactic| walk_at "orz") => `(tactic| ((with_reducible apply s_ne); (· exact rfl)))
local macro_rules | `(tactic| walk_at "orz") => `(tactic| ((with_reducible apply s_eq); (· exact rfl)))
local macro_rules | `(tactic| walk_at "orz") => `(tactic| with_reducible first | refine s_lcE ?_ | refine s_lc ?_ | refine s_dcT ?_ | refine s_cvalg ?_ | refine s_I0 ?_ | refine s_U ?_)
local macro_rules | `(tactic| walk_at "orz") => `(tactic| with_reducible first | refine Or.inl (Exists.intro _ (And.intro rfl ?_)) | refine Or.inr (Exists.intro _ (And.intro rfl ?_)) | refine s_make ?_ | refine s_sl ?_ | refine s_nop ?_ | refine s_part ?_)
local macro_rules | `(tactic| walk_at "orz") => `(tactic| with_reducible first | refine s_get2 ?_ | refine s_callI ?_ | refine s_for ?_ | refine s_rng1 ?_ | refine s_iT ?_ | refine s_iL ?_)
local macro_rules | `(tactic| walk_at "orz") => `(tactic| with_reducible first | refine s_lcL ?_ | refine s_dputg ?_ | refine s_tupRg ?_ | refine s_lstRg ?_ | refine s_rg1 ?_ | refine s_items ?_)
local macro_rules | `(tactic| walk_at "orz") => `(tactic| with_reducible first | refine s_daugg ?_ | refine s_disp ?_ | refine s_gsub ?_ | refine s_fldaug ?_ | refine s_ipI ?_ | refine s_ixO ?_)
local macro_rules | `(tactic| walk_at "orz") => `(tactic| with_reducible first | refine s_chain ?_ | refine s_yes ?_ | refine s_din ?_ | refine s_dnin ?_ | refine s_bm0 ?_ | refine s_lcT ?_)
local macro_rules | `(tactic| walk_at "orz") => `(tactic| with_reducible first | refine s_un ?_ | refine s_star ?_ | refine s_and ?_ | refine s_or ?_ | refine s_orV ?_ | refine s_notV ?_)
local macro_rules | `(tactic| walk_at "orz") => `(tactic| with_reducible first | refine s_augS ?_ | refine s_retN ?_ | refine s_cont ?_ | refine s_break ?_ | refine s_par ?_ | refine s_par2 ?_)
local macro_rules | `(tactic| walk_at "orz") => `(tactic| with_reducible first | refine s_andV ?_ | refine s_add ?_ | refine s_prop ?_ | refine s_pnil ?_ | refine s_cb ?_ | refine s_not ?_)
local macro_rules | `(tactic| walk_at "orz") => `(tactic| with_reducible first | refine s_call ?_ | refine s_pcons ?_ | refine s_bm ?_ | refine s_if ?_ | refine s_gcons ?_ | refine s_gnil ?_)
local macro_rules | `(tactic| walk_at "orz") => `(tactic| with_reducible first | refine s_next ?_ | refine s_gname ?_ | refine s_drop ?_ | refine s_meth ?_ | refine s_fldS ?_ | refine s_asg ?_)
local macro_rules | `(tactic| walk_at "orz") => `(tactic| with_reducible first | refine s_fldg ?_ | refine s_ifS ?_ | refine s_dget ?_ | refine s_ret ?_ | refine s_B ?_ | refine s_test ?_)
local macro_rules | `(tactic| walk_at "orz") => `(tactic| with_reducible first | refine s_cons ?_ | refine s_c ?_ | refine s_nil ?_ | refine s_seq ?_ | refine s_op ?_ | refine s_bl ?_)
local macro_rules | `(tactic| walk_at "orz") => `(tactic| ((with_reducible apply s_var); (· exact rfl)))
local macro_rules | `(tactic| walk_at "rz") => `(tactic| repeat walk_at "orz")
local macro_rules | `(tactic| walk_at "zm") => `(tactic| (intro x dx hx hdx hne; generalize eH : upd (upd _ dx _) x _ = H2; have s2 := mkS hx hdx eH; have e2 := mkE eH; clear eH hdx hne))
local macro_rules | `(tactic| walk_at "zb") => `(tactic| with_reducible first | refine s_gcons ?_ | refine s_gnil ?_ | refine s_gname ?_ | refine s_seq ?_ | refine s_ifS ?_ | refine s_if ?_ | refine s_next ?_ | refine s_drop ?_ | refine s_ret ?_ | refine s_asg ?_)
def xdS (p : Str) (i : Nat) : HO := .xd [("index", .int (i : Nat)), ("part", .str p)]
def spExSetup (K : Fg) : Sp := fun vs H Q _ => ∃ (a : Addr) (p : Str) (i : Nat), vs = [.ref a, .str p, .int (i : Nat)] ∧ H a = some (exo a (ga K "InvalidSetup") none) ∧ i ≤ 1000 ∧ p.length ≤ 100 ∧ ∀ dx H', H dx = none → dx ≠ a → H' = upd (upd H dx (exd dx [("index", .int (i : Nat)), ("part", .str p)])) a (exo a (ga K "InvalidSetup") (some dx)) → Q .non H'
structure BadAt (ok : PyData → Bool) (most : Nat) (ls : List PyData) (k : Nat) : Prop where
  le : k ≤ most
  bad : ∃ d, ls[k]? = some d ∧ (k = most ∨ ok d = false ∨ (ok d = true ∧ nameD d ∈ (ls.take k).map nameD))
  ok : ∀ d ∈ ls.take k, ok d = true
  nd : ((ls.take k).map nameD).Nodup
structure GoodL (ok : PyData → Bool) (most : Nat) (ls : List PyData) : Prop where
  le : ls.length ≤ most
  ok : ∀ d ∈ ls, ok d = true
  nd : (ls.map nameD).Nodup
def spCheckX (K : Fg) (ok : PyData → Bool) (part : Str) : Sp := fun vs H Q E => ∃ v ls, ∃ most : Nat, vs = [v, .int (most : Nat)] ∧ Dp K H v (.tuple ls) ∧ shorts ls = true ∧ most ≤ 100 ∧
  ((∃ k, BadAt ok most ls k ∧ ∀ dx H', Same H H' → H' dx = some (xdS part k) → E (.ref (ga K "InvalidSetup")) (some dx) H') ∨ (GoodL ok most ls ∧ ∀ H', Same H H' → Q .non H'))
section
variable {P : Program} {w : World} {K : Fg} {mg : Str → Option Value} {base : Heap}
theorem ok_InvalidSetup_init (T : Txt K mg) : FnOk P w K mg base (L2.CX P w) 1 (ma K (ga K "InvalidSetup") "__init__") (fdOf K (ma K (ga K "InvalidSetup") "__init__")) ["self", "part", "index"] (spExSetup K) := by
  refine FunD.ok T.F_InvalidSetup_init sc_InvalidSetup_init (fun vs H Q E h => ?_) (fun cdv A outer s H vs Q E hr h => ⟨_, PSs.nox (pss_cons (ps_expr (z_veinit (z_ref T.g_BellError) T.vi_BellError (pa_cons (pv 0) (pa_cons (pe_joined (.cons pe_str (.cons (pe_fmt (pv 1)) (.cons pe_str (.cons (pe_fmt (pv 2)) .nil))))) pa_nil))))
      (pss_cons (ps_ost (pv 0) (pv 1))
      (pss_one (ps_ost (pv 0) (pv 2))))), ?_⟩)
  · obtain ⟨a, p, i, rfl, _⟩ := h
    rfl
  obtain ⟨a, p, i, rfl, ha, hi, hp, q⟩ := h
  show (_ : TS) _ [some (.ref a), some (.str p), some (.int (i : Nat))] H
  try dsimp only [cxOf]
  walk_at "rz"
  refine s_bin ?_
  walk_at "rz"
  refine ⟨rfl, ?_⟩
  unfold tVeI
  walk_at "rz"
  have l8 : ("invalid " : Str).length = 8 := by decide
  have l10 : (" at index " : Str).length = 10 := by decide
  have ly : (Str.ofString (toString ((i : Nat) : Int))).length ≤ 10 := by
    rw [PySem.ofString_length]
    exact Nat.le_trans (int_text_length_le10 (k := 4) (by decide) (by show i < 10 ^ 4; omega)) (by decide)
  have e0 : (Str.empty ++ ("invalid " : Str)) = ("invalid " : Str) := by decide
  refine ⟨_, rfl, by decide, ⟨_, rfl, .inl ⟨p, rfl, by rw [sizeLine_eq]; omega, _, rfl, ?_, ?_⟩⟩⟩
  · rw [e0, str_len_app, sizeLine_eq]
    omega
  rw [e0]
  refine ⟨_, rfl, by rw [str_len_app, str_len_app, sizeLine_eq]; omega, ⟨_, rfl, .inr ⟨_, rfl, ?_, ?_⟩⟩⟩
  · show Nat.log2 i < 1920
    exact Nat.lt_of_le_of_lt (Nat.log2_le_self i) (by omega)
  refine ⟨_, rfl, ?_, ?_⟩
  · rw [str_len_app, str_len_app, str_len_app, sizeLine_eq]
    omega
  refine ⟨a, ga K "InvalidSetup", _, rfl, by simp, T.xo_InvalidSetup, ha, ?_⟩
  refine ⟨_, rfl, .ref a, rfl, a, ga K "InvalidSetup", rfl, T.xo_InvalidSetup, T.xn_InvalidSetup_part, .inl ⟨ha, fun dx hdx hne => ?_⟩⟩
  refine ⟨_, rfl, .ref a, rfl, a, ga K "InvalidSetup", rfl, T.xo_InvalidSetup, T.xn_InvalidSetup_index, .inr ⟨dx, _, upd_same, by rw [upd_ne hne, upd_same], by simp, ?_⟩⟩
  refine q dx _ hdx hne ?_
  funext b
  by_cases hb : b = dx
  · subst hb
    rw [upd_same, upd_ne hne, upd_same]
  · rw [upd_ne hb]
    by_cases hb2 : b = a
    · subst hb2
      rw [upd_same, upd_same]
    · rw [upd_ne hb2, upd_ne hb2, upd_ne hb, upd_ne hb]
theorem ok_check_lines_x (T : Txt K mg) : FnOk P w K mg base (L2.CX P w) 4 (ga K "check_lines") (fdOf K (ga K "check_lines")) ["lines", "most"] (spCheckX K isLine "lines") := by
  refine FunD.ok T.F_check_lines sc_check_lines (fun vs H Q E h => ?_) (fun cdv A outer s H vs Q E hr h => ⟨_, (pss_cons (zset 2 sc_check_lines.nd (pe_lst pa_nil))
      (pss_one (ps_for PassesOwn.leaving rfl (kIET K (pi_enumT (by rfl) T.u_enumerate (pa_cons (pv 0) pa_nil))) (kGT K (pg_tup (n := 2) rfl (pgs_cons (zg 3 sc_check_lines.nd) (pgs_cons (zg 4 sc_check_lines.nd) pgs_nil))))
      (pss_cons (ps_if (PW.pt (pw_or (pt_cmpR op_eq (pv 3) (pv 1) (nomark _)) (pw_or (pt_not (pt_val (z_call (ok_is_line T) T.c_is_line (hr.mono (by decide)) rfl T.g_is_line passL (pa_cons (pv 4) pa_nil)))) (pw_or1 (pt_cmpR (op_in_seqK K) (pe_ix (ix_tupK K) (pv 4) pe_int (fun _ _ => rfl)) (pv 2) (by rfl)))))) (pss_one (ps_raise rfl (takes_of rfl rfl rfl rfl) (z_mkX T.xo_InvalidSetup T.xi_InvalidSetup (ok_InvalidSetup_init T) T.c_InvalidSetup_init (hr.mono (by decide)) rfl T.g_InvalidSetup (pa_cons pe_str (pa_cons (pv 3) pa_nil))))) pss_nil)
      (pss_one (ps_expr (kBM K (pe_bm PySem.F.plainAttrs_list PySem.F.slot_list_append PySem.F.type_list_append mt_append (pv 2) (pa_cons (pe_ix (ix_tupK K) (pv 4) pe_int (fun _ _ => rfl)) pa_nil))))))))), ?_⟩)
  · obtain ⟨v, ls, most, rfl, _⟩ := h
    rfl
  obtain ⟨v, ls, most, rfl, hd, hz, hm, hR⟩ := h
  obtain ⟨a, xs, rfl, hT, hA⟩ := hd.tupI
  have lxs : xs.length = ls.length := hA.len
  show (_ : TS) _ [some (.ref a), some (.int (most : Nat)), none, none, none] H
  try dsimp only [cxOf]
  walk_at "rz"
  rename_i l hl H1 s1 e1
  refine ⟨_, rfl, a, xs, rfl, s1.sqT hT, for_it walk_enumT (fun i σ H' => (∃ v3 v4, σ = [some (.ref a), some (.int (most : Nat)), some (.ref l), v3, v4]) ∧ Same H H' ∧ H' l = some (.lst (((ls.map nameD).take i).map V.str)) ∧ (∀ k, BadAt isLine most ls k → i ≤ k)) ⟨⟨none, none, rfl⟩, s1, e1, fun k _ => Nat.zero_le k⟩ (fun i σ H' _ ⟨_, s2, _⟩ => s2.sqT hT) (fun i x σ H2 H3 hi ⟨⟨v3, v4, es⟩, s2, e2, ik⟩ y => ?_) (fun σ H' ⟨⟨v3, v4, es⟩, s2, e2, ik⟩ => ?_)⟩
  rotate_left
  · subst es
    rcases hR with ⟨k, hk, _⟩ | ⟨_, q⟩
    · have h1 := ik k hk
      obtain ⟨d, h2, _⟩ := hk.bad
      have := (List.getElem?_eq_some_iff.mp h2).1
      omega
    · walk_at "rz"
      exact q _ s2
  subst es
  obtain ⟨t, _, pv, rfl, ht, rfl, h1, h2⟩ := y
  cases h1
  generalize eH : upd H2 t _ = H3
  have s3 := newS ht eH
  have e3 := newE eH
  clear eH
  have hpv : xs[i]? = some pv := h2
  obtain ⟨d, hdi, hdd⟩ := hA.getv hpv
  have hmem : d ∈ ls := List.mem_of_getElem? hdi
  have hix : i < ls.length := (List.getElem?_eq_some_iff.mp hdi).1
  have i100 : i ≤ 100 := by
    rcases hR with ⟨k, hk, _⟩ | ⟨hg, _⟩
    · have := ik k hk
      have := hk.le
      omega
    · have := hg.le
      omega
  -- the raise
  have fin : ∀ H4, Same H H4 → (∀ k, BadAt isLine most ls k → k ≤ i) → (GoodL isLine most ls → False) → tMkO (ga K "InvalidSetup") (spExSetup K) [] (tCons (tC (.str "lines")) (tCons (tVar 3) tNil)) [some (.ref a), some (.int (most : Nat)), some (.ref l), some (.int (i : Nat)), some pv] H4 (fun cls d H' => E cls d H') := fun H4 s4 hki hno => by
    rcases hR with ⟨k, hk, q⟩ | ⟨hg, _⟩
    · have e : k = i := Nat.le_antisymm (hki k hk) (ik k hk)
      subst e
      unfold tMkO
      refine s_cons ?_
      unfold tC
      refine s_cons (s_var (v := .int (k : Nat)) rfl (s_nil ⟨by simp, fun ax hax => ?_⟩))
      refine ⟨ax, "lines", k, rfl, upd_same, by omega, by decide, fun dx H' hdx hne e => ?_⟩
      subst e
      rw [upd_ne hne] at hdx
      refine ⟨rfl, dx, [("index", .int (k : Nat)), ("part", .str "lines")], upd_same, by rw [upd_ne hne, upd_same], hdx, ?_⟩
      exact q dx _ (s4.trans (same_xd hax hdx hne)) upd_same
    · exact (hno hg).elim
  refine s_gtup (SqT.of e3) rfl ?_
  walk_at "rz"
  by_cases him : i = most
  · refine ite_t (decide_eq_true (by rw [him])) ?_
    walk_at "rz"
    exact fin H3 (s2.trans s3) (fun k hk => by have := hk.le; omega) (fun hg => by have := hg.le; omega)
  refine ite_f (decide_eq_false (fun e => by injection e with e; omega)) ?_
  walk_at "rz"
  have hdi2 : ∀ k, i < k → d ∈ ls.take k := fun k hk => List.mem_of_getElem? (i := i) (by rw [List.getElem?_take_of_lt hk]; exact hdi)
  have s23 := s2.trans s3
  refine ⟨pv, d, rfl, hdd.same s23, shorts_at hz hmem, fun H4 s4 => ?_⟩
  have s04 := s23.trans s4
  have e4 : H4 l = some (.lst (((ls.map nameD).take i).map V.str)) := s4 _ _ (s3 _ _ e2)
  cases hok : isLine d with
  | false =>
    walk_at "rz"
    exact fin H4 s04 (fun k hk => by
      rcases Nat.lt_or_ge i k with h | h
      · have := hk.ok d (hdi2 k h)
        rw [hok] at this
        cases this
      · exact h) (fun hg => by
      have := hg.ok d hmem
      rw [hok] at this
      cases this)
  | true =>
    walk_at "rz"
    obtain ⟨nm, rest, hd5⟩ := isLine_name2 hok
    subst hd5
    obtain ⟨b, zs, rfl, hTb, hAb⟩ := (hdd.same s04).tupI
    cases hAb with | cons b1 hAb => ?_
    cases b1
    refine s_ixT hTb (at_of (j := 0) rfl rfl) ?_
    walk_at "rz"
    have hnm : (ls.map nameD)[i]? = some nm := by
      rw [List.getElem?_map, hdi]
      rfl
    have etk : ∀ k, (ls.take k).map nameD = (ls.map nameD).take k := fun k => List.map_take
    refine s_in (.inl (SqL.of e4)) rfl flat_strs ?_
    walk_at "rz"
    by_cases hin : nm ∈ (ls.map nameD).take i
    · refine ite_t (by rw [if_neg (by decide), inV_strs]; exact decide_eq_true hin) ?_
      walk_at "rz"
      have twice : ∀ k, i < k → ((ls.map nameD).take k).Nodup → False := fun k hk nd => by
        obtain ⟨j, hj⟩ := List.getElem?_of_mem hin
        have hji : j < i := by
          have := (List.getElem?_eq_some_iff.mp hj).1
          rw [List.length_take] at this
          omega
        rw [List.getElem?_take_of_lt hji] at hj
        have h1 : ((ls.map nameD).take k)[j]? = some nm := by rw [List.getElem?_take_of_lt (by omega)]; exact hj
        have h2 : ((ls.map nameD).take k)[i]? = some nm := by rw [List.getElem?_take_of_lt hk]; exact hnm
        have := (List.getElem?_inj (List.getElem?_eq_some_iff.mp h1).1 nd).mp (h1.trans h2.symm)
        omega
      exact fin H4 s04 (fun k hk => by
        rcases Nat.lt_or_ge i k with h | h
        · exact (twice k h (by rw [← etk]; exact hk.nd)).elim
        · exact h) (fun hg => twice ls.length hix (by rw [← List.length_map (as := ls) (f := nameD), List.take_length]; exact hg.nd))
    · refine ite_f (by rw [if_neg (by decide), inV_strs]; exact decide_eq_false hin) ?_
      walk_at "rz"
      refine s_tyL e4 ?_
      walk_at "rz"
      refine s_append e4 ?_ ?_
      · rw [List.length_map, List.length_take, List.length_map, sizeLine_eq]
        omega
      refine ⟨⟨_, _, rfl⟩, fun c o h => ?_, ?_, fun k hk => ?_⟩
      · rw [upd_ne (ne_of_none h hl)]
        exact s04 _ _ h
      · rw [upd_same, List.take_add_one, hnm, List.map_append]
        rfl
      · have h1 := ik k hk
        rcases Nat.lt_or_ge i k with h | h
        · exact h
        · have e : k = i := by omega
          subst e
          obtain ⟨d2, h2, h3⟩ := hk.bad
          rw [hdi] at h2
          cases h2
          rcases h3 with h3 | h3 | ⟨_, h3⟩
          · exact absurd h3 him
          · rw [hok] at h3; cases h3
          · rw [etk] at h3
            exact absurd h3 hin
theorem ok_check_works_x (T : Txt K mg) : FnOk P w K mg base (L2.CX P w) 4 (ga K "check_works") (fdOf K (ga K "check_works")) ["works", "most"] (spCheckX K isWork "works") := by
  refine FunD.ok T.F_check_works sc_check_works (fun vs H Q E h => ?_) (fun cdv A outer s H vs Q E hr h => ⟨_, (pss_cons (zset 2 sc_check_works.nd (pe_lst pa_nil))
      (pss_one (ps_for PassesOwn.leaving rfl (kIET K (pi_enumT (by rfl) T.u_enumerate (pa_cons (pv 0) pa_nil))) (kGT K (pg_tup (n := 2) rfl (pgs_cons (zg 3 sc_check_works.nd) (pgs_cons (zg 4 sc_check_works.nd) pgs_nil))))
      (pss_cons (ps_if (PW.pt (pw_or (pt_cmpR op_eq (pv 3) (pv 1) (nomark _)) (pw_or (pt_not (pt_val (z_call (ok_is_work T) T.c_is_work (hr.mono (by decide)) rfl T.g_is_work passL (pa_cons (pv 4) pa_nil)))) (pw_or1 (pt_cmpR (op_in_seqK K) (pe_ix (ix_tupK K) (pv 4) pe_int (fun _ _ => rfl)) (pv 2) (by rfl)))))) (pss_one (ps_raise rfl (takes_of rfl rfl rfl rfl) (z_mkX T.xo_InvalidSetup T.xi_InvalidSetup (ok_InvalidSetup_init T) T.c_InvalidSetup_init (hr.mono (by decide)) rfl T.g_InvalidSetup (pa_cons pe_str (pa_cons (pv 3) pa_nil))))) pss_nil)
      (pss_one (ps_expr (kBM K (pe_bm PySem.F.plainAttrs_list PySem.F.slot_list_append PySem.F.type_list_append mt_append (pv 2) (pa_cons (pe_ix (ix_tupK K) (pv 4) pe_int (fun _ _ => rfl)) pa_nil))))))))), ?_⟩)
  · obtain ⟨v, ls, most, rfl, _⟩ := h
    rfl
  obtain ⟨v, ls, most, rfl, hd, hz, hm, hR⟩ := h
  obtain ⟨a, xs, rfl, hT, hA⟩ := hd.tupI
  have lxs : xs.length = ls.length := hA.len
  show (_ : TS) _ [some (.ref a), some (.int (most : Nat)), none, none, none] H
  try dsimp only [cxOf]
  walk_at "rz"
  rename_i l hl H1 s1 e1
  refine ⟨_, rfl, a, xs, rfl, s1.sqT hT, for_it walk_enumT (fun i σ H' => (∃ v3 v4, σ = [some (.ref a), some (.int (most : Nat)), some (.ref l), v3, v4]) ∧ Same H H' ∧ H' l = some (.lst (((ls.map nameD).take i).map V.str)) ∧ (∀ k, BadAt isWork most ls k → i ≤ k)) ⟨⟨none, none, rfl⟩, s1, e1, fun k _ => Nat.zero_le k⟩ (fun i σ H' _ ⟨_, s2, _⟩ => s2.sqT hT) (fun i x σ H2 H3 hi ⟨⟨v3, v4, es⟩, s2, e2, ik⟩ y => ?_) (fun σ H' ⟨⟨v3, v4, es⟩, s2, e2, ik⟩ => ?_)⟩
  rotate_left
  · subst es
    rcases hR with ⟨k, hk, _⟩ | ⟨_, q⟩
    · have h1 := ik k hk
      obtain ⟨d, h2, _⟩ := hk.bad
      have := (List.getElem?_eq_some_iff.mp h2).1
      omega
    · walk_at "rz"
      exact q _ s2
  subst es
  obtain ⟨t, _, pv, rfl, ht, rfl, h1, h2⟩ := y
  cases h1
  generalize eH : upd H2 t _ = H3
  have s3 := newS ht eH
  have e3 := newE eH
  clear eH
  have hpv : xs[i]? = some pv := h2
  obtain ⟨d, hdi, hdd⟩ := hA.getv hpv
  have hmem : d ∈ ls := List.mem_of_getElem? hdi
  have hix : i < ls.length := (List.getElem?_eq_some_iff.mp hdi).1
  have i100 : i ≤ 100 := by
    rcases hR with ⟨k, hk, _⟩ | ⟨hg, _⟩
    · have := ik k hk
      have := hk.le
      omega
    · have := hg.le
      omega
  -- the raise
  have fin : ∀ H4, Same H H4 → (∀ k, BadAt isWork most ls k → k ≤ i) → (GoodL isWork most ls → False) → tMkO (ga K "InvalidSetup") (spExSetup K) [] (tCons (tC (.str "works")) (tCons (tVar 3) tNil)) [some (.ref a), some (.int (most : Nat)), some (.ref l), some (.int (i : Nat)), some pv] H4 (fun cls d H' => E cls d H') := fun H4 s4 hki hno => by
    rcases hR with ⟨k, hk, q⟩ | ⟨hg, _⟩
    · have e : k = i := Nat.le_antisymm (hki k hk) (ik k hk)
      subst e
      unfold tMkO
      refine s_cons ?_
      unfold tC
      refine s_cons (s_var (v := .int (k : Nat)) rfl (s_nil ⟨by simp, fun ax hax => ?_⟩))
      refine ⟨ax, "works", k, rfl, upd_same, by omega, by decide, fun dx H' hdx hne e => ?_⟩
      subst e
      rw [upd_ne hne] at hdx
      refine ⟨rfl, dx, [("index", .int (k : Nat)), ("part", .str "works")], upd_same, by rw [upd_ne hne, upd_same], hdx, ?_⟩
      exact q dx _ (s4.trans (same_xd hax hdx hne)) upd_same
    · exact (hno hg).elim
  refine s_gtup (SqT.of e3) rfl ?_
  walk_at "rz"
  by_cases him : i = most
  · refine ite_t (decide_eq_true (by rw [him])) ?_
    walk_at "rz"
    exact fin H3 (s2.trans s3) (fun k hk => by have := hk.le; omega) (fun hg => by have := hg.le; omega)
  refine ite_f (decide_eq_false (fun e => by injection e with e; omega)) ?_
  walk_at "rz"
  have hdi2 : ∀ k, i < k → d ∈ ls.take k := fun k hk => List.mem_of_getElem? (i := i) (by rw [List.getElem?_take_of_lt hk]; exact hdi)
  have s23 := s2.trans s3
  refine ⟨pv, d, rfl, hdd.same s23, shorts_at hz hmem, fun H4 s4 => ?_⟩
  have s04 := s23.trans s4
  have e4 : H4 l = some (.lst (((ls.map nameD).take i).map V.str)) := s4 _ _ (s3 _ _ e2)
  cases hok : isWork d with
  | false =>
    walk_at "rz"
    exact fin H4 s04 (fun k hk => by
      rcases Nat.lt_or_ge i k with h | h
      · have := hk.ok d (hdi2 k h)
        rw [hok] at this
        cases this
      · exact h) (fun hg => by
      have := hg.ok d hmem
      rw [hok] at this
      cases this)
  | true =>
    walk_at "rz"
    obtain ⟨nm, rest, hd5⟩ := isWork_name2 hok
    subst hd5
    obtain ⟨b, zs, rfl, hTb, hAb⟩ := (hdd.same s04).tupI
    cases hAb with | cons b1 hAb => ?_
    cases b1
    refine s_ixT hTb (at_of (j := 0) rfl rfl) ?_
    walk_at "rz"
    have hnm : (ls.map nameD)[i]? = some nm := by
      rw [List.getElem?_map, hdi]
      rfl
    have etk : ∀ k, (ls.take k).map nameD = (ls.map nameD).take k := fun k => List.map_take
    refine s_in (.inl (SqL.of e4)) rfl flat_strs ?_
    walk_at "rz"
    by_cases hin : nm ∈ (ls.map nameD).take i
    · refine ite_t (by rw [if_neg (by decide), inV_strs]; exact decide_eq_true hin) ?_
      walk_at "rz"
      have twice : ∀ k, i < k → ((ls.map nameD).take k).Nodup → False := fun k hk nd => by
        obtain ⟨j, hj⟩ := List.getElem?_of_mem hin
        have hji : j < i := by
          have := (List.getElem?_eq_some_iff.mp hj).1
          rw [List.length_take] at this
          omega
        rw [List.getElem?_take_of_lt hji] at hj
        have h1 : ((ls.map nameD).take k)[j]? = some nm := by rw [List.getElem?_take_of_lt (by omega)]; exact hj
        have h2 : ((ls.map nameD).take k)[i]? = some nm := by rw [List.getElem?_take_of_lt hk]; exact hnm
        have := (List.getElem?_inj (List.getElem?_eq_some_iff.mp h1).1 nd).mp (h1.trans h2.symm)
        omega
      exact fin H4 s04 (fun k hk => by
        rcases Nat.lt_or_ge i k with h | h
        · exact (twice k h (by rw [← etk]; exact hk.nd)).elim
        · exact h) (fun hg => twice ls.length hix (by rw [← List.length_map (as := ls) (f := nameD), List.take_length]; exact hg.nd))
    · refine ite_f (by rw [if_neg (by decide), inV_strs]; exact decide_eq_false hin) ?_
      walk_at "rz"
      refine s_tyL e4 ?_
      walk_at "rz"
      refine s_append e4 ?_ ?_
      · rw [List.length_map, List.length_take, List.length_map, sizeLine_eq]
        omega
      refine ⟨⟨_, _, rfl⟩, fun c o h => ?_, ?_, fun k hk => ?_⟩
      · rw [upd_ne (ne_of_none h hl)]
        exact s04 _ _ h
      · rw [upd_same, List.take_add_one, hnm, List.map_append]
        rfl
      · have h1 := ik k hk
        rcases Nat.lt_or_ge i k with h | h
        · exact h
        · have e : k = i := by omega
          subst e
          obtain ⟨d2, h2, h3⟩ := hk.bad
          rw [hdi] at h2
          cases h2
          rcases h3 with h3 | h3 | ⟨_, h3⟩
          · exact absurd h3 him
          · rw [hok] at h3; cases h3
          · rw [etk] at h3
            exact absurd h3 hin
abbrev Lx := Str × Str × PyData × List PyData
abbrev Wx := Str × PyData × PyData
def dLx (x : Lx) : PyData := .tuple [.str x.1, .str x.2.1, x.2.2.1, .tuple x.2.2.2]
def dWx (x : Wx) : PyData := .tuple [.str x.1, x.2.1, x.2.2]
def kindsX (L : List Lx) : List (Key × V) := L.map fun x => ((.inr x.1 : Key), V.str x.2.1)
def RefS (K : Fg) (d1 d2 : PyData) (H : Hp) (E : XK) : Prop := ∃ (p : Str) (k : Nat), (∀ dx H', Same H H' → H' dx = some (xdS p k) → E (.ref (ga K "InvalidSetup")) (some dx) H') ∧
  ((p = "lines" ∧ k = 0 ∧ (isiB "tuple" d1 = false ∨ d1 = .tuple [])) ∨
   ∃ ls, d1 = .tuple ls ∧ ls ≠ [] ∧ shorts ls = true ∧
    ((p = "lines" ∧ BadAt isLine 12 ls k) ∨
     (GoodL isLine 12 ls ∧
      ((p = "works" ∧ k = 0 ∧ isiB "tuple" d2 = false) ∨
       ∃ ws, d2 = .tuple ws ∧ shorts ws = true ∧
        ((p = "works" ∧ BadAt isWork 8 ws k) ∨
         (GoodL isWork 8 ws ∧ p = "handlers" ∧ ∃ L : List Lx, ls = L.map dLx ∧ ∃ W : List Wx, ws = W.map dWx ∧
           (∃ x, L[k]? = some x ∧ x.2.2.2.all (isStep (kindsX L) (W.map fun x => V.str x.1)) = false) ∧
           ∀ (j : Nat) x, j < k → L[j]? = some x → x.2.2.2.all (isStep (kindsX L) (W.map fun x => V.str x.1)) = true))))))
def spSetupX (K : Fg) : Sp := fun vs H _ E => ∃ x dx v1 v2 d1 d2, vs = [.ref x, v1, v2] ∧ H x = some (.ins (ga K "Setup") dx []) ∧ Dp K H v1 d1 ∧ Dp K H v2 d2 ∧ RefS K d1 d2 H E
theorem ok_Setup_init_x (T : Txt K mg) : FnOk P w K mg base (L2.CX P w) 5 (ma K (ga K "Setup") "__init__") (fdOf K (ma K (ga K "Setup") "__init__")) ["self", "lines", "works"] (spSetupX K) := by
  refine FunD.ok T.F_Setup_init sc_Setup_init (fun vs H Q E h => ?_) (fun cdv A outer s H vs Q E hr h => ⟨_, (pss_cons (ps_if (PW.pt (pw_or (pt_not (pt_val (pe_callB (call_isiDK K) (by rfl) T.u_isinstance (by decide +kernel) (pa_cons (pv 1) (pa_cons (z_ty (n := "tuple") T.u_tuple) pa_nil))))) (pw_or1 (pt_cmpR (op_eq0K K hr.units) (pv 1) (pe_tup pa_nil) (nomark _))))) (pss_one (ps_raise rfl (takes_of rfl rfl rfl rfl) (z_mkX T.xo_InvalidSetup T.xi_InvalidSetup (ok_InvalidSetup_init T) T.c_InvalidSetup_init (hr.mono (by decide)) rfl T.g_InvalidSetup (pa_cons pe_str (pa_cons pe_int pa_nil))))) pss_nil)
      (pss_cons (ps_expr (z_call (ok_check_lines_x T) T.c_check_lines (hr.mono (by decide)) rfl T.g_check_lines (passes_call (takes_of rfl rfl rfl rfl) (fun _ _ _ _ h => h)) (pa_cons (pv 1) (pa_cons (ClX.pe_cval (z_ref T.g_Setup)) pa_nil))))
      (pss_cons (ps_if (pt_not (pt_val (pe_callB (call_isiDK K) (by rfl) T.u_isinstance (by decide +kernel) (pa_cons (pv 2) (pa_cons (z_ty (n := "tuple") T.u_tuple) pa_nil))))) (pss_one (ps_raise rfl (takes_of rfl rfl rfl rfl) (z_mkX T.xo_InvalidSetup T.xi_InvalidSetup (ok_InvalidSetup_init T) T.c_InvalidSetup_init (hr.mono (by decide)) rfl T.g_InvalidSetup (pa_cons pe_str (pa_cons pe_int pa_nil))))) pss_nil)
      (pss_cons (ps_expr (z_call (ok_check_works_x T) T.c_check_works (hr.mono (by decide)) rfl T.g_check_works (passes_call (takes_of rfl rfl rfl rfl) (fun _ _ _ _ h => h)) (pa_cons (pv 2) (pa_cons (ClX.pe_cval (z_ref T.g_Setup)) pa_nil))))
      (pss_cons (zset 3 sc_Setup_init.nd (pe_dc (own := [("line", 6)]) rfl sc_Setup_init.nd (kIT K (pi_tup (pv 1))) (blkOk_by (own := [("line", 6)]) (N := n_Setup_init) (sc := defScope s_Setup_init) (by decide +kernel)) (fun _ _ _ _ _ => (zg 6 sc_Setup_init.nd)) (fun _ _ _ _ _ => pts_nil) (fun _ _ _ _ _ => (pe_ix (ix_tupK K) (pv 6) pe_int (fun _ _ => rfl))) (fun _ _ _ _ _ => (pe_ix (ix_tupK K) (pv 6) pe_int (fun _ _ => rfl)))))
      (pss_cons (zset 4 sc_Setup_init.nd (pe_lc (own := [("work", 7)]) rfl sc_Setup_init.nd (kIT K (pi_tup (pv 2))) (blkOk_by (own := [("work", 7)]) (N := n_Setup_init) (sc := defScope s_Setup_init) (by decide +kernel)) (fun _ _ _ _ _ => (zg 7 sc_Setup_init.nd)) (fun _ _ _ _ _ => pts_nil) (fun _ _ _ _ _ => (pe_ix (ix_tupK K) (pv 7) pe_int (fun _ _ => rfl)))))
      (pss_cons (ps_for PassesOwn.leaving rfl (kIET K (pi_enumT (by rfl) T.u_enumerate (pa_cons (pv 1) pa_nil))) (kGT K (pg_tup (n := 2) rfl (pgs_cons (zg 5 sc_Setup_init.nd) (pgs_cons (zg 6 sc_Setup_init.nd) pgs_nil))))
      (pss_one (ps_if (pt_not (pt_val (pe_callB (cr_allK K rfl) (by rfl) T.u_all (by decide +kernel) (pa_cons (pe_lc (own := [("step", 8)]) rfl sc_Setup_init.nd (kIT K (pi_tup (pe_ix (ix_tupK K) (pv 6) pe_int (fun _ _ => rfl)))) (blkOk_by (own := [("step", 8)]) (N := n_Setup_init) (sc := defScope s_Setup_init) (by decide +kernel)) (fun _ _ _ _ _ => (zg 8 sc_Setup_init.nd)) (fun _ _ _ _ _ => pts_nil) (fun _ _ _ _ _ => (z_call (ok_is_step T) T.c_is_step (hr.mono (by decide)) rfl T.g_is_step passL (pa_cons (pv 8) (pa_cons (pv 3) (pa_cons (pv 4) pa_nil)))))) pa_nil)))) (pss_one (ps_raise rfl (takes_of rfl rfl rfl rfl) (z_mkX T.xo_InvalidSetup T.xi_InvalidSetup (ok_InvalidSetup_init T) T.c_InvalidSetup_init (hr.mono (by decide)) rfl T.g_InvalidSetup (pa_cons pe_str (pa_cons (pv 5) pa_nil))))) pss_nil)))
      (pss_cons (ps_fld (pv 0) (pv 1) rfl)
      (pss_cons (ps_fld (pv 0) (pv 2) rfl)
      (pss_cons (ps_fld (pv 0) (pe_dc (own := [("line", 6)]) rfl sc_Setup_init.nd (kIT K (pi_tup (pv 1))) (blkOk_by (own := [("line", 6)]) (N := n_Setup_init) (sc := defScope s_Setup_init) (by decide +kernel)) (fun _ _ _ _ _ => (zg 6 sc_Setup_init.nd)) (fun _ _ _ _ _ => pts_nil) (fun _ _ _ _ _ => (pe_ix (ix_tupK K) (pv 6) pe_int (fun _ _ => rfl))) (fun _ _ _ _ _ => (pv 6))) rfl)
      (pss_one (ps_fld (pv 0) (pe_dc (own := [("work", 7)]) rfl sc_Setup_init.nd (kIT K (pi_tup (pv 2))) (blkOk_by (own := [("work", 7)]) (N := n_Setup_init) (sc := defScope s_Setup_init) (by decide +kernel)) (fun _ _ _ _ _ => (zg 7 sc_Setup_init.nd)) (fun _ _ _ _ _ => pts_nil) (fun _ _ _ _ _ => (pe_ix (ix_tupK K) (pv 7) pe_int (fun _ _ => rfl))) (fun _ _ _ _ _ => (pv 7))) rfl)))))))))))), ?_⟩)
  · obtain ⟨x, dx, v1, v2, d1, d2, rfl, _⟩ := h
    rfl
  obtain ⟨x, dx, v1, v2, d1, d2, rfl, hx, hd1, hd2, pp, kk, hE, hR⟩ := h
  show (_ : TS) _ [some (.ref x), some v1, some v2, none, none, none, none, none, none] H
  try dsimp only [cxOf]
  have fin : ∀ (pq : Str) (tk : TE) σ H4, Same H H4 → pp = pq → pq.length ≤ 100 → kk ≤ 1000 → (∀ Q : VK, Q (.int (kk : Nat)) H4 → tk σ H4 Q) → tMkO (ga K "InvalidSetup") (spExSetup K) [] (tCons (tC (.str pq)) (tCons tk tNil)) σ H4 (fun cls d H' => E cls d H') := fun pq tk σ H4 s4 hp hl hk ht => by
    subst hp
    unfold tMkO
    refine s_cons ?_
    unfold tC
    refine s_cons (ht _ (s_nil ⟨by simp, fun ax hax => ?_⟩))
    refine ⟨ax, pp, kk, rfl, upd_same, hk, hl, fun dx H' hdx hne e => ?_⟩
    subst e
    rw [upd_ne hne] at hdx
    refine ⟨rfl, dx, [("index", .int (kk : Nat)), ("part", .str pp)], upd_same, by rw [upd_ne hne, upd_same], hdx, ?_⟩
    exact hE dx _ (s4.trans (same_xd hax hdx hne)) upd_same
  walk_at "rz"
  rcases hR with ⟨hp, hk, h1 | h1⟩ | ⟨ls, hls, hne, hsh, hR⟩
  · refine ite_t (by rw [h1]; rfl) ?_
    walk_at "rz"
    exact fin "lines" (tC (.int 0)) _ H (Same.refl _) hp (by decide) (by omega) (fun Q h => by subst hk; exact h)
  · subst h1
    obtain ⟨a, xs, rfl, hT, hA⟩ := hd1.tupI
    refine ite_f rfl ?_
    walk_at "rz"
    rename_i q1 hq1 H1 s1 e1
    refine s_eq0T (s1.sqT hT) (SqT.of e1) ?_
    cases hA
    walk_at "rz"
    exact fin "lines" (tC (.int 0)) _ _ s1 hp (by decide) (by omega) (fun Q h => by subst hk; exact h)
  subst hls
  obtain ⟨a, xs, rfl, hT, hA⟩ := hd1.tupI
  have hxl : xs.length = ls.length := hA.len
  refine ite_f rfl ?_
  walk_at "rz"
  rename_i q1 hq1 H1 s1 e1
  refine s_eq0T (s1.sqT hT) (SqT.of e1) ?_
  have exs : xs.isEmpty = false := by
    cases xs with
    | nil => exact absurd (List.length_eq_zero_iff.mp hxl.symm) hne
    | cons _ _ => rfl
  rw [exs]
  walk_at "rz"
  refine s_cval T.k_Setup_MAX_LINES ?_
  walk_at "rz"
  refine ⟨_, ls, 12, rfl, hd1.same s1, hsh, by omega, ?_⟩
  rcases hR with ⟨hp, hb⟩ | ⟨hg, hR⟩
  · exact .inl ⟨kk, hb, fun dx H' s' hxx => hE dx H' (s1.trans s') (by rw [hp]; exact hxx)⟩
  refine .inr ⟨hg, fun H2 s2 => ?_⟩
  have s02 := s1.trans s2
  walk_at "rz"
  have hd2s := hd2.same s02
  walk_at "rz"
  rcases hR with ⟨hp, hk, h2⟩ | ⟨ws, hws, hsw, hR⟩
  · refine ite_t (by rw [h2]; rfl) ?_
    walk_at "rz"
    exact fin "works" (tC (.int 0)) _ H2 s02 hp (by decide) (by omega) (fun Q h => by subst hk; exact h)
  subst hws
  obtain ⟨b, ys, rfl, hTb, hAb⟩ := hd2.tupI
  have hyl : ys.length = ws.length := hAb.len
  refine ite_f rfl ?_
  walk_at "rz"
  refine s_cval T.k_Setup_MAX_WORKS ?_
  walk_at "rz"
  refine ⟨_, ws, 8, rfl, hd2.same s02, hsw, by omega, ?_⟩
  rcases hR with ⟨hp, hb⟩ | ⟨hgw, hp, L, rfl, W, rfl, ⟨x0, hx0, hbad⟩, hgood⟩
  · exact .inl ⟨kk, hb, fun dx H' s' hxx => hE dx H' (s02.trans s') (by rw [hp]; exact hxx)⟩
  refine .inr ⟨hgw, fun H3 s3 => ?_⟩
  have s13 := s02.trans s3
  walk_at "rz"
  have hkx : (L.map dLx).map nameD = L.map (·.1) := by rw [List.map_map]; rfl
  have hwx : (W.map dWx).map nameD = W.map (·.1) := by rw [List.map_map]; rfl
  have ndL : (L.map (·.1)).Nodup := by rw [← hkx]; exact hg.nd
  have hkn : (L.map fun x => (Sum.inr x.1 : Key)).Nodup := by
    rw [show (L.map fun x => (Sum.inr x.1 : Key)) = (L.map (·.1)).map Sum.inr by rw [List.map_map]; rfl]
    exact List.Pairwise.map Sum.inr (fun a b h e => h (Sum.inr.inj e)) ndL
  have lL : L.length ≤ 12 := by have := hg.le; rw [List.length_map] at this; exact this
  have lW : W.length ≤ 8 := by have := hgw.le; rw [List.length_map] at this; exact this
  have hkL : kk < L.length := (List.getElem?_eq_some_iff.mp hx0).1
  have lxs2 : xs.length = L.length := by rw [hxl, List.length_map]
  refine dcT_d (l := L) (da := dLx) (s13.sqT hT) (hA.same s13) (fun x => .inr x.1) (L.map fun x => .str x.2.1) (by rw [List.length_map]) hkn (by omega) (fun i l y v H4 Z N hl hi hy hv s4 hd z => ?_) (fun kd H4 hkd s4 e4 => ?_)
  · obtain ⟨t, zs, rfl, ht, ha⟩ := hd.tupI
    walk_at "rz"
    refine ⟨rfl, ?_⟩
    walk_at "rz"
    cases ha with | cons h1 ha => ?_
    cases ha with | cons h2 ha => ?_
    cases h1
    cases h2
    refine s_ixT ht (at_of (j := 0) rfl rfl) ?_
    walk_at "rz"
    rw [List.getElem?_map, hi] at hv
    cases hv
    exact z _ (Same.refl _)
  have hkz : (L.map fun x => (Sum.inr x.1 : Key)).zip (L.map fun x => V.str x.2.1) = kindsX L := by
    rw [List.zip_map']
    rfl
  rw [hkz] at e4
  walk_at "rz"
  have s14 := s13.trans s4
  refine lcT_d (l := W) (da := dWx) (s14.sqT hTb) (hAb.same s14) (fun _ => true) (fun w => .str w.1) (by omega) (fun _ _ => rfl) (fun l v H5 Yes No hl s5 hd yes no => ?_) (fun nl H5 ns hnl s5 e5 a5 => ?_)
  · obtain ⟨t, zs, rfl, ht, ha⟩ := hd.tupI
    walk_at "rz"
    refine ⟨rfl, ?_⟩
    walk_at "rz"
    cases ha with | cons h1 ha => ?_
    cases h1
    refine s_ixT ht (at_of (j := 0) rfl rfl) ?_
    exact yes rfl _ _ (Same.refl _) (.str _)
  rw [List.filter_eq_self.mpr (fun _ _ => rfl)] at a5
  have ew : W.map (fun w => PyData.str w.1) = (W.map (·.1)).map PyData.str := by rw [List.map_map]; rfl
  rw [ew] at a5
  have e5' := dp_strs a5
  subst e5'
  have s15 := s14.trans s5
  have hkv : strVals (kindsX L) := fun k v h => by
    unfold valV at h
    obtain ⟨kv, h1, h2⟩ := Option.map_eq_some_iff.mp h
    obtain ⟨l, hl, rfl⟩ := List.mem_map.mp (List.mem_of_find?_eq_some h1)
    exact ⟨l.2.1, h2.symm⟩
  have wsv : (W.map fun x => V.str x.1) = (W.map (·.1)).map V.str := by rw [List.map_map]; rfl
  rw [wsv] at hbad hgood
  walk_at "rz"
  refine ⟨_, rfl, a, xs, rfl, s15.sqT hT, for_it walk_enumT (fun i σ H' => (∃ v5 v6, σ = [some (.ref x), some (.ref a), some (.ref b), some (.ref kd), some (.ref nl), v5, v6, none, none]) ∧ Same H5 H' ∧ i ≤ kk) ⟨⟨none, none, rfl⟩, Same.refl _, Nat.zero_le _⟩ (fun i σ H' _ ⟨_, s6, _⟩ => s6.sqT (s15.sqT hT)) (fun i x' σ H6 H7 hi ⟨⟨v5, v6, es⟩, s6, hik⟩ y => ?_) (fun σ H6 ⟨_, _, hik⟩ => by omega)⟩
  subst es
  obtain ⟨t, _, y2, rfl, ht, rfl, h1, h2⟩ := y
  cases h1
  generalize eH : upd H6 t _ = H7
  have s7 := newS ht eH
  have e7 := newE eH
  clear eH
  refine s_gtup (SqT.of e7) rfl ?_
  walk_at "rz"
  have s57 := s6.trans s7
  have s17 := s15.trans s57
  have h2 : xs[i]? = some y2 := h2
  obtain ⟨d, hdi, hdd⟩ := hA.getv h2
  rw [List.getElem?_map] at hdi
  obtain ⟨l, hl, rfl⟩ := Option.map_eq_some_iff.mp hdi
  obtain ⟨c, zs, rfl, hTc, hAc⟩ := (hdd.same s17).tupI
  cases hAc with | cons h1 hAc => ?_
  cases hAc with | cons h2 hAc => ?_
  cases hAc with | cons h3 hAc => ?_
  cases hAc with | cons h4 hAc => ?_
  cases hAc
  refine s_ixT hTc (at_of (j := 3) rfl rfl) ?_
  obtain ⟨st, ss, rfl, hTs, hAs⟩ := h4.tupI
  have hst : l.2.2.2.length ≤ 8 := by
    have hk := hg.ok (dLx l) (List.mem_map_of_mem (List.mem_of_getElem? hl))
    simp only [isLine, dLx, isSteps, Bool.and_eq_true, decide_eq_true_eq] at hk
    omega
  refine lcT_d (l := l.2.2.2) (da := id) hTs (by rw [List.map_id]; exact hAs) (fun _ => true) (fun s => .bool (isStep (kindsX L) ((W.map (·.1)).map V.str) s)) (by omega) (fun _ _ => rfl) (fun s v H8 Yes No hs s8 hd yes no => ?_) (fun bl H8 bs hbl s8 e8 a8 => ?_)
  · walk_at "rz"
    refine ⟨rfl, ?_⟩
    walk_at "rz"
    refine ⟨_, _, _, _, _, _, rfl, hd, s8 _ _ (s57 _ _ (s5 _ _ e4)), hkv, SqL.of (s8 _ _ (s57 _ _ e5)), flat_strs, ?_⟩
    exact yes rfl _ _ (Same.refl _) (.bl _)
  have eb : l.2.2.2.map (fun s => PyData.bool (isStep (kindsX L) ((W.map (·.1)).map V.str) s)) = (l.2.2.2.map (isStep (kindsX L) ((W.map (·.1)).map V.str))).map PyData.bool := List.map_map.symm
  rw [List.filter_eq_self.mpr (fun _ _ => rfl), eb] at a8
  have e8' := dp_bools a8
  subst e8'
  walk_at "rz"
  refine s_all (SqL.of e8) ?_
  have ea : (l.2.2.2.map (isStep (kindsX L) ((W.map (·.1)).map V.str))).all id = l.2.2.2.all (isStep (kindsX L) ((W.map (·.1)).map V.str)) := List.all_map
  rw [ea]
  walk_at "rz"
  rcases Nat.lt_or_ge i kk with h | h
  · refine ite_f (by rw [hgood i l h hl]; rfl) ?_
    walk_at "rz"
    exact ⟨⟨_, _, rfl⟩, s57.trans s8, h⟩
  · have e : i = kk := by omega
    subst e
    rw [hl] at hx0
    cases hx0
    refine ite_t (by rw [hbad]; rfl) ?_
    walk_at "rz"
    exact fin "handlers" (tVar 5) _ H8 (s17.trans s8) hp (by decide) (by omega) (fun Q h => s_var (v := .int (i : Nat)) rfl h)
end
end T
set_option maxHeartbeats 4000000
namespace T
open PySem PySem.Spec PyProof.Rows L2 Z
open He (ga ma)
local macro_rules | `(tactic| walk_at "z") => `(tactic| with_reducible first | refine ⟨_, _, rfl, rfl, ?_⟩ | refine ⟨_, rfl, ?_⟩)
local macro_rules | `(tactic| walk_at "z") => `(tactic| ((with_reducible refine s_isi (d := ?d1) ?h1 ?h2 ?q1); (case h1 => first | assumption | constructor); (case h2 => decide)))
local macro_rules | `(tactic| walk_at "z") => `(tactic| with_reducible first | refine s_tup ?_ | refine s_lst ?_)
local macro_rules | `(tactic| walk_at "z") => `(tactic| ((with_reducible refine s_ne ?h1 ?q1); (case h1 => exact rfl)))
local macro_rules | `(tactic| walk_at "z") => `(tactic| ((with_reducible refine s_eq ?h1 ?q1); (case h1 => exact rfl)))
local macro_rules | `(tactic| walk_at "z") => `(tactic| with_reducible first | refine s_dcT ?_ | refine s_cvalg ?_ | refine s_fldS ?_ | refine s_I0 ?_ | refine s_U ?_)
local macro_rules | `(tactic| walk_at "z") => `(tactic| with_reducible first | refine s_make ?_ | refine s_sl ?_ | refine s_nop ?_ | refine s_part ?_ | refine s_lcE ?_ | refine s_lc ?_)
local macro_rules | `(tactic| walk_at "z") => `(tactic| with_reducible first | refine s_for ?_ | refine s_rng1 ?_ | refine s_iT ?_ | refine s_iL ?_ | refine Or.inl (Exists.intro _ (And.intro rfl ?_)) | refine Or.inr (Exists.intro _ (And.intro rfl ?_)))
local macro_rules | `(tactic| walk_at "z") => `(tactic| with_reducible first | refine s_fldaug ?_ | refine s_add ?_ | refine s_ipI ?_ | refine s_ixO ?_ | refine s_lcL ?_ | refine s_dputg ?_)
local macro_rules | `(tactic| walk_at "z") => `(tactic| with_reducible first | refine s_daugg ?_ | refine s_disp ?_ | refine s_pcons ?_ | refine s_pnil ?_ | refine s_gsub ?_ | refine s_augS ?_)
local macro_rules | `(tactic| walk_at "z") => `(tactic| with_reducible first | refine s_bm ?_ | refine s_bm0 ?_ | refine s_fldg ?_ | refine s_meth ?_ | refine s_prop ?_ | refine s_lcT ?_)
local macro_rules | `(tactic| walk_at "z") => `(tactic| with_reducible first | refine s_yes ?_ | refine s_gcons ?_ | refine s_gnil ?_ | refine s_din ?_ | refine s_dnin ?_ | refine s_dget ?_)
local macro_rules | `(tactic| walk_at "z") => `(tactic| with_reducible first | refine s_orV ?_ | refine s_notV ?_ | refine s_if ?_ | refine s_chain ?_ | refine s_call ?_ | refine s_bl ?_)
local macro_rules | `(tactic| walk_at "z") => `(tactic| with_reducible first | refine s_test ?_ | refine s_B ?_ | refine s_and ?_ | refine s_or ?_ | refine s_not ?_ | refine s_andV ?_)
local macro_rules | `(tactic| walk_at "z") => `(tactic| with_reducible first | refine s_op ?_ | refine s_un ?_ | refine s_cb ?_ | refine s_cons ?_ | refine s_nil ?_ | refine s_star ?_)
local macro_rules | `(tactic| walk_at "z") => `(tactic| ((with_reducible refine s_var (v := ?v1) ?h1 ?q1); (case h1 => exact rfl)))
local macro_rules | `(tactic| walk_at "z") => `(tactic| with_reducible refine s_c ?_)
local macro_rules | `(tactic| walk_at "z") => `(tactic| with_reducible first | refine s_drop ?_ | refine s_next ?_ | refine s_cont ?_ | refine s_break ?_ | refine s_par ?_ | refine s_par2 ?_)
local macro_rules | `(tactic| walk_at "z") => `(tactic| with_reducible first | refine s_seq ?_ | refine s_asg ?_ | refine s_gname ?_ | refine s_ret ?_ | refine s_retN ?_ | refine s_ifS ?_)
local macro_rules | `(tactic| walk_at "zi") => `(tactic| ((with_reducible refine ite_t ?h1 ?q1); (case h1 => rfl)))
local macro_rules | `(tactic| walk_at "zi") => `(tactic| ((with_reducible refine ite_f ?h1 ?q1); (case h1 => rfl)))
local macro_rules | `(tactic| walk_at "zi") => `(tactic| walk_at "z")
local macro_rules | `(tactic| walk_at "zn") => `(tactic| (intro p hp; generalize eH : upd _ p _ = H2; have s2 := newS hp eH; have e2 := newE eH; clear eH))
local macro_rules | `(tactic| walk_at "zt") => `(tactic| ((with_reducible refine And.intro ?h1 ?_); (case h1 => exact Nat.le_of_ble_eq_true rfl); intro p hp; generalize eH : upd _ p _ = H2; have s2 := newS hp eH; have e2 := newE eH; clear eH))
local macro_rules | `(tactic| walk_at "hl") => `(tactic| ((with_reducible apply ev_same); (· assumption); · walk_at "hl"))
local macro_rules | `(tactic| walk_at "hl") => `(tactic| ((with_reducible apply mst_same); (· assumption); · walk_at "hl"))
local macro_rules | `(tactic| walk_at "hl") => `(tactic| ((with_reducible apply plm_same); (· assumption); · walk_at "hl"))
local macro_rules | `(tactic| walk_at "hl") => `(tactic| ((with_reducible apply md_same); (· assumption); · walk_at "hl"))
local macro_rules | `(tactic| walk_at "hl") => `(tactic| ((with_reducible apply row_same); (· assumption); · walk_at "hl"))
local macro_rules | `(tactic| walk_at "hl") => `(tactic| ((with_reducible apply sg_same); (· assumption); · walk_at "hl"))
local macro_rules | `(tactic| walk_at "hl") => `(tactic| ((with_reducible apply cst_same); (· assumption); · walk_at "hl"))
local macro_rules | `(tactic| walk_at "hl") => `(tactic| ((with_reducible apply co_same); (· assumption); · walk_at "hl"))
local macro_rules | `(tactic| walk_at "hl") => `(tactic| ((with_reducible apply bd_same); (· assumption); · walk_at "hl"))
local macro_rules | `(tactic| walk_at "hl") => `(tactic| ((with_reducible apply pl_same); (· assumption); · walk_at "hl"))
local macro_rules | `(tactic| walk_at "hl") => `(tactic| ((with_reducible apply dpA_same); (· assumption); · walk_at "hl"))
local macro_rules | `(tactic| walk_at "hl") => `(tactic| ((with_reducible apply dp_same); (· assumption); · walk_at "hl"))
local macro_rules | `(tactic| walk_at "hl") => `(tactic| ((with_reducible apply SqL.of); · walk_at "hl"))
local macro_rules | `(tactic| walk_at "hl") => `(tactic| ((with_reducible apply SqT.of); · walk_at "hl"))
local macro_rules | `(tactic| walk_at "hl") => `(tactic| ((with_reducible apply sqL_same); (· assumption); · walk_at "hl"))
local macro_rules | `(tactic| walk_at "hl") => `(tactic| ((with_reducible apply sqT_same); (· assumption); · walk_at "hl"))
local macro_rules | `(tactic| walk_at "hl") => `(tactic| ((with_reducible apply at_same); (· assumption); · walk_at "hl"))
local macro_rules | `(tactic| walk_at "hl") => `(tactic| assumption)
local macro_rules | `(tactic| walk_at "lk") => `(tactic| with_reducible first | exact bdF_jo | exact sgF_plan | exact sgF_board | exact sgF_core | exact sgF_time | exact sgF_sums | exact coF_plan | exact coF_fr | exact coF_lim | exact coF_jo)
local macro_rules | `(tactic| walk_at "lk") => `(tactic| with_reducible first | exact plF_lr | exact plF_wr | exact plF_rn | exact plF_wn | exact bdF_plan | exact bdF_sh | exact bdF_wa | exact bdF_hi | exact bdF_ta | exact bdF_ra)
local macro_rules | `(tactic| walk_at "mk") => `(tactic| with_reducible first | exact mk_jn | exact mk_ln | exact mk_wk)
local macro_rules | `(tactic| walk_at "mk") => `(tactic| with_reducible first | exact mk_ca | exact mk_ed | exact mk_hi | exact mk_up | exact mk_sh | exact mk_bar | exact mk_jo | exact mk_now | exact mk_lg | exact mk_sp)
local macro_rules | `(tactic| walk_at "cl") => `(tactic| with_reducible first | exact Txt.cl_InvalidSetup (by assumption) | exact Txt.cl_UnknownLine (by assumption) | exact Txt.cl_Setup (by assumption))
local macro_rules | `(tactic| walk_at "na") => `(tactic| with_reducible first | exact Txt.n_InvalidSetup_part (by assumption) | exact Txt.n_InvalidSetup_index (by assumption) | exact Txt.n_UnknownLine_line (by assumption) | exact Txt.n_Setup_line_rows (by assumption) | exact Txt.n_Setup_work_rows (by assumption) | exact Txt.n_Setup_rows_by_name (by assumption) | exact Txt.n_Setup_works_by_name (by assumption))
local macro_rules | `(tactic| walk_at "zz") => `(tactic| walk_at "zt")
local macro_rules | `(tactic| walk_at "zz") => `(tactic| ((with_reducible apply s_dgS); (· walk_at "hl"); (· walk_at "mk")))
local macro_rules | `(tactic| walk_at "zz") => `(tactic| ((with_reducible apply s_ixL); (· walk_at "hl"); (· with_reducible first | exact at0 | exact at1 | exact at2 | exact at3 | exact at4)))
local macro_rules | `(tactic| walk_at "zz") => `(tactic| ((with_reducible apply s_ixT); (· walk_at "hl"); (· with_reducible first | exact at0 | exact at1 | exact at2 | exact at3 | exact at4)))
local macro_rules | `(tactic| walk_at "zz") => `(tactic| ((with_reducible apply s_propat); (· walk_at "hl")))
local macro_rules | `(tactic| walk_at "zz") => `(tactic| ((with_reducible apply s_methat); (· walk_at "hl"); (· kernel_rfl)))
local macro_rules | `(tactic| walk_at "zz") => `(tactic| ((with_reducible apply s_fldat); (· walk_at "hl"); (· walk_at "cl"); (· walk_at "na"); (· walk_at "lk")))
local macro_rules | `(tactic| walk_at "zz") => `(tactic| walk_at "zi")
local macro_rules | `(tactic| walk_at "orz") => `(tactic| walk_at "zt")
local macro_rules | `(tactic| walk_at "orz") => `(tactic| ((with_reducible apply s_dgS); (· walk_at "hl"); (· walk_at "mk")))
local macro_rules | `(tactic| walk_at "orz") => `(tactic| ((with_reducible apply s_ixL); (· walk_at "hl"); (· with_reducible first | exact at0 | exact at1 | exact at2 | exact at3 | exact at4)))
local macro_rules | `(tactic| walk_at "orz") => `(tactic| ((with_reducible apply s_ixT); (· walk_at "hl"); (· with_reducible first | exact at0 | exact at1 | exact at2 | exact at3 | exact at4)))
local macro_rules | `(tactic| walk_at "orz") => `(tactic| ((with_reducible apply s_propat); (· walk_at "hl")))
local macro_rules | `(tactic| walk_at "orz") => `(tactic| ((with_reducible apply s_methat); (· walk_at "hl"); (· kernel_rfl)))
local macro_rules | `(tactic| walk_at "orz") => `(tactic| ((with_reducible apply s_fldat); (· walk_at "hl"); (· walk_at "cl"); (· walk_at "na"); (· walk_at "lk")))
local macro_rules | `(tactic| walk_at "orz") => `(tactic| ((with_reducible apply ite_t); (· rfl)))
local macro_rules | `(tactic| walk_at "orz") => `(tactic| ((with_reducible apply ite_f); (· rfl)))
local macro_rules | `(tactic| walk_at "orz") => `(tactic| with_reducible first | refine ⟨_, _, rfl, rfl, ?_⟩ | refine ⟨_, rfl, ?_⟩)
local macro_rules | `(tactic| walk_at "orz") => `(tactic| ((with_reducible apply s_isi); (· assumption); (· decide)))
local macro_rules | `(tactic| walk_at "orz") => `(tactic| with_reducible first | refine s_tup ?_ | refine s_lst ?_)
local macro_rules | `(tactic| walk_at "orz") => `(tactic| ((with_reducible apply s_ne); (· exact rfl)))
local macro_rules | `(tactic| walk_at "orz") => `(tactic| ((with_reducible apply s_eq); (· exact rfl)))
local macro_rules | `(tactic| walk_at "orz") => `(tactic| with_reducible first | refine s_lcE ?_ | refine s_lc ?_ | refine s_dcT ?_ | refine s_cvalg ?_ | refine s_I0 ?_ | refine s_U ?_)
local macro_rules | `(tactic| walk_at "orz") => `(tactic| with_reducible first | refine Or.inl (Exists.intro _ (And.intro rfl ?_)) | refine Or.inr (Exists.intro _ (And.intro rfl ?_)) | refine s_make ?_ | refine s_sl ?_ | refine s_nop ?_ | refine s_part ?_)
local macro_rules | `(tactic| walk_at "orz") => `(tactic| with_reducible first | refine s_lcL ?_ | refine s_dputg ?_ | refine s_for ?_ | refine s_rng1 ?_ | refine s_iT ?_ | refine s_iL ?_)
local macro_rules | `(tactic| walk_at "orz") => `(tactic| with_reducible first | refine s_daugg ?_ | refine s_disp ?_ | refine s_gsub ?_ | refine s_fldaug ?_ | refine s_ipI ?_ | refine s_ixO ?_)
local macro_rules | `(tactic| walk_at "orz") => `(tactic| with_reducible first | refine s_chain ?_ | refine s_yes ?_ | refine s_din ?_ | refine s_dnin ?_ | refine s_bm0 ?_ | refine s_lcT ?_)
local macro_rules | `(tactic| walk_at "orz") => `(tactic| with_reducible first | refine s_un ?_ | refine s_star ?_ | refine s_and ?_ | refine s_or ?_ | refine s_orV ?_ | refine s_notV ?_)
local macro_rules | `(tactic| walk_at "orz") => `(tactic| with_reducible first | refine s_augS ?_ | refine s_retN ?_ | refine s_cont ?_ | refine s_break ?_ | refine s_par ?_ | refine s_par2 ?_)
local macro_rules | `(tactic| walk_at "orz") => `(tactic| with_reducible first | refine s_andV ?_ | refine s_add ?_ | refine s_prop ?_ | refine s_pnil ?_ | refine s_cb ?_ | refine s_not ?_)
local macro_rules | `(tactic| walk_at "orz") => `(tactic| with_reducible first | refine s_call ?_ | refine s_pcons ?_ | refine s_bm ?_ | refine s_if ?_ | refine s_gcons ?_ | refine s_gnil ?_)
local macro_rules | `(tactic| walk_at "orz") => `(tactic| with_reducible first | refine s_next ?_ | refine s_gname ?_ | refine s_drop ?_ | refine s_meth ?_ | refine s_fldS ?_ | refine s_asg ?_)
local macro_rules | `(tactic| walk_at "orz") => `(tactic| with_reducible first | refine s_fldg ?_ | refine s_ifS ?_ | refine s_dget ?_ | refine s_ret ?_ | refine s_B ?_ | refine s_test ?_)
local macro_rules | `(tactic| walk_at "orz") => `(tactic| with_reducible first | refine s_cons ?_ | refine s_c ?_ | refine s_nil ?_ | refine s_seq ?_ | refine s_op ?_ | refine s_bl ?_)
local macro_rules | `(tactic| walk_at "orz") => `(tactic| ((with_reducible apply s_var); (· exact rfl)))
local macro_rules | `(tactic| walk_at "rz") => `(tactic| repeat walk_at "orz")
local macro_rules | `(tactic| walk_at "zm") => `(tactic| (intro x dx hx hdx hne; generalize eH : upd (upd _ dx _) x _ = H2; have s2 := mkS hx hdx eH; have e2 := mkE eH; clear eH hdx hne))
local macro_rules | `(tactic| walk_at "zb") => `(tactic| with_reducible first | refine s_gcons ?_ | refine s_gnil ?_ | refine s_gname ?_ | refine s_seq ?_ | refine s_ifS ?_ | refine s_if ?_ | refine s_next ?_ | refine s_drop ?_ | refine s_ret ?_ | refine s_asg ?_)
def lessP (P : Pl) (z : Str) : Pl := ⟨P.ls.filter fun l => !decide (l.nm = z), P.ws⟩
def spSetEq (K : Fg) : Sp := fun vs H Q _ => ∃ D D' P P', vs = [.ref D.p, .ref D'.p] ∧ PlanAt K H D P ∧ PlanAt K H D' P' ∧ ∀ H', Same H H' → Q (.bl (PyData.eqv (planD P) (planD P'))) H'
def spLess (K : Fg) : Sp := fun vs H Q E => ∃ t, ∃ ls : List Ln, ∃ v d, vs = [.ref t, v] ∧ Dp K H (.ref t) (.tuple (ls.map dLn)) ∧ ls.length ≤ 100 ∧ (∀ l ∈ ls, SeqAt.shaped (.str l.nm) = true) ∧ Dp K H v d ∧ SeqAt.shaped d = true ∧
  ((∃ z, d = .str z ∧ z ∈ ls.map (·.nm) ∧ ∀ H' c us, Same H H' → H c = none → H' c = some (.lst us) → DpAll K H' us ((ls.filter fun l => !decide (l.nm = z)).map dLn) → Q (.ref c) H') ∨
   ((∀ l ∈ ls, PyData.eqv (.str l.nm) d = false) ∧ FmtOk K H v ∧ ∀ dx H', Same H H' → H' dx = some (.xd [("line", v)]) → E (.ref (ga K "UnknownLine")) (some dx) H'))
def spSetOf (K : Fg) : Sp := fun vs H Q _ => ∃ c us b P, vs = [.ref c, .ref b] ∧ H c = some (.lst us) ∧ DpAll K H us (P.ls.map dLn) ∧ Dp K H (.ref b) (.tuple (P.ws.map dWk)) ∧ P.Ok ∧ ∀ H' D, Same H H' → (∀ a ∈ D.own, H a = none) → PlanAt K H' D P → Q (.ref D.p) H'
def spSetSub (K : Fg) : Sp := fun vs H Q _ => ∃ D P z, vs = [.ref D.p, .str z] ∧ PlanAt K H D P ∧ z ∈ P.names ∧ (lessP P z).Ok ∧ ∀ H' D', Same H H' → (∀ a ∈ D'.own, H a = none) → PlanAt K H' D' (lessP P z) → Q (.ref D'.p) H'
def spPLines (K : Fg) : Sp := fun vs H Q _ => ∃ PD P, vs = [.ref PD.p] ∧ PlanAt K H PD P ∧ ∀ a, Dp K H (.ref a) (.tuple (P.ls.map dLn)) → Q (.ref a) H
def spPWorks (K : Fg) : Sp := fun vs H Q _ => ∃ PD P, vs = [.ref PD.p] ∧ PlanAt K H PD P ∧ ∀ a, Dp K H (.ref a) (.tuple (P.ws.map dWk)) → Q (.ref a) H
def spPLen (K : Fg) : Sp := fun vs H Q _ => ∃ PD P, vs = [.ref PD.p] ∧ PlanAt K H PD P ∧ Q (.int (P.ls.length : Nat)) H
def spIsPlain (K : Fg) : Sp := fun vs H Q _ => ∃ D P, vs = [.ref D.p] ∧ PlanAt K H D P ∧ ∀ H', Same H H' → Q (.bl (plainB P)) H'
def spExLine (K : Fg) : Sp := fun vs H Q _ => ∃ (a : Addr) (v : V), vs = [.ref a, v] ∧ H a = some (exo a (ga K "UnknownLine") none) ∧ FmtOk K H v ∧ ∀ dx H', H dx = none → dx ≠ a → H' = upd (upd H dx (exd dx [("line", v)])) a (exo a (ga K "UnknownLine") (some dx)) → Q .non H'
def spCheckLineB (K : Fg) : Sp := fun vs H Q E => ∃ D v d P, vs = [.ref D.p, v] ∧ PlanAt K H D P ∧ Dp K H v d ∧ FmtOk K H v ∧ (nameIn P d = true → Q .non H) ∧ (nameIn P d = false → ∀ dx H', Same H H' → H' dx = some (.xd [("line", v)]) → E (.ref (ga K "UnknownLine")) (some dx) H')
theorem _root_.L2.FnOk.weak {P : Program} {w : World} {K : Fg} {mg : Str → Option Value} {base : Heap} {CX k f fd ps} {s1 s2 : Sp} (a : FnOk P w K mg base CX k f fd ps s1) (c : ∀ vs H Q E, s2 vs H Q E → s1 vs H Q E) : FnOk P w K mg base CX k f fd ps s2 :=
  ⟨fun vs H Q E h => a.1 vs H Q E (c _ _ _ _ h), fun a1 a2 a3 a4 a5 a6 a7 a8 a9 b1 b2 b3 b4 h => a.2 a1 a2 a3 a4 a5 a6 a7 a8 a9 b1 b2 b3 b4 (c _ _ _ _ h)⟩
section
variable {P : Program} {w : World} {K : Fg} {mg : Str → Option Value} {base : Heap}
theorem ok_UnknownLine_init (T : Txt K mg) : FnOk P w K mg base (L2.CX P w) 1 (ma K (ga K "UnknownLine") "__init__") (fdOf K (ma K (ga K "UnknownLine") "__init__")) ["self", "line"] (spExLine K) := by
  refine FunD.ok T.F_UnknownLine_init sc_UnknownLine_init (fun vs H Q E h => ?_) (fun cdv A outer s H vs Q E hr h => ⟨_, PSs.nox (pss_cons (ps_expr (z_veinit (z_ref T.g_BellError) T.vi_BellError (pa_cons (pv 0) (pa_cons (pe_joined (.cons pe_str (.cons (pe_fmtB hr (pv 1)) .nil))) pa_nil))))
      (pss_one (ps_ost (pv 0) (pv 1)))), ?_⟩)
  · obtain ⟨a, v, rfl, _⟩ := h
    rfl
  obtain ⟨a, v, rfl, ha, hf, q⟩ := h
  show (_ : TS) _ [some (.ref a), some v] H
  try dsimp only [cxOf]
  walk_at "rz"
  refine s_bin ?_
  walk_at "rz"
  refine ⟨rfl, ?_⟩
  unfold tVeI
  walk_at "rz"
  refine ⟨_, rfl, by decide, ⟨v, rfl, hf, fun y hl => ⟨_, rfl, ?_, ?_⟩⟩⟩
  · rw [show (Str.empty ++ ("unknown line " : Str)) = ("unknown line " : Str) from by decide, str_len_app, sizeLine_eq]
    show 13 + y.length ≤ _
    omega
  refine ⟨a, ga K "UnknownLine", _, rfl, by simp, T.xo_UnknownLine, ha, ?_⟩
  refine ⟨v, rfl, .ref a, rfl, a, ga K "UnknownLine", rfl, T.xo_UnknownLine, T.xn_UnknownLine_line, .inl ⟨ha, fun dx hdx hne => ?_⟩⟩
  exact q dx _ hdx hne rfl
theorem ok_Setup_is_plain (T : Txt K mg) : FnOk P w K mg base (L2.CX P w) 2 (pga K (ga K "Setup") "is_plain") (fdOf K (pga K (ga K "Setup") "is_plain")) ["self"] (spIsPlain K) := by
  refine FunD.ok T.F_Setup_is_plain sc_Setup_is_plain (fun vs H Q E h => ?_) (fun cdv A outer s H vs Q E hr h => ⟨_, PSs.nox (pss_cons (ps_setLc (i := 1) (own := [("line", 2)]) rfl sc_Setup_is_plain.nd rfl rfl (sw_true rfl rfl rfl (by decide +kernel)) (kIT K (pi_tup (kFld K (pe_fld (pv 0) rfl)))) (blkOk_by (own := [("line", 2)]) (N := n_Setup_is_plain) (sc := defScope s_Setup_is_plain) (by decide +kernel)) (fun _ _ _ _ _ => (zg 2 sc_Setup_is_plain.nd)) (fun _ _ _ _ _ => pts_nil) (fun _ _ _ _ _ => (pe_ix (ix_tupK K) (pv 2) pe_int (fun _ _ => rfl))))
      (pss_cons (ps_if (pt_cmpR op_lt (pe_callB cr_lenX (by rfl) T.u_len (by decide +kernel) (pa_cons (pe_callTy (cr_setCK K rfl) (by rfl) T.u_set (by decide +kernel) (pa_cons (pv 1) pa_nil)) pa_nil)) (pe_callB (call_lenK K) (by rfl) T.u_len (by decide +kernel) (pa_cons (pv 1) pa_nil)) (nomark _)) (pss_one (ps_ret pe_bl)) pss_nil)
      (pss_one (ps_ret (pe_callB (cr_allK K rfl) (by rfl) T.u_all (by decide +kernel) (pa_cons (pe_lc (own := [("line", 2)]) rfl sc_Setup_is_plain.nd (kIT K (pi_tup (kFld K (pe_fld (pv 0) rfl)))) (blkOk_by (own := [("line", 2)]) (N := n_Setup_is_plain) (sc := defScope s_Setup_is_plain) (by decide +kernel)) (fun _ _ _ _ _ => (zg 2 sc_Setup_is_plain.nd)) (fun _ _ _ _ _ => pts_nil) (fun _ _ _ _ _ => (pe_and (pe_cmpR op_eq (pe_ix (ix_tupK K) (pv 2) pe_int (fun _ _ => rfl)) (z_str T.i_EDGE) (nomark _)) (pe_one (pe_callB (cr_allK K rfl) (by rfl) T.u_all (by decide +kernel) (pa_cons (pe_lc (own := [("step", 3)]) rfl sc_Setup_is_plain.nd (kIT K (pi_tup (pe_ix (ix_tupK K) (pv 2) pe_int (fun _ _ => rfl)))) (blkOk_by (own := [("step", 3)]) (N := n_Setup_is_plain) (sc := { kind := .function, names := [(".0", .local), ("line", .local), ("EDGE", .globalImplicit), ("all", .globalImplicit)], isGenerator := false, isCoroutine := false }) (by decide +kernel)) (fun _ _ _ _ _ => (zg 3 sc_Setup_is_plain.nd)) (fun _ _ _ _ _ => pts_nil) (fun _ _ _ _ _ => (pe_cmpR op_eq (pe_ix (ix_tupK K) (pv 3) pe_int (fun _ _ => rfl)) (z_str T.i_RUN) (nomark _)))) pa_nil)))))) pa_nil)))))), ?_⟩)
  · obtain ⟨D, P, rfl, _⟩ := h
    rfl
  obtain ⟨D, P, rfl, pl, q⟩ := h
  show (_ : TS) _ (some (.ref D.p) :: List.replicate 3 none) H
  try dsimp only [cxOf]
  dsimp only [List.replicate]
  obtain ⟨dx, a, b, hp, hda, hdb⟩ := pl.ins
  obtain ⟨_, xs, e, hT, hA⟩ := hda.tupI
  cases e
  have l12 := pl.ok.l12
  walk_at "rz"
  refine lcT_d (l := P.ls) (da := dLn) hT hA (fun _ => true) (fun l => .int l.rk) (by omega) (fun _ _ => rfl) (fun l v H5 Yes No hl s5 hd yes no => ?_) (fun nl H1 ns hnl s1 e1 a1 => ?_)
  · obtain ⟨tl, st, sv, rfl, htl, _, _⟩ := hd.lnI
    walk_at "rz"
    refine ⟨rfl, ?_⟩
    walk_at "rz"
    exact yes rfl _ _ (Same.refl _) (.int _)
  rw [List.filter_eq_self.mpr fun _ _ => rfl] at a1
  have er : P.ls.map (fun l => PyData.int l.rk) = (P.ls.map (·.rk)).map PyData.int := by rw [List.map_map]; rfl
  rw [er] at a1
  rw [dp_ints a1] at e1
  walk_at "rz"
  refine ⟨nl, P.ls.map (·.rk), rfl, SqL.of e1, by rw [List.length_map]; omega, fun p c hp1 hc1 hc2 => ?_⟩
  generalize eH : upd H1 p _ = H2
  have s2 := newS hp1 eH
  have e2 := newE eH
  clear eH
  have s02 := s1.trans s2
  have hT2 := s02.sqT hT
  have hA2 := hA.same s02
  have hpp := s02 _ _ hp
  walk_at "rz"
  refine ⟨p, rfl, .inr ⟨_, c, e2, ?_⟩⟩
  walk_at "rz"
  refine s_lenL (SqL.of (s2 _ _ e1)) ?_
  rw [List.length_map] at hc1 hc2 ⊢
  rw [List.length_map]
  walk_at "rz"
  by_cases nd : (P.ls.map (·.rk)).Nodup
  · have hc := hc2.mpr nd
    refine ite_f (decide_eq_false (by omega)) ?_
    walk_at "rz"
    refine lcT_d (l := P.ls) (da := dLn) hT2 hA2 (fun _ => true) (fun l => .bool (decide (l.kd = "edge") && l.st.all fun s => decide (s.1 = "run"))) (by omega) (fun _ _ => rfl) (fun l v H5 Yes No hl s5 hd yes no => ?_) (fun l3 H3 ys hl3 s3 e3 a3 => ?_)
    · obtain ⟨tl, st, sv, rfl, htl, hst, hsv⟩ := hd.lnI
      have l8 := pl.ok.steps8 hl
      walk_at "rz"
      refine ⟨rfl, ?_⟩
      walk_at "rz"
      rw [vstr_dec]
      cases he : decide (l.kd = "edge") with
      | false =>
        walk_at "rz"
        refine yes rfl _ _ (Same.refl _) ?_
        rw [he]
        exact .bl _
      | true =>
        walk_at "rz"
        refine lcT_d (l := l.st) (da := dSt) hst hsv (fun _ => true) (fun s => .bool (decide (s.1 = "run"))) (by omega) (fun _ _ => rfl) (fun s v H6 Yes2 No2 hs s6 dv yes2 no2 => ?_) (fun l4 H4 zs hl4 s4 e4 a4 => ?_)
        · obtain ⟨tv, rfl, htv⟩ := dv.stI
          walk_at "rz"
          refine ⟨rfl, ?_⟩
          walk_at "rz"
          rw [vstr_dec]
          exact yes2 rfl _ _ (Same.refl _) (.bl _)
        rw [List.filter_eq_self.mpr fun _ _ => rfl, map_boolW] at a4
        rw [dp_bools a4] at e4
        walk_at "rz"
        refine s_all (SqL.of e4) ?_
        refine yes rfl _ _ s4 ?_
        rw [he, List.all_map]
        exact .bl _
    rw [List.filter_eq_self.mpr fun _ _ => rfl, map_boolW] at a3
    rw [dp_bools a3] at e3
    walk_at "rz"
    refine s_all (SqL.of e3) ?_
    have ep : plainB P = (P.ls.map fun l => decide (l.kd = ("edge" : Str)) && l.st.all fun s => decide (s.1 = ("run" : Str))).all id := by
      unfold plainB
      rw [decide_eq_true nd, List.all_map]
      rfl
    rw [← ep]
    exact q _ (s02.trans s3)
  · have hc : ¬ P.ls.length ≤ c := fun h => nd (hc2.mp h)
    refine ite_t (decide_eq_true (by omega)) ?_
    have ep : plainB P = false := by
      unfold plainB
      rw [decide_eq_false nd]
      rfl
    rw [ep] at q
    walk_at "rz"
    exact q _ s02
theorem ok_Setup_check_line_x (T : Txt K mg) : FnOk P w K mg base (L2.CX P w) 4 (ma K (ga K "Setup") "check_line") (fdOf K (ma K (ga K "Setup") "check_line")) ["self", "name"] (spCheckLineB K) := by
  refine FunD.ok T.F_Setup_check_line sc_Setup_check_line (fun vs H Q E h => ?_) (fun cdv A outer s H vs Q E hr h => ⟨_, (pss_one (ps_if (pt_cmpR (op_notInO T.m_Setup_contains.at_ T.m_Setup_contains.fn (ok_Setup_contains T) T.c_Setup_contains (hr.mono (by decide)) passL) (pv 1) (pv 0) (by rfl)) (pss_one (ps_raise rfl (takes_of rfl rfl rfl rfl) (z_mkX T.xo_UnknownLine T.xi_UnknownLine (ok_UnknownLine_init T) T.c_UnknownLine_init (hr.mono (by decide)) rfl T.g_UnknownLine (pa_cons (pv 1) pa_nil)))) pss_nil)), ?_⟩)
  · obtain ⟨D, v, d, P, rfl, _⟩ := h
    rfl
  obtain ⟨D, v, d, P, rfl, pl, hd, hf, qn, q⟩ := h
  show (_ : TS) _ [some (.ref D.p), some v] H
  try dsimp only [cxOf]
  obtain ⟨pdx, pa, pb, hpl, _⟩ := pl.ins
  walk_at "rz"
  refine ⟨_, _, _, rfl, hpl, D, _, _, P, rfl, pl, hd, ?_⟩
  walk_at "rz"
  cases hn : nameIn P d with
  | true =>
    refine ite_f (by rw [if_pos rfl]; rfl) ?_
    walk_at "rz"
    exact qn hn
  | false =>
    have q := q hn
    refine ite_t (by rw [if_pos rfl]; rfl) ?_
    unfold tMkO
    refine s_cons (s_var (v := v) rfl (s_nil ⟨by simp, fun a ha => ?_⟩))
    have sa : Same H (upd H a (exo a (ga K "UnknownLine") none)) := Same.new ha
    refine ⟨a, v, rfl, upd_same, hf.same sa, fun dx H' hdx hne e => ?_⟩
    subst e
    rw [upd_ne hne] at hdx
    refine ⟨rfl, dx, [("line", v)], upd_same, by rw [upd_ne hne, upd_same], hdx, ?_⟩
    exact q dx _ (same_xd ha hdx hne) upd_same
theorem ok_Setup_eq (T : Txt K mg) : FnOk P w K mg base (L2.CX P w) 2 (ma K (ga K "Setup") "__eq__") (fdOf K (ma K (ga K "Setup") "__eq__")) ["self", "other"] (spSetEq K) := by
  refine FunD.ok T.F_Setup_eq sc_Setup_eq (fun vs H Q E h => ?_) (fun cdv A outer s H vs Q E hr h => ⟨_, PSs.nox (pss_one (ps_ret (pe_and (pe_callB (call_isiOK K) (by rfl) T.u_isinstance (by decide +kernel) (pa_cons (pv 1) (pa_cons (z_ref T.g_Setup) pa_nil))) (pe_one (pe_cmpR (op_eqDK K hr.units) (pe_tup (pa_cons (kFld K (pe_fld (pv 0) rfl)) (pa_cons (kFld K (pe_fld (pv 0) rfl)) pa_nil))) (pe_tup (pa_cons (kFld K (pe_fld (pv 1) rfl)) (pa_cons (kFld K (pe_fld (pv 1) rfl)) pa_nil))) (nomark _)))))), ?_⟩)
  · obtain ⟨D, D', P, P', rfl, _⟩ := h
    rfl
  obtain ⟨D, D', P, P', rfl, pl, pl', q⟩ := h
  show (_ : TS) _ [some (.ref D.p), some (.ref D'.p)] H
  try dsimp only [cxOf]
  obtain ⟨dx, a, b, hp, da, db⟩ := pl.ins
  obtain ⟨dx', a', b', hp', da', db'⟩ := pl'.ins
  walk_at "rz"
  refine s_isiO hp' T.cl_Setup T.is_Setup ?_
  walk_at "rz"
  rename_i t1 ht1 H1 s1 e1 t2 ht2 H2 s2 e2
  have s12 := s1.trans s2
  refine ⟨planD P, planD P', .tup (s2.sqT (SqT.of e1)) (.cons (da.same s12) (.cons (db.same s12) .nil)), .tup (SqT.of e2) (.cons (da'.same s12) (.cons (db'.same s12) .nil)), shaped_plan pl.ok, shaped_plan pl'.ok, ?_⟩
  walk_at "rz"
  exact q _ s12
theorem eqv_str (a b : Str) : PyData.eqv (.str a) (.str b) = decide (a = b) := by
  by_cases h : a = b
  · subst h
    rw [decide_eq_true rfl]
    simp [PyData.eqv]
  · rw [decide_eq_false h]
    simp [PyData.eqv, h]
theorem shaped_names {P : Pl} (ok : P.Ok) : ∀ l ∈ P.ls, SeqAt.shaped (.str l.nm) = true := fun l hl => by
  have h := ok.lay (.inl (List.mem_map.mpr ⟨l, hl, rfl⟩) : l.nm ∈ P.names ∨ l.nm ∈ P.wnames)
  show ((PyData.str l.nm).canLay0 && _) = true
  rw [h]
  rfl
theorem ok_lines_without (T : Txt K mg) : FnOk P w K mg base (L2.CX P w) 3 (ga K "lines_without") (fdOf K (ga K "lines_without")) ["lines", "name"] (spLess K) := by
  refine FunD.ok T.F_lines_without sc_lines_without (fun vs H Q E h => ?_) (fun cdv A outer s H vs Q E hr h => ⟨_, (pss_cons (ps_setLc (i := 2) (own := [("line", 3)]) rfl sc_lines_without.nd rfl rfl (sw_true rfl rfl rfl (by decide +kernel)) (kIT K (pi_tup (pv 0))) (blkOk_by (own := [("line", 3)]) (N := n_lines_without) (sc := defScope s_lines_without) (by decide +kernel)) (fun _ _ _ _ _ => (zg 3 sc_lines_without.nd)) (fun _ _ _ _ _ => (pts_one (pt_cmpR (op_neDK K hr.units) (pe_ix (ix_tupK K) (pv 3) pe_int (fun _ _ => rfl)) (pv 1) (nomark _)))) (fun _ _ _ _ _ => (pv 3)))
      (pss_cons (ps_if (pt_cmpR op_eq (pe_callB (call_lenK K) (by rfl) T.u_len (by decide +kernel) (pa_cons (pv 2) pa_nil)) (pe_callB (call_lenK K) (by rfl) T.u_len (by decide +kernel) (pa_cons (pv 0) pa_nil)) (nomark _)) (pss_one (ps_raise rfl (takes_of rfl rfl rfl rfl) (z_mkX T.xo_UnknownLine T.xi_UnknownLine (ok_UnknownLine_init T) T.c_UnknownLine_init (hr.mono (by decide)) rfl T.g_UnknownLine (pa_cons (pv 1) pa_nil)))) pss_nil)
      (pss_one (ps_ret (pv 2))))), ?_⟩)
  · obtain ⟨t, ls, v, d, rfl, _⟩ := h
    rfl
  obtain ⟨t, ls, v, d, rfl, da, l100, hls, hd, hsd, q⟩ := h
  show (_ : TS) _ [some (.ref t), some v, none, none] H
  try dsimp only [cxOf]
  obtain ⟨_, las, e, hT, hA⟩ := da.tupI
  cases e
  have lasl : las.length = ls.length := by rw [hA.len, List.length_map]
  walk_at "rz"
  refine lcT_d (l := ls) (da := dLn) hT hA (fun l => !PyData.eqv (.str l.nm) d) dLn (by omega) (fun _ _ => tupd_dLn _) (fun l v Ha Yes No hl sa hdv yes no => ?_) (fun c H1 us hc s1 e1 a1 => ?_)
  · obtain ⟨t9, zs, rfl, hT, hA⟩ := hdv.tupI
    cases hA with | cons h1 hA => ?_
    cases h1
    walk_at "rz"
    refine ⟨rfl, ?_⟩
    walk_at "rz"
    refine ⟨.str l.nm, d, .str _, hd.same sa, hls l hl, hsd, ?_⟩
    cases hb : PyData.eqv (.str l.nm) d with
    | true =>
      walk_at "rz"
      exact no (by rw [hb]; rfl) _ (Same.refl _)
    | false =>
      walk_at "rz"
      exact yes (by rw [hb]; rfl) _ _ (Same.refl _) hdv
  walk_at "rz"
  refine s_lenL (SqL.of e1) ?_
  walk_at "rz"
  refine s_lenT (s1.sqT hT) ?_
  walk_at "rz"
  rcases q with ⟨z, rfl, hz, q⟩ | ⟨hno, hf, q⟩
  · have ef : (ls.filter fun l => !PyData.eqv (.str l.nm) (.str z)) = ls.filter fun l => !decide (l.nm = z) := by
      refine List.filter_congr fun l _ => ?_
      rw [eqv_str]
    rw [ef] at a1
    have hlt : us.length < ls.length := by
      rw [a1.len, List.length_map]
      obtain ⟨l, hl, e⟩ := List.mem_map.mp hz
      exact List.length_filter_lt_length_iff_exists.mpr ⟨l, hl, by simp [e]⟩
    refine ite_f (by
      have : ¬ (us.length : Int) = (las.length : Int) := by omega
      simp [this]) ?_
    walk_at "rz"
    exact q _ _ _ s1 hc e1 a1
  · have ef : (ls.filter fun l => !PyData.eqv (.str l.nm) d) = ls := List.filter_eq_self.mpr fun l hl => by rw [hno l hl]; rfl
    rw [ef] at a1
    have hle : us.length = las.length := by rw [a1.len, List.length_map, lasl]
    refine ite_t (by rw [hle]; simp) ?_
    unfold tMkO
    refine s_cons (s_var (v := v) rfl (s_nil ⟨by simp, fun a ha => ?_⟩))
    have sa : Same H1 (upd H1 a (exo a (ga K "UnknownLine") none)) := Same.new ha
    refine ⟨a, v, rfl, upd_same, (hf.same s1).same sa, fun dx H' hdx hne e => ?_⟩
    subst e
    rw [upd_ne hne] at hdx
    refine ⟨rfl, dx, [("line", v)], upd_same, by rw [upd_ne hne, upd_same], hdx, ?_⟩
    exact q dx _ (s1.trans (same_xd ha hdx hne)) upd_same
def spLessG (K : Fg) : Sp := fun vs H Q _ => ∃ t, ∃ ls : List Ln, ∃ z, vs = [.ref t, .str z] ∧ Dp K H (.ref t) (.tuple (ls.map dLn)) ∧ ls.length ≤ 100 ∧ (∀ l ∈ ls, SeqAt.shaped (.str l.nm) = true) ∧ z ∈ ls.map (·.nm) ∧ ∀ H' c us, Same H H' → H c = none → H' c = some (.lst us) → DpAll K H' us ((ls.filter fun l => !decide (l.nm = z)).map dLn) → Q (.ref c) H'
theorem ok_lines_without_g (T : Txt K mg) : FnOk P w K mg base (L2.CX P w) 3 (ga K "lines_without") (fdOf K (ga K "lines_without")) ["lines", "name"] (spLessG K) :=
  L2.FnOk.weak (ok_lines_without T) fun vs H Q E h => by
    obtain ⟨t, ls, z, rfl, da, l100, hs, hz, q⟩ := h
    refine ⟨t, ls, .str z, .str z, rfl, da, l100, hs, .str _, ?_, .inl ⟨z, rfl, hz, q⟩⟩
    obtain ⟨l, hl, e⟩ := List.mem_map.mp hz
    rw [← e]
    exact hs l hl
theorem ok_setup_of (T : Txt K mg) : FnOk P w K mg base (L2.CX P w) 7 (ga K "setup_of") (fdOf K (ga K "setup_of")) ["lines", "works"] (spSetOf K) := by
  refine FunD.ok T.F_setup_of sc_setup_of (fun vs H Q E h => ?_) (fun cdv A outer s H vs Q E hr h => ⟨_, PSs.nox (pss_one (ps_ret (z_make T.mk_Setup (ok_Setup_init T) T.c_Setup_init (hr.mono (by decide)) rfl T.g_Setup passL (pa_cons (pe_callTy (call_tuple_ofK K) (by rfl) T.u_tuple (by decide +kernel) (pa_cons (pv 0) pa_nil)) (pa_cons (pv 1) pa_nil))))), ?_⟩)
  · obtain ⟨c, us, b, P, rfl, _⟩ := h
    rfl
  obtain ⟨c, us, b, P, rfl, hc, da, db, ok, q⟩ := h
  show (_ : TS) _ [some (.ref c), some (.ref b)] H
  try dsimp only [cxOf]
  walk_at "rz"
  refine ⟨c, us, rfl, .inl ⟨SqL.of hc, fun t1 ht1 => ?_⟩⟩
  generalize eH : upd H t1 _ = H1
  have s1 := newS ht1 eH
  have e1 := newE eH
  clear eH
  walk_at "rz"
  walk_at "zm"
  rename_i x dx hx H2 s2 e2
  refine ⟨x, t1, b, dx, P, rfl, e2, .tup (s2.sqT (SqT.of e1)) ((da.same s1).same s2), (db.same s1).same s2, ok, fun H3 rd wd hrd hwd hrw f3 pl => ⟨rfl, ?_⟩⟩
  have F3 : Fr [] H1 H3 := s2.fr.seq f3 (fun a ha => .inr (by rw [List.mem_singleton.mp ha]; exact hx))
  have bk : ∀ a, H1 a = none → H a = none := fun a h => s1.fr.back (A := []) h
  refine q H3 ⟨x, rd, wd⟩ (s1.trans F3.same) (fun a ha => bk a ?_) pl
  simp only [Z.PA.own, List.mem_cons, List.not_mem_nil, or_false] at ha
  rcases ha with rfl | rfl | rfl
  · exact hx
  · exact s2.fr.back (A := []) hrd
  · exact s2.fr.back (A := []) hwd
def spSetOfX (K : Fg) : Sp := fun vs H _ E => ∃ c us b d2 ls, vs = [.ref c, .ref b] ∧ H c = some (.lst us) ∧ DpAll K H us ls ∧ Dp K H (.ref b) d2 ∧ ∀ H1, Same H H1 → RefS K (.tuple ls) d2 H1 E
theorem ok_setup_of_x (T : Txt K mg) : FnOk P w K mg base (L2.CX P w) 7 (ga K "setup_of") (fdOf K (ga K "setup_of")) ["lines", "works"] (spSetOfX K) := by
  refine FunD.ok T.F_setup_of sc_setup_of (fun vs H Q E h => ?_) (fun cdv A outer s H vs Q E hr h => ⟨_, (pss_one (ps_ret (z_make T.mk_Setup (ok_Setup_init_x T) T.c_Setup_init (hr.mono (by decide)) rfl T.g_Setup (passes_call (takes_of rfl rfl rfl rfl) (fun _ _ _ _ h => h)) (pa_cons (pe_callTy (call_tuple_ofK K) (by rfl) T.u_tuple (by decide +kernel) (pa_cons (pv 0) pa_nil)) (pa_cons (pv 1) pa_nil))))), ?_⟩)
  · obtain ⟨c, us, b, d2, ls, rfl, _⟩ := h
    rfl
  obtain ⟨c, us, b, d2, ls, rfl, hc, da, db, q⟩ := h
  show (_ : TS) _ [some (.ref c), some (.ref b)] H
  try dsimp only [cxOf]
  walk_at "rz"
  refine ⟨c, us, rfl, .inl ⟨SqL.of hc, fun t1 ht1 => ?_⟩⟩
  generalize eH : upd H t1 _ = H1
  have s1 := newS ht1 eH
  have e1 := newE eH
  clear eH
  walk_at "rz"
  walk_at "zm"
  rename_i x dx hx H2 s2 e2
  exact ⟨x, dx, .ref t1, .ref b, .tuple ls, d2, rfl, e2, .tup (s2.sqT (SqT.of e1)) ((da.same s1).same s2), (db.same s1).same s2, q H2 (s1.trans s2)⟩
theorem ok_Setup_sub (T : Txt K mg) : FnOk P w K mg base (L2.CX P w) 9 (ma K (ga K "Setup") "__sub__") (fdOf K (ma K (ga K "Setup") "__sub__")) ["self", "name"] (spSetSub K) := by
  have ok_lines_without := fun (T : Txt K mg) => ok_lines_without_g (P := P) (w := w) (base := base) T
  refine FunD.ok T.F_Setup_sub sc_Setup_sub (fun vs H Q E h => ?_) (fun cdv A outer s H vs Q E hr h => ⟨_, PSs.nox (pss_one (ps_ret (z_call (ok_setup_of T) T.c_setup_of (hr.mono (by decide)) rfl T.g_setup_of passL (pa_cons (z_call (ok_lines_without T) T.c_lines_without (hr.mono (by decide)) rfl T.g_lines_without passL (pa_cons (kFld K (pe_fld (pv 0) rfl)) (pa_cons (pv 1) pa_nil))) (pa_cons (kFld K (pe_fld (pv 0) rfl)) pa_nil))))), ?_⟩)
  · obtain ⟨D, P, z, rfl, _⟩ := h
    rfl
  obtain ⟨D, P, z, rfl, pl, hz, ok2, q⟩ := h
  show (_ : TS) _ [some (.ref D.p), some (.str z)] H
  try dsimp only [cxOf]
  obtain ⟨dx, a, b, hp, da, db⟩ := pl.ins
  have l12 := pl.ok.l12
  walk_at "rz"
  refine ⟨a, P.ls, z, rfl, da, by omega, shaped_names pl.ok, hz, fun H1 c us s1 hc e1 a1 => ?_⟩
  have hp1 := s1 _ _ hp
  walk_at "rz"
  refine ⟨c, us, b, lessP P z, rfl, e1, a1, db.same s1, ok2, fun H2 D' s2 hown pl2 => ?_⟩
  exact q H2 D' (s1.trans s2) (fun a ha => s1.fr.back (A := []) (hown a ha)) pl2
def spSubX (K : Fg) : Sp := fun vs H _ E => ∃ D P v d, vs = [.ref D.p, v] ∧ PlanAt K H D P ∧ Dp K H v d ∧ SeqAt.shaped d = true ∧
  (((∀ l ∈ P.ls, PyData.eqv (.str l.nm) d = false) ∧ FmtOk K H v ∧ ∀ dx H', Same H H' → H' dx = some (.xd [("line", v)]) → E (.ref (ga K "UnknownLine")) (some dx) H') ∨
   (∃ z, d = .str z ∧ z ∈ P.names ∧ ∀ H1, Same H H1 → RefS K (.tuple ((lessP P z).ls.map dLn)) (.tuple (P.ws.map dWk)) H1 E))
theorem ok_Setup_sub_x (T : Txt K mg) : FnOk P w K mg base (L2.CX P w) 9 (ma K (ga K "Setup") "__sub__") (fdOf K (ma K (ga K "Setup") "__sub__")) ["self", "name"] (spSubX K) := by
  have ok_lines_without_x := fun (T : Txt K mg) => ok_lines_without (P := P) (w := w) (base := base) T
  refine FunD.ok T.F_Setup_sub sc_Setup_sub (fun vs H Q E h => ?_) (fun cdv A outer s H vs Q E hr h => ⟨_, (pss_one (ps_ret (z_call (ok_setup_of_x T) T.c_setup_of (hr.mono (by decide)) rfl T.g_setup_of (passes_call (takes_of rfl rfl rfl rfl) (fun _ _ _ _ h => h)) (pa_cons (z_call (ok_lines_without_x T) T.c_lines_without (hr.mono (by decide)) rfl T.g_lines_without (passes_call (takes_of rfl rfl rfl rfl) (fun _ _ _ _ h => h)) (pa_cons (kFld K (pe_fld (pv 0) rfl)) (pa_cons (pv 1) pa_nil))) (pa_cons (kFld K (pe_fld (pv 0) rfl)) pa_nil))))), ?_⟩)
  · obtain ⟨D, P, v, d, rfl, _⟩ := h
    rfl
  obtain ⟨D, P, v, d, rfl, pl, hd, hsd, q⟩ := h
  show (_ : TS) _ [some (.ref D.p), some v] H
  try dsimp only [cxOf]
  obtain ⟨dx, a, b, hp, da, db⟩ := pl.ins
  have l12 := pl.ok.l12
  walk_at "rz"
  rcases q with ⟨hno, hf, hE⟩ | ⟨z, rfl, hz, hR⟩
  · exact ⟨a, P.ls, v, d, rfl, da, by omega, shaped_names pl.ok, hd, hsd, .inr ⟨hno, hf, hE⟩⟩
  · refine ⟨a, P.ls, v, .str z, rfl, da, by omega, shaped_names pl.ok, hd, hsd, .inl ⟨z, rfl, hz, fun H1 c us s1 hc e1 a1 => ?_⟩⟩
    have hp1 := s1 _ _ hp
    walk_at "rz"
    exact ⟨c, us, b, _, _, rfl, e1, a1, db.same s1, fun H2 s2 => hR H2 (s1.trans s2)⟩
theorem ok_Setup_lines (T : Txt K mg) : FnOk P w K mg base (L2.CX P w) 1 (pga K (ga K "Setup") "lines") (fdOf K (pga K (ga K "Setup") "lines")) ["self"] (spPLines K) := by
  refine FunD.ok T.F_Setup_lines sc_Setup_lines (fun vs H Q E h => ?_) (fun cdv A outer s H vs Q E hr h => ⟨_, PSs.nox (pss_one (ps_ret (kFld K (pe_fld (pv 0) rfl)))), ?_⟩)
  · obtain ⟨PD, P, rfl, _⟩ := h
    rfl
  obtain ⟨PD, P, rfl, pl, q⟩ := h
  show (_ : TS) _ [some (.ref PD.p)] H
  try dsimp only [cxOf]
  obtain ⟨dx, a, b, e, h1, h2⟩ := pl.ins
  walk_at "rz"
  exact q a h1
theorem ok_Setup_works (T : Txt K mg) : FnOk P w K mg base (L2.CX P w) 1 (pga K (ga K "Setup") "works") (fdOf K (pga K (ga K "Setup") "works")) ["self"] (spPWorks K) := by
  refine FunD.ok T.F_Setup_works sc_Setup_works (fun vs H Q E h => ?_) (fun cdv A outer s H vs Q E hr h => ⟨_, PSs.nox (pss_one (ps_ret (kFld K (pe_fld (pv 0) rfl)))), ?_⟩)
  · obtain ⟨PD, P, rfl, _⟩ := h
    rfl
  obtain ⟨PD, P, rfl, pl, q⟩ := h
  show (_ : TS) _ [some (.ref PD.p)] H
  try dsimp only [cxOf]
  obtain ⟨dx, a, b, e, h1, h2⟩ := pl.ins
  walk_at "rz"
  exact q b h2
theorem ok_Setup_len (T : Txt K mg) : FnOk P w K mg base (L2.CX P w) 1 (ma K (ga K "Setup") "__len__") (fdOf K (ma K (ga K "Setup") "__len__")) ["self"] (spPLen K) := by
  refine FunD.ok T.F_Setup_len sc_Setup_len (fun vs H Q E h => ?_) (fun cdv A outer s H vs Q E hr h => ⟨_, PSs.nox (pss_one (ps_ret (pe_callB (call_lenK K) (by rfl) T.u_len (by decide +kernel) (pa_cons (kFld K (pe_fld (pv 0) rfl)) pa_nil)))), ?_⟩)
  · obtain ⟨PD, P, rfl, _⟩ := h
    rfl
  obtain ⟨PD, P, rfl, pl, q⟩ := h
  show (_ : TS) _ [some (.ref PD.p)] H
  try dsimp only [cxOf]
  obtain ⟨dx, a, b, e, h1, h2⟩ := pl.ins
  obtain ⟨_, xs, ee, hT, hA⟩ := h1.tupI
  cases ee
  walk_at "rz"
  refine s_lenT hT ?_
  rw [hA.len, List.length_map]
  exact q
end
end T
set_option maxHeartbeats 4000000
namespace T
open PySem PySem.Spec PyProof.Rows L2 Z
open He (ga ma)
local macro_rules | `(tactic| walk_at "z") => `(tactic| with_reducible first | refine ⟨_, _, rfl, rfl, ?_⟩ | refine ⟨_, rfl, ?_⟩)
local macro_rules | `(tactic| walk_at "z") => `(tactic| ((with_reducible refine s_isi (d := ?d1) ?h1 ?h2 ?q1); (case h1 => first | assumption | constructor); (case h2 => decide)))
local macro_rules | `(tactic| walk_at "z") => `(tactic| with_reducible first | refine s_tup ?_ | refine s_lst ?_)
local macro_rules | `(tactic| walk_at "z") => `(tactic| ((with_reducible refine s_ne ?h1 ?q1); (case h1 => exact rfl)))
local macro_rules | `(tactic| walk_at "z") => `(tactic| ((with_reducible refine s_eq ?h1 ?q1); (case h1 => exact rfl)))
local macro_rules | `(tactic| walk_at "z") => `(tactic| with_reducible first | refine s_dcT ?_ | refine s_cvalg ?_ | refine s_fldS ?_ | refine s_I0 ?_ | refine s_U ?_)
local macro_rules | `(tactic| walk_at "z") => `(tactic| with_reducible first | refine s_make ?_ | refine s_sl ?_ | refine s_nop ?_ | refine s_part ?_ | refine s_lcE ?_ | refine s_lc ?_)
local macro_rules | `(tactic| walk_at "z") => `(tactic| with_reducible first | refine s_for ?_ | refine s_rng1 ?_ | refine s_iT ?_ | refine s_iL ?_ | refine Or.inl (Exists.intro _ (And.intro rfl ?_)) | refine Or.inr (Exists.intro _ (And.intro rfl ?_)))
local macro_rules | `(tactic| walk_at "z") => `(tactic| with_reducible first | refine s_tupRg ?_ | refine s_lstRg ?_ | refine s_rg1 ?_ | refine s_items ?_ | refine s_get2 ?_ | refine s_callI ?_)
local macro_rules | `(tactic| walk_at "z") => `(tactic| with_reducible first | refine s_fldaug ?_ | refine s_add ?_ | refine s_ipI ?_ | refine s_ixO ?_ | refine s_lcL ?_ | refine s_dputg ?_)
local macro_rules | `(tactic| walk_at "z") => `(tactic| with_reducible first | refine s_daugg ?_ | refine s_disp ?_ | refine s_pcons ?_ | refine s_pnil ?_ | refine s_gsub ?_ | refine s_augS ?_)
local macro_rules | `(tactic| walk_at "z") => `(tactic| with_reducible first | refine s_bm ?_ | refine s_bm0 ?_ | refine s_fldg ?_ | refine s_meth ?_ | refine s_prop ?_ | refine s_lcT ?_)
local macro_rules | `(tactic| walk_at "z") => `(tactic| with_reducible first | refine s_yes ?_ | refine s_gcons ?_ | refine s_gnil ?_ | refine s_din ?_ | refine s_dnin ?_ | refine s_dget ?_)
local macro_rules | `(tactic| walk_at "z") => `(tactic| with_reducible first | refine s_orV ?_ | refine s_notV ?_ | refine s_if ?_ | refine s_chain ?_ | refine s_call ?_ | refine s_bl ?_)
local macro_rules | `(tactic| walk_at "z") => `(tactic| with_reducible first | refine s_test ?_ | refine s_B ?_ | refine s_and ?_ | refine s_or ?_ | refine s_not ?_ | refine s_andV ?_)
local macro_rules | `(tactic| walk_at "z") => `(tactic| with_reducible first | refine s_op ?_ | refine s_un ?_ | refine s_cb ?_ | refine s_cons ?_ | refine s_nil ?_ | refine s_star ?_)
local macro_rules | `(tactic| walk_at "z") => `(tactic| ((with_reducible refine s_var (v := ?v1) ?h1 ?q1); (case h1 => exact rfl)))
local macro_rules | `(tactic| walk_at "z") => `(tactic| with_reducible refine s_c ?_)
local macro_rules | `(tactic| walk_at "z") => `(tactic| with_reducible first | refine s_drop ?_ | refine s_next ?_ | refine s_cont ?_ | refine s_break ?_ | refine s_par ?_ | refine s_par2 ?_)
local macro_rules | `(tactic| walk_at "z") => `(tactic| with_reducible first | refine s_seq ?_ | refine s_asg ?_ | refine s_gname ?_ | refine s_ret ?_ | refine s_retN ?_ | refine s_ifS ?_)
local macro_rules | `(tactic| walk_at "zi") => `(tactic| ((with_reducible refine ite_t ?h1 ?q1); (case h1 => rfl)))
local macro_rules | `(tactic| walk_at "zi") => `(tactic| ((with_reducible refine ite_f ?h1 ?q1); (case h1 => rfl)))
local macro_rules | `(tactic| walk_at "zi") => `(tactic| walk_at "z")
local macro_rules | `(tactic| walk_at "zn") => `(tactic| (intro p hp; generalize eH : upd _ p _ = H2; have s2 := newS hp eH; have e2 := newE eH; clear eH))
local macro_rules | `(tactic| walk_at "zt") => `(tactic| ((with_reducible refine And.intro ?h1 ?_); (case h1 => exact Nat.le_of_ble_eq_true rfl); intro p hp; generalize eH : upd _ p _ = H2; have s2 := newS hp eH; have e2 := newE eH; clear eH))
local macro_rules | `(tactic| walk_at "hl") => `(tactic| ((with_reducible apply ev_same); (· assumption); · walk_at "hl"))
local macro_rules | `(tactic| walk_at "hl") => `(tactic| ((with_reducible apply mh_same); (· assumption); · walk_at "hl"))
local macro_rules | `(tactic| walk_at "hl") => `(tactic| ((with_reducible apply hs_same); (· assumption); · walk_at "hl"))
local macro_rules | `(tactic| walk_at "hl") => `(tactic| ((with_reducible apply mst_same); (· assumption); · walk_at "hl"))
local macro_rules | `(tactic| walk_at "hl") => `(tactic| ((with_reducible apply plm_same); (· assumption); · walk_at "hl"))
local macro_rules | `(tactic| walk_at "hl") => `(tactic| ((with_reducible apply md_same); (· assumption); · walk_at "hl"))
local macro_rules | `(tactic| walk_at "hl") => `(tactic| ((with_reducible apply row_same); (· assumption); · walk_at "hl"))
local macro_rules | `(tactic| walk_at "hl") => `(tactic| ((with_reducible apply sg_same); (· assumption); · walk_at "hl"))
local macro_rules | `(tactic| walk_at "hl") => `(tactic| ((with_reducible apply cst_same); (· assumption); · walk_at "hl"))
local macro_rules | `(tactic| walk_at "hl") => `(tactic| ((with_reducible apply co_same); (· assumption); · walk_at "hl"))
local macro_rules | `(tactic| walk_at "hl") => `(tactic| ((with_reducible apply bd_same); (· assumption); · walk_at "hl"))
local macro_rules | `(tactic| walk_at "hl") => `(tactic| ((with_reducible apply pl_same); (· assumption); · walk_at "hl"))
local macro_rules | `(tactic| walk_at "hl") => `(tactic| ((with_reducible apply dpA_same); (· assumption); · walk_at "hl"))
local macro_rules | `(tactic| walk_at "hl") => `(tactic| ((with_reducible apply dp_same); (· assumption); · walk_at "hl"))
local macro_rules | `(tactic| walk_at "hl") => `(tactic| ((with_reducible apply SqL.of); · walk_at "hl"))
local macro_rules | `(tactic| walk_at "hl") => `(tactic| ((with_reducible apply SqT.of); · walk_at "hl"))
local macro_rules | `(tactic| walk_at "hl") => `(tactic| ((with_reducible apply sqL_same); (· assumption); · walk_at "hl"))
local macro_rules | `(tactic| walk_at "hl") => `(tactic| ((with_reducible apply sqT_same); (· assumption); · walk_at "hl"))
local macro_rules | `(tactic| walk_at "hl") => `(tactic| ((with_reducible apply at_same); (· assumption); · walk_at "hl"))
local macro_rules | `(tactic| walk_at "hl") => `(tactic| assumption)
local macro_rules | `(tactic| walk_at "lk") => `(tactic| with_reducible first | exact coF_fr | exact coF_lim | exact coF_jo)
local macro_rules | `(tactic| walk_at "lk") => `(tactic| with_reducible first | exact bdF_hi | exact bdF_ta | exact bdF_ra | exact bdF_jo | exact sgF_plan | exact sgF_board | exact sgF_core | exact sgF_time | exact sgF_sums | exact coF_plan)
local macro_rules | `(tactic| walk_at "lk") => `(tactic| with_reducible first | exact hsF_mo | exact hsF_tu | exact hsF_rc | exact hsF_ho | exact hsF_bs | exact hsF_ds | exact hsF_ev | exact bdF_plan | exact bdF_sh | exact bdF_wa)
local macro_rules | `(tactic| walk_at "lk") => `(tactic| with_reducible first | exact bdF_re | exact bdF_wt | exact hsF_plan | exact hsF_size | exact hsF_rr | exact hsF_sr | exact hsF_wy | exact hsF_li | exact hsF_bd | exact hsF_co)
local macro_rules | `(tactic| walk_at "lk") => `(tactic| with_reducible first | exact wvF_plan | exact wvF_size | exact plF_lr | exact plF_wr | exact plF_rn | exact plF_wn | exact bdF_tm | exact bdF_hr | exact bdF_sp | exact bdF_ru)
local macro_rules | `(tactic| walk_at "mk") => `(tactic| with_reducible first | exact mk_bar | exact mk_jo | exact mk_now | exact mk_lg | exact mk_sp | exact mk_jn | exact mk_ln | exact mk_wk)
local macro_rules | `(tactic| walk_at "mk") => `(tactic| with_reducible first | exact mh_times | exact mh_done | exact mc_ca | exact mc_bar | exact mc_jo | exact mk_ca | exact mk_ed | exact mk_hi | exact mk_up | exact mk_sh)
local macro_rules | `(tactic| walk_at "mk") => `(tactic| with_reducible first | exact mh_fates | exact mh_lines | exact mh_works | exact mh_routes | exact mh_storms | exact mh_spots | exact mh_turns | exact mh_holds | exact mh_last | exact mh_begun)
local macro_rules | `(tactic| walk_at "mk") => `(tactic| with_reducible first | exact mh_modes | exact mh_cores | exact mh_now | exact mh_order | exact mh_shut | exact mh_wanted | exact mh_high | exact mh_flags | exact mh_log | exact mh_rings)
local macro_rules | `(tactic| walk_at "cl") => `(tactic| with_reducible first | exact Txt.cl_InvalidSetup (by assumption) | exact Txt.cl_UnknownLine (by assumption) | exact Txt.cl_Setup (by assumption))
local macro_rules | `(tactic| walk_at "na") => `(tactic| with_reducible first | exact Txt.n_InvalidSetup_part (by assumption) | exact Txt.n_InvalidSetup_index (by assumption) | exact Txt.n_UnknownLine_line (by assumption) | exact Txt.n_Setup_line_rows (by assumption) | exact Txt.n_Setup_work_rows (by assumption) | exact Txt.n_Setup_rows_by_name (by assumption) | exact Txt.n_Setup_works_by_name (by assumption))
local macro_rules | `(tactic| walk_at "zz") => `(tactic| walk_at "zt")
local macro_rules | `(tactic| walk_at "zz") => `(tactic| ((with_reducible apply s_dgS); (· walk_at "hl"); (· walk_at "mk")))
local macro_rules | `(tactic| walk_at "zz") => `(tactic| ((with_reducible apply s_ixL); (· walk_at "hl"); (· with_reducible first | exact at0 | exact at1 | exact at2 | exact at3 | exact at4)))
local macro_rules | `(tactic| walk_at "zz") => `(tactic| ((with_reducible apply s_ixT); (· walk_at "hl"); (· with_reducible first | exact at0 | exact at1 | exact at2 | exact at3 | exact at4)))
local macro_rules | `(tactic| walk_at "zz") => `(tactic| ((with_reducible apply s_propat); (· walk_at "hl")))
local macro_rules | `(tactic| walk_at "zz") => `(tactic| ((with_reducible apply s_methat); (· walk_at "hl"); (· kernel_rfl)))
local macro_rules | `(tactic| walk_at "zz") => `(tactic| ((with_reducible apply s_fldat); (· walk_at "hl"); (· walk_at "cl"); (· walk_at "na"); (· walk_at "lk")))
local macro_rules | `(tactic| walk_at "zz") => `(tactic| walk_at "zi")
local macro_rules | `(tactic| walk_at "orz") => `(tactic| walk_at "zt")
local macro_rules | `(tactic| walk_at "orz") => `(tactic| ((with_reducible apply s_dgS); (· walk_at "hl"); (· walk_at "mk")))
local macro_rules | `(tactic| walk_at "orz") => `(tactic| ((with_reducible apply s_ixL); (· walk_at "hl"); (· with_reducible first | exact at0 | exact at1 | exact at2 | exact at3 | exact at4)))
local macro_rules | `(tactic| walk_at "orz") => `(tactic| ((with_reducible apply s_ixT); (· walk_at "hl"); (· with_reducible first | exact at0 | exact at1 | exact at2 | exact at3 | exact at4)))
local macro_rules | `(tactic| walk_at "orz") => `(tactic| ((with_reducible apply s_propat); (· walk_at "hl")))
local macro_rules | `(tactic| walk_at "orz") => `(tactic| ((with_reducible apply s_methat); (· walk_at "hl"); (· kernel_rfl)))
local macro_rules | `(tactic| walk_at "orz") => `(tactic| ((with_reducible apply s_fldat); (· walk_at "hl"); (· walk_at "cl"); (· walk_at "na"); (· walk_at "lk")))
local macro_rules | `(tactic| walk_at "orz") => `(tactic| ((with_reducible apply ite_t); (· rfl)))
local macro_rules | `(tactic| walk_at "orz") => `(tactic| ((with_reducible apply ite_f); (· rfl)))
local macro_rules | `(tactic| walk_at "orz") => `(tactic| with_reducible first | refine ⟨_, _, rfl, rfl, ?_⟩ | refine ⟨_, rfl, ?_⟩)
local macro_rules | `(tactic| walk_at "orz") => `(tactic| ((with_reducible apply s_isi); (· assumption); (· decide)))
local macro_rules | `(tactic| walk_at "orz") => `(tactic| with_reducible first | refine s_tup ?_ | refine s_lst ?_)
local macro_rules | `(tactic| walk_at "orz") => `(tactic| ((with_reducible apply s_ne); (· exact rfl)))
local macro_rules | `(tactic| walk_at "orz") => `(tactic| ((with_reducible apply s_eq); (· exact rfl)))
local macro_rules | `(tactic| walk_at "orz") => `(tactic| with_reducible first | refine s_lcE ?_ | refine s_lc ?_ | refine s_dcT ?_ | refine s_cvalg ?_ | refine s_I0 ?_ | refine s_U ?_)
local macro_rules | `(tactic| walk_at "orz") => `(tactic| with_reducible first | refine Or.inl (Exists.intro _ (And.intro rfl ?_)) | refine Or.inr (Exists.intro _ (And.intro rfl ?_)) | refine s_make ?_ | refine s_sl ?_ | refine s_nop ?_ | refine s_part ?_)
local macro_rules | `(tactic| walk_at "orz") => `(tactic| with_reducible first | refine s_get2 ?_ | refine s_callI ?_ | refine s_for ?_ | refine s_rng1 ?_ | refine s_iT ?_ | refine s_iL ?_)
local macro_rules | `(tactic| walk_at "orz") => `(tactic| with_reducible first | refine s_lcL ?_ | refine s_dputg ?_ | refine s_tupRg ?_ | refine s_lstRg ?_ | refine s_rg1 ?_ | refine s_items ?_)
local macro_rules | `(tactic| walk_at "orz") => `(tactic| with_reducible first | refine s_daugg ?_ | refine s_disp ?_ | refine s_gsub ?_ | refine s_fldaug ?_ | refine s_ipI ?_ | refine s_ixO ?_)
local macro_rules | `(tactic| walk_at "orz") => `(tactic| with_reducible first | refine s_chain ?_ | refine s_yes ?_ | refine s_din ?_ | refine s_dnin ?_ | refine s_bm0 ?_ | refine s_lcT ?_)
local macro_rules | `(tactic| walk_at "orz") => `(tactic| with_reducible first | refine s_un ?_ | refine s_star ?_ | refine s_and ?_ | refine s_or ?_ | refine s_orV ?_ | refine s_notV ?_)
local macro_rules | `(tactic| walk_at "orz") => `(tactic| with_reducible first | refine s_augS ?_ | refine s_retN ?_ | refine s_cont ?_ | refine s_break ?_ | refine s_par ?_ | refine s_par2 ?_)
local macro_rules | `(tactic| walk_at "orz") => `(tactic| with_reducible first | refine s_andV ?_ | refine s_add ?_ | refine s_prop ?_ | refine s_pnil ?_ | refine s_cb ?_ | refine s_not ?_)
local macro_rules | `(tactic| walk_at "orz") => `(tactic| with_reducible first | refine s_call ?_ | refine s_pcons ?_ | refine s_bm ?_ | refine s_if ?_ | refine s_gcons ?_ | refine s_gnil ?_)
local macro_rules | `(tactic| walk_at "orz") => `(tactic| with_reducible first | refine s_next ?_ | refine s_gname ?_ | refine s_drop ?_ | refine s_meth ?_ | refine s_fldS ?_ | refine s_asg ?_)
local macro_rules | `(tactic| walk_at "orz") => `(tactic| with_reducible first | refine s_fldg ?_ | refine s_ifS ?_ | refine s_dget ?_ | refine s_ret ?_ | refine s_B ?_ | refine s_test ?_)
local macro_rules | `(tactic| walk_at "orz") => `(tactic| with_reducible first | refine s_cons ?_ | refine s_c ?_ | refine s_nil ?_ | refine s_seq ?_ | refine s_op ?_ | refine s_bl ?_)
local macro_rules | `(tactic| walk_at "orz") => `(tactic| ((with_reducible apply s_var); (· exact rfl)))
local macro_rules | `(tactic| walk_at "rz") => `(tactic| repeat walk_at "orz")
local macro_rules | `(tactic| walk_at "zm") => `(tactic| (intro x dx hx hdx hne; generalize eH : upd (upd _ dx _) x _ = H2; have s2 := mkS hx hdx eH; have e2 := mkE eH; clear eH hdx hne))
local macro_rules | `(tactic| walk_at "zb") => `(tactic| with_reducible first | refine s_gcons ?_ | refine s_gnil ?_ | refine s_gname ?_ | refine s_seq ?_ | refine s_ifS ?_ | refine s_if ?_ | refine s_next ?_ | refine s_drop ?_ | refine s_ret ?_ | refine s_asg ?_)
def rankD (z : Str) (k : Int) (l : Ln) : PyData := if l.nm = z then .tuple [.str l.nm, .str l.kd, .int k, .tuple (l.st.map dSt)] else dLn l
theorem tupd_rankD (z : Str) (k : Int) (l : Ln) : tupd (rankD z k l) = true := by
  unfold rankD
  split
  · exact tupd_dLn ⟨l.nm, l.kd, l.rk, l.st⟩
  · exact tupd_dLn l
def spRank (K : Fg) : Sp := fun vs H Q _ => ∃ D P z k P', vs = [.ref D.p, .str z, .int k] ∧ PlanAt K H D P ∧ z ∈ P.names ∧ P'.Ok ∧ P'.ls.map dLn = P.ls.map (rankD z k) ∧ P'.ws = P.ws ∧ ∀ H' D', Same H H' → (∀ a ∈ D'.own, H a = none) → PlanAt K H' D' P' → Q (.ref D'.p) H'
def spRankX (K : Fg) : Sp := fun vs H _ E => ∃ D P v k d, vs = [.ref D.p, v, .int k] ∧ PlanAt K H D P ∧ Dp K H v d ∧ FmtOk K H v ∧
  ((nameIn P d = false ∧ ∀ dx H', Same H H' → H' dx = some (.xd [("line", v)]) → E (.ref (ga K "UnknownLine")) (some dx) H') ∨
   (∃ z, d = .str z ∧ z ∈ P.names ∧ ∀ H1, Same H H1 → RefS K (.tuple (P.ls.map (rankD z k))) (.tuple (P.ws.map dWk)) H1 E))
def spUnk (K : Fg) : Sp := fun vs H _ E => ∃ D P v d, vs = [.ref D.p, v] ∧ PlanAt K H D P ∧ Dp K H v d ∧ FmtOk K H v ∧ nameIn P d = false ∧ ∀ dx H', Same H H' → H' dx = some (.xd [("line", v)]) → E (.ref (ga K "UnknownLine")) (some dx) H'
section
variable {P : Program} {w : World} {K : Fg} {mg : Str → Option Value} {base : Heap}
theorem ok_Setup_getitem_x (T : Txt K mg) : FnOk P w K mg base (L2.CX P w) 5 (ma K (ga K "Setup") "__getitem__") (fdOf K (ma K (ga K "Setup") "__getitem__")) ["self", "name"] (spUnk K) := by
  refine FunD.ok T.F_Setup_getitem sc_Setup_getitem (fun vs H Q E h => ?_) (fun cdv A outer s H vs Q E hr h => ⟨_, (pss_cons (ps_expr (z_meth (pv 0) T.cl_Setup T.m_Setup_check_line (ok_Setup_check_line_x T) T.c_Setup_check_line (hr.mono (by decide)) (passes_call (takes_of rfl rfl rfl rfl) (fun _ _ _ _ h => h)) (pa_cons (pv 1) pa_nil))) pss_never), ?_⟩)
  · obtain ⟨D, P, v, d, rfl, _⟩ := h
    rfl
  obtain ⟨D, P, v, d, rfl, pl, hd, hf, hn, q⟩ := h
  show (_ : TS) _ [some (.ref D.p), some v] H
  try dsimp only [cxOf]
  obtain ⟨dx, a, b, hp, da, db⟩ := pl.ins
  walk_at "rz"
  exact ⟨D, v, d, P, rfl, pl, hd, hf, (fun h => by rw [hn] at h; cases h), fun _ => q⟩
theorem ok_Setup_ticks_of_x (T : Txt K mg) : FnOk P w K mg base (L2.CX P w) 7 (ma K (ga K "Setup") "ticks_of") (fdOf K (ma K (ga K "Setup") "ticks_of")) ["self", "line"] (spUnk K) := by
  refine FunD.ok T.F_Setup_ticks_of sc_Setup_ticks_of (fun vs H Q E h => ?_) (fun cdv A outer s H vs Q E hr h => ⟨_, (pss_one (ps_ret (pe_callB (cr_sumK K rfl) (by rfl) T.u_sum (by decide +kernel) (pa_cons (pe_lc (own := [("step", 2)]) rfl sc_Setup_ticks_of.nd (kIT K (pi_tup (pe_ix (ix_tupK K) (z_ixO (pv 0) (pv 1) T.m_Setup_getitem.at_ T.sub_Setup T.m_Setup_getitem.fn (ok_Setup_getitem_x T) T.c_Setup_getitem (hr.mono (by decide)) (passes_call (takes_of rfl rfl rfl rfl) (fun _ _ _ _ h => h))) pe_int (fun _ _ => rfl)))) (blkOk_by (own := [("step", 2)]) (N := n_Setup_ticks_of) (sc := defScope s_Setup_ticks_of) (by decide +kernel)) (fun _ _ _ _ _ => (zg 2 sc_Setup_ticks_of.nd)) (fun _ _ _ _ _ => (pts_one (pt_cmpR op_eq (pe_ix (ix_tupK K) (pv 2) pe_int (fun _ _ => rfl)) (z_str T.i_RUN) (nomark _)))) (fun _ _ _ _ _ => (pe_ix (ix_tupK K) (pv 2) pe_int (fun _ _ => rfl)))) pa_nil)))), ?_⟩)
  · obtain ⟨D, P, v, d, rfl, _⟩ := h
    rfl
  obtain ⟨D, P, v, d, rfl, pl, hd, hf, hn, q⟩ := h
  show (_ : TS) _ (some (.ref D.p) :: some v :: List.replicate 1 none) H
  try dsimp only [cxOf]
  dsimp only [List.replicate]
  obtain ⟨dx, a, b, hp, da, db⟩ := pl.ins
  walk_at "rz"
  exact ⟨D, P, v, d, rfl, pl, hd, hf, hn, q⟩
theorem ok_Setup_touched_by_x (T : Txt K mg) : FnOk P w K mg base (L2.CX P w) 7 (ma K (ga K "Setup") "touched_by") (fdOf K (ma K (ga K "Setup") "touched_by")) ["self", "line"] (spUnk K) := by
  refine FunD.ok T.F_Setup_touched_by sc_Setup_touched_by (fun vs H Q E h => ?_) (fun cdv A outer s H vs Q E hr h => ⟨_, (pss_cons (zset 2 sc_Setup_touched_by.nd (pe_lst pa_nil))
      (pss_cons (ps_for PassesOwn.leaving rfl (kIT K (pi_tup (pe_ix (ix_tupK K) (z_ixO (pv 0) (pv 1) T.m_Setup_getitem.at_ T.sub_Setup T.m_Setup_getitem.fn (ok_Setup_getitem_x T) T.c_Setup_getitem (hr.mono (by decide)) (passes_call (takes_of rfl rfl rfl rfl) (fun _ _ _ _ h => h))) pe_int (fun _ _ => rfl)))) (kGT K (pg_tup (n := 2) rfl (pgs_cons (zg 3 sc_Setup_touched_by.nd) (pgs_cons (zg 4 sc_Setup_touched_by.nd) pgs_nil))))
      (pss_one (ps_if (PW.pt (pw_and (pt_cmpR (op_in_seqK K) (pv 3) (z_ref T.g_LINE_WORDS) (by rfl)) (pw_and1 (pt_cmpR (op_notIn_seqK K) (pv 4) (pv 2) (by rfl))))) (pss_one (ps_expr (kBM K (pe_bm PySem.F.plainAttrs_list PySem.F.slot_list_append PySem.F.type_list_append mt_append (pv 2) (pa_cons (pv 4) pa_nil))))) pss_nil)))
      (pss_one (ps_ret (pv 2))))), ?_⟩)
  · obtain ⟨D, P, v, d, rfl, _⟩ := h
    rfl
  obtain ⟨D, P, v, d, rfl, pl, hd, hf, hn, q⟩ := h
  show (_ : TS) _ (some (.ref D.p) :: some v :: List.replicate 3 none) H
  try dsimp only [cxOf]
  dsimp only [List.replicate]
  obtain ⟨dx, a, b, hp, da, db⟩ := pl.ins
  walk_at "rz"
  rename_i t2 ht2 H2 s2 e2
  exact ⟨D, P, v, d, rfl, pl.same s2, hd.same s2, hf.same s2, hn, fun dx H' s' e => q dx H' (s2.trans s') e⟩
theorem ok_Setup_with_rank (T : Txt K mg) : FnOk P w K mg base (L2.CX P w) 7 (ma K (ga K "Setup") "with_rank") (fdOf K (ma K (ga K "Setup") "with_rank")) ["self", "line", "rank"] (spRank K) := by
  refine FunD.ok T.F_Setup_with_rank sc_Setup_with_rank (fun vs H Q E h => ?_) (fun cdv A outer s H vs Q E hr h => ⟨_, PSs.nox (pss_cons (ps_expr (z_meth (pv 0) T.cl_Setup T.m_Setup_check_line (ok_Setup_check_line T) T.c_Setup_check_line (hr.mono (by decide)) passL (pa_cons (pv 1) pa_nil)))
      (pss_cons (ps_setLc (i := 3) (own := [("row", 4)]) rfl sc_Setup_with_rank.nd rfl rfl (sw_true rfl rfl rfl (by decide +kernel)) (kIT K (pi_tup (kFld K (pe_fld (pv 0) rfl)))) (blkOk_by (own := [("row", 4)]) (N := n_Setup_with_rank) (sc := defScope s_Setup_with_rank) (by decide +kernel)) (fun _ _ _ _ _ => (zg 4 sc_Setup_with_rank.nd)) (fun _ _ _ _ _ => pts_nil) (fun _ _ _ _ _ => (pe_ifExp (pt_cmpR op_eq (pe_ix (ix_tupK K) (pv 4) pe_int (fun _ _ => rfl)) (pv 1) (nomark _)) (pe_tup (pa_cons (pe_ix (ix_tupK K) (pv 4) pe_int (fun _ _ => rfl)) (pa_cons (pe_ix (ix_tupK K) (pv 4) pe_int (fun _ _ => rfl)) (pa_cons (pv 2) (pa_cons (pe_ix (ix_tupK K) (pv 4) pe_int (fun _ _ => rfl)) pa_nil))))) (pv 4))))
      (pss_one (ps_ret (z_make T.mk_Setup (ok_Setup_init T) T.c_Setup_init (hr.mono (by decide)) rfl T.g_Setup passL (pa_cons (pe_callTy (call_tuple_ofK K) (by rfl) T.u_tuple (by decide +kernel) (pa_cons (pv 3) pa_nil)) (pa_cons (kFld K (pe_fld (pv 0) rfl)) pa_nil))))))), ?_⟩)
  · obtain ⟨D, P, z, k, P', rfl, _⟩ := h
    rfl
  obtain ⟨D, P, z, k, P', rfl, pl, hz, ok', hls, hws, q⟩ := h
  show (_ : TS) _ (some (.ref D.p) :: some (.str z) :: some (.int k) :: List.replicate 2 none) H
  try dsimp only [cxOf]
  dsimp only [List.replicate]
  obtain ⟨dx, a, b, hp, da, db⟩ := pl.ins
  obtain ⟨_, las, e, hT, hA⟩ := da.tupI
  cases e
  have l12 := pl.ok.l12
  walk_at "rz"
  refine ⟨D, z, P, rfl, pl, hz, ?_⟩
  walk_at "rz"
  refine lcT_d (l := P.ls) (da := dLn) hT hA (fun _ => true) (rankD z k) (by omega) (fun _ _ => tupd_rankD _ _ _) (fun l v Ha Yes No hl sa hdv yes no => ?_) (fun c H1 us hc s1 e1 a1 => ?_)
  · obtain ⟨t9, zs, rfl, hT9, hA9⟩ := hdv.tupI
    cases hA9 with | cons g1 hA9 => ?_
    cases hA9 with | cons g2 hA9 => ?_
    cases hA9 with | cons g3 hA9 => ?_
    cases hA9 with | cons g4 hA9 => ?_
    cases hA9
    cases g1
    cases g2
    cases g3
    walk_at "rz"
    refine ⟨rfl, ?_⟩
    walk_at "rz"
    refine ite_b (fun h => ?_) (fun h => ?_)
    · have h : l.nm = z := by simpa using h
      walk_at "rz"
      rename_i t8 ht8 H8 s8 e8
      refine yes rfl _ _ s8 ?_
      unfold rankD
      rw [if_pos h]
      exact .tup (SqT.of e8) (.cons (.str _) (.cons (.str _) (.cons (.int _) (.cons (g4.same s8) .nil))))
    · have h : ¬ l.nm = z := by simpa using h
      walk_at "rz"
      refine yes rfl _ _ (Same.refl _) ?_
      unfold rankD
      rw [if_neg h]
      exact hdv
  rw [List.filter_eq_self.mpr fun _ _ => rfl] at a1
  walk_at "rz"
  refine ⟨c, us, rfl, .inl ⟨SqL.of e1, fun t1 ht1 => ?_⟩⟩
  generalize eH : upd H1 t1 _ = H2
  have s2 := newS ht1 eH
  have e2 := newE eH
  clear eH
  have s12 := s1.trans s2
  have hp2 := s12 _ _ hp
  walk_at "rz"
  walk_at "zm"
  rename_i x dx2 hx H3 s3 e3
  rw [← hls] at a1
  refine ⟨x, t1, b, dx2, P', rfl, e3, .tup (s3.sqT (SqT.of e2)) ((a1.same s2).same s3), by rw [hws]; exact (db.same s12).same s3, ok', fun H4 rd wd hrd hwd hrw f4 pl4 => ⟨rfl, ?_⟩⟩
  have F4 : Fr [] H2 H4 := s3.fr.seq f4 (fun a ha => .inr (by rw [List.mem_singleton.mp ha]; exact hx))
  have bk : ∀ a, H2 a = none → H a = none := fun a h => s12.fr.back (A := []) h
  refine q H4 ⟨x, rd, wd⟩ (s12.trans F4.same) (fun a ha => bk a ?_) pl4
  simp only [Z.PA.own, List.mem_cons, List.not_mem_nil, or_false] at ha
  rcases ha with rfl | rfl | rfl
  · exact hx
  · exact s3.fr.back (A := []) hrd
  · exact s3.fr.back (A := []) hwd
end
set_option maxHeartbeats 4000000
open PySem PySem.Spec PyProof.Rows L2 Z
open He (ga ma)
def tchS (acc : List Str) (s : Str × Key) : List Str := match s.2 with
  | .inr z => if inV (.str s.1) lineWords = true ∧ z ∉ acc then acc ++ [z] else acc
  | .inl _ => acc
def tch (l : List (Str × Key)) : List Str := l.foldl tchS []
theorem tch_len : ∀ (l : List (Str × Key)) (acc : List Str), (l.foldl tchS acc).length ≤ acc.length + l.length
  | [], acc => by simp
  | (w, k) :: l, acc => by
    have h := tch_len l (tchS acc (w, k))
    have h2 : (tchS acc (w, k)).length ≤ acc.length + 1 := by
      unfold tchS
      cases k with
      | inl i => exact Nat.le_succ _
      | inr z =>
        show (if _ then _ else _ : List Str).length ≤ _
        split
        · rw [List.length_append]; exact Nat.le_refl _
        · exact Nat.le_succ _
    rw [List.foldl_cons, List.length_cons]
    omega
theorem no_line {P : Pl} {s : Str × Key} {i : Int} (h : StepIs P s) (e : s.2 = .inl i) : inV (.str s.1) lineWords = false := by
  cases h with
  | run j _ _ => show inV (.str "run") lineWords = false; decide +kernel
  | bar j _ _ => show inV (.str "bar") lineWords = false; decide +kernel
  | later z hz => cases e
  | flag w j hw _ _ =>
    simp only [List.mem_cons, List.not_mem_nil, or_false] at hw
    have : ∀ w ∈ (["set", "clear", "await"] : List Str), inV (.str w) lineWords = false := by decide +kernel
    exact this _ (by simpa using hw)
  | line w z hw hz _ => cases e
def spTouch (K : Fg) : Sp := fun vs H Q _ => ∃ D z P, vs = [.ref D.p, .str z] ∧ PlanAt K H D P ∧ z ∈ P.names ∧ ∀ H' c, Same H H' → H c = none → H' c = some (.lst ((tch (P.ln z).st).map V.str)) → Q (.ref c) H'
section
variable {P : Program} {w : World} {K : Fg} {mg : Str → Option Value} {base : Heap}
theorem ok_Setup_touched_by (T : Txt K mg) : FnOk P w K mg base (L2.CX P w) 6 (ma K (ga K "Setup") "touched_by") (fdOf K (ma K (ga K "Setup") "touched_by")) ["self", "line"] (spTouch K) := by
  refine FunD.ok T.F_Setup_touched_by sc_Setup_touched_by (fun vs H Q E h => ?_) (fun cdv A outer s H vs Q E hr h => ⟨_, PSs.nox (pss_cons (zset 2 sc_Setup_touched_by.nd (pe_lst pa_nil))
      (pss_cons (ps_for PassesOwn.never rfl (kIT K (pi_tup (pe_ix (ix_tupK K) (z_ixO (pv 0) (pv 1) T.m_Setup_getitem.at_ T.sub_Setup T.m_Setup_getitem.fn (ok_Setup_getitem T) T.c_Setup_getitem (hr.mono (by decide)) passL) pe_int (fun _ _ => rfl)))) (kGT K (pg_tup (n := 2) rfl (pgs_cons (zg 3 sc_Setup_touched_by.nd) (pgs_cons (zg 4 sc_Setup_touched_by.nd) pgs_nil))))
      (pss_one (ps_if (PW.pt (pw_and (pt_cmpR (op_in_seqK K) (pv 3) (z_ref T.g_LINE_WORDS) (by rfl)) (pw_and1 (pt_cmpR (op_notIn_seqK K) (pv 4) (pv 2) (by rfl))))) (pss_one (ps_expr (kBM K (pe_bm PySem.F.plainAttrs_list PySem.F.slot_list_append PySem.F.type_list_append mt_append (pv 2) (pa_cons (pv 4) pa_nil))))) pss_nil)))
      (pss_one (ps_ret (pv 2))))), ?_⟩)
  · obtain ⟨D, z, P, rfl, _⟩ := h
    rfl
  obtain ⟨D, z, P, rfl, pl, hz, q⟩ := h
  show (_ : TS) _ (some (.ref D.p) :: some (.str z) :: List.replicate 3 none) H
  try dsimp only [cxOf]
  dsimp only [List.replicate]
  obtain ⟨dx, a, b, hp, hda, hdb⟩ := pl.ins
  walk_at "rz"
  rename_i p hpn H2 s2 e2
  have pl2 := pl.same s2
  refine ⟨D, z, P, rfl, pl2, hz, fun v hv => ?_⟩
  obtain ⟨hl, _⟩ := pl.ok.ln_mem hz
  obtain ⟨c, zs, rfl, hTc, hAc⟩ := hv.tupI
  cases hAc with | cons h1 hAc => ?_
  cases hAc with | cons h2 hAc => ?_
  cases hAc with | cons h3 hAc => ?_
  cases hAc with | cons h4 hAc => ?_
  cases hAc
  obtain ⟨st, ss, rfl, hTs, hAs⟩ := h4.tupI
  walk_at "rz"
  have hst := pl.ok.steps8 hl
  have lss : ss.length = (P.ln z).st.length := by rw [hAs.len, List.length_map]
  walk_at "rz"
  refine ⟨⟨_, hTs⟩, for_tup (xs := ss) (fun i σ Ha => (∃ y3 y4, σ = [some (.ref D.p), some (.str z), some (.ref p), y3, y4]) ∧ Fr [p] H2 Ha ∧ Ha p = some (.lst ((((P.ln z).st.take i).foldl tchS []).map V.str)))
    ⟨⟨_, _, rfl⟩, Fr.refl, e2⟩ (fun i σ Ha _ ⟨_, fa, _⟩ => fa.tk.sqT hTs) (fun i v σ Ha hi ⟨⟨y3, y4, es⟩, fa, ea⟩ => ?_) (fun σ Ha ⟨⟨y3, y4, es⟩, fa, ea⟩ => ?_)⟩
  · subst es
    obtain ⟨dd, hdd, dv⟩ := hAs.getv hi
    rw [List.getElem?_map] at hdd
    obtain ⟨sx, hsx, rfl⟩ := Option.map_eq_some_iff.mp hdd
    have hstp := pl.ok.step hl (List.mem_of_getElem? hsx)
    have etk : (P.ln z).st.take (i + 1) = (P.ln z).st.take i ++ [sx] := by rw [List.take_add_one, hsx]; rfl
    obtain ⟨sw, sk⟩ := sx
    have llen : (((P.ln z).st.take i).foldl tchS []).length ≤ 8 := by
      have := tch_len ((P.ln z).st.take i) []
      rw [List.length_take] at this
      simp at this
      omega
    obtain ⟨ta, tz, rfl, tT, tA⟩ := (dv.tk fa.tk (tupd_dSt (sw, sk))).tupI
    cases tA with | cons g1 tA => ?_
    cases tA with | cons g2 tA => ?_
    cases tA
    cases g1
    refine s_gtup tT rfl ?_
    walk_at "rz"
    refine s_in (.inr (T.t_LINE_WORDS Ha)) rfl rfl ?_
    walk_at "rz"
    refine ite_b (fun n1 => ?_) (fun n1 => ?_)
    · have n1 : inV (.str sw) lineWords = true := n1
      cases sk with
      | inl j => rw [no_line hstp rfl] at n1; cases n1
      | inr y =>
        cases g2
        walk_at "rz"
        refine s_in (.inl (SqL.of ea)) rfl (by simp [flatV]) ?_
        rw [inV_strs]
        walk_at "rz"
        refine ite_b (fun n2 => ?_) (fun n2 => ?_)
        · have n2 : y ∉ ((P.ln z).st.take i).foldl tchS [] := by simpa using n2
          walk_at "rz"
          refine s_tyL ea ?_
          walk_at "rz"
          refine s_append ea (by rw [List.length_map, sizeLine_eq]; omega) ?_
          refine ⟨⟨_, _, rfl⟩, fa.trans (Fr.upd List.mem_cons_self ea rfl), ?_⟩
          rw [etk, List.foldl_append, upd_same]
          show _ = some (HO.lst ((if _ ∧ y ∉ _ then _ else _ : List Str).map V.str))
          rw [if_pos ⟨n1, n2⟩, List.map_append]
          rfl
        · have n2 : y ∈ ((P.ln z).st.take i).foldl tchS [] := by simpa using n2
          walk_at "rz"
          refine ⟨⟨_, _, rfl⟩, fa, ?_⟩
          rw [etk, List.foldl_append]
          show Ha p = some (.lst ((if _ ∧ y ∉ _ then _ else _ : List Str).map V.str))
          rw [if_neg fun h => h.2 n2]
          exact ea
    · have m1 : inV (.str sw) lineWords = false := n1
      walk_at "rz"
      refine ⟨⟨_, _, rfl⟩, fa, ?_⟩
      rw [etk, List.foldl_append]
      show Ha p = some (.lst ((tchS _ (sw, sk)).map V.str))
      cases sk with
      | inl j => exact ea
      | inr y =>
        show Ha p = some (.lst ((if _ ∧ y ∉ _ then _ else _ : List Str).map V.str))
        rw [if_neg fun h => by have h1 : inV (.str sw) lineWords = true := h.1; rw [m1] at h1; cases h1]
        exact ea
  · subst es
    walk_at "rz"
    have f02 : Fr [] H Ha := (s2.fr : Fr [] H H2).seq fa fun y hy => .inr (by rw [List.mem_singleton.mp hy]; exact hpn)
    rw [show (P.ln z).st.take ss.length = (P.ln z).st by rw [lss, List.take_length]] at ea
    exact q Ha p f02.same hpn ea
theorem ok_Setup_with_rank_x (T : Txt K mg) : FnOk P w K mg base (L2.CX P w) 8 (ma K (ga K "Setup") "with_rank") (fdOf K (ma K (ga K "Setup") "with_rank")) ["self", "line", "rank"] (spRankX K) := by
  refine FunD.ok T.F_Setup_with_rank sc_Setup_with_rank (fun vs H Q E h => ?_) (fun cdv A outer s H vs Q E hr h => ⟨_, (pss_cons (ps_expr (z_meth (pv 0) T.cl_Setup T.m_Setup_check_line (ok_Setup_check_line_x T) T.c_Setup_check_line (hr.mono (by decide)) (passes_call (takes_of rfl rfl rfl rfl) (fun _ _ _ _ h => h)) (pa_cons (pv 1) pa_nil)))
      (pss_cons (ps_setLc (i := 3) (own := [("row", 4)]) rfl sc_Setup_with_rank.nd rfl rfl (sw_true rfl rfl rfl (by decide +kernel)) (kIT K (pi_tup (kFld K (pe_fld (pv 0) rfl)))) (blkOk_by (own := [("row", 4)]) (N := n_Setup_with_rank) (sc := defScope s_Setup_with_rank) (by decide +kernel)) (fun _ _ _ _ _ => (zg 4 sc_Setup_with_rank.nd)) (fun _ _ _ _ _ => pts_nil) (fun _ _ _ _ _ => (pe_ifExp (pt_cmpR op_eq (pe_ix (ix_tupK K) (pv 4) pe_int (fun _ _ => rfl)) (pv 1) (nomark _)) (pe_tup (pa_cons (pe_ix (ix_tupK K) (pv 4) pe_int (fun _ _ => rfl)) (pa_cons (pe_ix (ix_tupK K) (pv 4) pe_int (fun _ _ => rfl)) (pa_cons (pv 2) (pa_cons (pe_ix (ix_tupK K) (pv 4) pe_int (fun _ _ => rfl)) pa_nil))))) (pv 4))))
      (pss_one (ps_ret (z_make T.mk_Setup (ok_Setup_init_x T) T.c_Setup_init (hr.mono (by decide)) rfl T.g_Setup (passes_call (takes_of rfl rfl rfl rfl) (fun _ _ _ _ h => h)) (pa_cons (pe_callTy (call_tuple_ofK K) (by rfl) T.u_tuple (by decide +kernel) (pa_cons (pv 3) pa_nil)) (pa_cons (kFld K (pe_fld (pv 0) rfl)) pa_nil))))))), ?_⟩)
  · obtain ⟨D, P, v, k, d, rfl, _⟩ := h
    rfl
  obtain ⟨D, P, v, k, d, rfl, pl, hd, hf, h⟩ := h
  show (_ : TS) _ (some (.ref D.p) :: some v :: some (.int k) :: List.replicate 2 none) H
  try dsimp only [cxOf]
  dsimp only [List.replicate]
  obtain ⟨dx, a, b, hp, da, db⟩ := pl.ins
  obtain ⟨_, las, e, hT, hA⟩ := da.tupI
  cases e
  have l12 := pl.ok.l12
  walk_at "rz"
  rcases h with ⟨hn, hE⟩ | ⟨z, rfl, hz, hR⟩
  · exact ⟨D, v, d, P, rfl, pl, hd, hf, (fun h => by rw [hn] at h; cases h), fun _ => hE⟩
  have ev : v = .str z := by cases hd; rfl
  subst ev
  refine ⟨D, .str z, .str z, P, rfl, pl, hd, hf, fun _ => ?_, fun h => by
    have h : decide (z ∈ P.names) = false := h
    rw [decide_eq_true hz] at h
    cases h⟩
  walk_at "rz"
  refine lcT_d (l := P.ls) (da := dLn) hT hA (fun _ => true) (rankD z k) (by omega) (fun _ _ => tupd_rankD _ _ _) (fun l v Ha Yes No hl sa hdv yes no => ?_) (fun c H1 us hc s1 e1 a1 => ?_)
  · obtain ⟨t9, zs, rfl, hT9, hA9⟩ := hdv.tupI
    cases hA9 with | cons g1 hA9 => ?_
    cases hA9 with | cons g2 hA9 => ?_
    cases hA9 with | cons g3 hA9 => ?_
    cases hA9 with | cons g4 hA9 => ?_
    cases hA9
    cases g1
    cases g2
    cases g3
    walk_at "rz"
    refine ⟨rfl, ?_⟩
    walk_at "rz"
    refine ite_b (fun h => ?_) (fun h => ?_)
    · have h : l.nm = z := by simpa using h
      walk_at "rz"
      rename_i t8 ht8 H8 s8 e8
      refine yes rfl _ _ s8 ?_
      unfold rankD
      rw [if_pos h]
      exact .tup (SqT.of e8) (.cons (.str _) (.cons (.str _) (.cons (.int _) (.cons (g4.same s8) .nil))))
    · have h : ¬ l.nm = z := by simpa using h
      walk_at "rz"
      refine yes rfl _ _ (Same.refl _) ?_
      unfold rankD
      rw [if_neg h]
      exact hdv
  rw [List.filter_eq_self.mpr fun _ _ => rfl] at a1
  walk_at "rz"
  refine ⟨c, us, rfl, .inl ⟨SqL.of e1, fun t1 ht1 => ?_⟩⟩
  generalize eH : upd H1 t1 _ = H2
  have s2 := newS ht1 eH
  have e2 := newE eH
  clear eH
  have s12 := s1.trans s2
  have hp2 := s12 _ _ hp
  walk_at "rz"
  walk_at "zm"
  rename_i x dx2 hx H3 s3 e3
  exact ⟨x, dx2, .ref t1, .ref b, _, _, rfl, e3, .tup (s3.sqT (SqT.of e2)) ((a1.same s2).same s3), (db.same s12).same s3, hR H3 (s12.trans s3)⟩
end
set_option maxHeartbeats 4000000
open PySem PySem.Spec PyProof.Rows L2 Z
open He (ga ma)
theorem filter_ln {P : Pl} (ok : P.Ok) {z : Str} (hz : z ∈ P.names) : (P.ls.filter fun l => decide (l.nm = z))[0]? = some (P.ln z) := by
  obtain ⟨l, hl, rfl⟩ := List.mem_map.mp hz
  have h : (P.ls.filter fun y => decide (y.nm = l.nm)).head? = P.ls.find? fun y => decide (y.nm = l.nm) := List.head?_filter
  rw [← List.head?_eq_getElem?, h, ok.ln_eq hl]
  have := find_nd (f := fun y : Ln => y.nm) ok.lnd hl
  have e : (fun y : Ln => decide (y.nm = l.nm)) = fun y => y.nm == l.nm := funext fun y => by by_cases h : y.nm = l.nm <;> simp [h]
  rw [e]
  exact this
def spWTouch (K : Fg) : Sp := fun vs H Q _ => ∃ la, ∃ P : Pl, ∃ z, vs = [.ref la, .str z] ∧ Dp K H (.ref la) (.tuple (P.ls.map dLn)) ∧ P.Ok ∧ z ∈ P.names ∧ ∀ H' c, Same H H' → H c = none → H' c = some (.lst ((tch (P.ln z).st).map V.str)) → Q (.ref c) H'
def leftL (P : Pl) (z : Str) : List Ln := P.ls.filter fun l => !decide (l.nm = z)
def badI (ls : List Ln) (z : Str) : Nat → Bool := fun k => decide (z ∈ (ls[k]?.elim [] fun l => tch l.st))
def lessD (P : Pl) (z : Str) : PyData := if (leftL P z).length = 0 then .tuple [.str "setup", .str "lines", .int 0]
  else match (List.range (leftL P z).length).filter (badI (leftL P z) z) with
    | k :: _ => .tuple [.str "setup", .str "handlers", .int (k : Nat)]
    | [] => .none
def spWLess (K : Fg) : Sp := fun vs H Q _ => ∃ la, ∃ P : Pl, ∃ z, vs = [.ref la, .str z] ∧ Dp K H (.ref la) (.tuple (P.ls.map dLn)) ∧ P.Ok ∧ z ∈ P.names ∧ ∀ H' v, Same H H' → Dp K H' v (lessD P z) → Q v H'
section
variable {P : Program} {w : World} {K : Fg} {mg : Str → Option Value} {base : Heap}
theorem ok_w_touched (T : Txt K mg) : FnOk P w K mg base (L2.CX P w) 4 (ga K "_law_touched") (fdOf K (ga K "_law_touched")) ["_law_lines", "_law_name"] (spWTouch K) := by
  refine FunD.ok T.F_w_touched sc_w_touched (fun vs H Q E h => ?_) (fun cdv A outer s H vs Q E hr h => ⟨_, PSs.nox (pss_cons (zset 2 sc_w_touched.nd (pe_lst pa_nil))
      (pss_cons (ps_for PassesOwn.never rfl (kIT K (pi_tup (pe_ix (ix_tupK K) (pe_ix (ix_listK K) (pe_lc (own := [("_law_line", 5)]) rfl sc_w_touched.nd (kIT K (pi_tup (pv 0))) (blkOk_by (own := [("_law_line", 5)]) (N := n_w_touched) (sc := defScope s_w_touched) (by decide +kernel)) (fun _ _ _ _ _ => (zg 5 sc_w_touched.nd)) (fun _ _ _ _ _ => (pts_one (pt_cmpR op_eq (pe_ix (ix_tupK K) (pv 5) pe_int (fun _ _ => rfl)) (pv 1) (nomark _)))) (fun _ _ _ _ _ => (pv 5))) pe_int (fun _ _ => rfl)) pe_int (fun _ _ => rfl)))) (kGT K (pg_tup (n := 2) rfl (pgs_cons (zg 3 sc_w_touched.nd) (pgs_cons (zg 4 sc_w_touched.nd) pgs_nil))))
      (pss_one (ps_if (PW.pt (pw_and (pt_cmpR (op_in_seqK K) (pv 3) (pe_tup (pa_cons pe_str (pa_cons pe_str (pa_cons pe_str (pa_cons pe_str pa_nil))))) (by rfl)) (pw_and1 (pt_cmpR (op_notIn_seqK K) (pv 4) (pv 2) (by rfl))))) (pss_one (ps_expr (kBM K (pe_bm PySem.F.plainAttrs_list PySem.F.slot_list_append PySem.F.type_list_append mt_append (pv 2) (pa_cons (pv 4) pa_nil))))) pss_nil)))
      (pss_one (ps_ret (pv 2))))), ?_⟩)
  · obtain ⟨la, P, z, rfl, _⟩ := h
    rfl
  obtain ⟨la, P, z, rfl, hda, ok, hz, q⟩ := h
  show (_ : TS) _ (some (.ref la) :: some (.str z) :: List.replicate 4 none) H
  try dsimp only [cxOf]
  dsimp only [List.replicate]
  obtain ⟨_, las, e, hTl, hAl⟩ := hda.tupI
  cases e
  have l12 := ok.l12
  obtain ⟨hl, _⟩ := ok.ln_mem hz
  walk_at "rz"
  rename_i p hpn H2 s2 e2
  refine lcT_d (l := P.ls) (da := dLn) (s2.sqT hTl) (hAl.same s2) (fun l => decide (l.nm = z)) dLn (by omega) (fun _ _ => tupd_dLn _) (fun l v Ha Yes No hl sa hdv yes no => ?_) (fun c9 H3 us hc9 s3 e3 a3 => ?_)
  · obtain ⟨t9, zs, rfl, hT9, hA9⟩ := hdv.tupI
    cases hA9 with | cons g1 hA9 => ?_
    cases g1
    walk_at "rz"
    refine ⟨rfl, ?_⟩
    walk_at "rz"
    refine ite_b (fun h => ?_) (fun h => ?_)
    · walk_at "rz"
      exact yes (by simpa using h) _ _ (Same.refl _) hdv
    · exact no (by simpa using h) _ (Same.refl _)
  obtain ⟨v0, hv0, dv0⟩ := a3.get (i := 0) (x := dLn (P.ln z)) (by rw [List.getElem?_map, filter_ln ok hz]; rfl)
  obtain ⟨c, zs, rfl, hTc, hAc⟩ := dv0.tupI
  cases hAc with | cons h1 hAc => ?_
  cases hAc with | cons h2 hAc => ?_
  cases hAc with | cons h3 hAc => ?_
  cases hAc with | cons h4 hAc => ?_
  cases hAc
  obtain ⟨st, ss, rfl, hTs, hAs⟩ := h4.tupI
  have hst := ok.steps8 hl
  have lss : ss.length = (P.ln z).st.length := by rw [hAs.len, List.length_map]
  walk_at "rz"
  refine s_ixL (SqL.of e3) (at_of (j := 0) rfl hv0) ?_
  walk_at "rz"
  have e23 := s3 _ _ e2
  refine ⟨⟨_, hTs⟩, for_tup (xs := ss) (fun i σ Ha => (∃ y3 y4 y5, σ = [some (.ref la), some (.str z), some (.ref p), y3, y4, y5]) ∧ Fr [p] H3 Ha ∧ Ha p = some (.lst ((((P.ln z).st.take i).foldl tchS []).map V.str)))
    ⟨⟨_, _, _, rfl⟩, Fr.refl, e23⟩ (fun i σ Ha _ ⟨_, fa, _⟩ => fa.tk.sqT hTs) (fun i v σ Ha hi ⟨⟨y3, y4, y5, es⟩, fa, ea⟩ => ?_) (fun σ Ha ⟨⟨y3, y4, y5, es⟩, fa, ea⟩ => ?_)⟩
  · subst es
    obtain ⟨dd, hdd, dv⟩ := hAs.getv hi
    rw [List.getElem?_map] at hdd
    obtain ⟨sx, hsx, rfl⟩ := Option.map_eq_some_iff.mp hdd
    have hstp := ok.step hl (List.mem_of_getElem? hsx)
    have etk : (P.ln z).st.take (i + 1) = (P.ln z).st.take i ++ [sx] := by rw [List.take_add_one, hsx]; rfl
    obtain ⟨sw, sk⟩ := sx
    have llen : (((P.ln z).st.take i).foldl tchS []).length ≤ 8 := by
      have := tch_len ((P.ln z).st.take i) []
      rw [List.length_take] at this
      simp at this
      omega
    obtain ⟨ta, tz, rfl, tT, tA⟩ := (dv.tk fa.tk (tupd_dSt (sw, sk))).tupI
    cases tA with | cons g1 tA => ?_
    cases tA with | cons g2 tA => ?_
    cases tA
    cases g1
    refine s_gtup tT rfl ?_
    walk_at "rz"
    rename_i tl htl Hb sb eb
    refine s_in (.inr (SqT.of eb)) rfl rfl ?_
    have ea := sb _ _ ea
    have fb : Fr [p] H3 Hb := fa.trans ((sb.fr : Fr [] Ha Hb).mono (by simp))
    walk_at "rz"
    refine ite_b (fun n1 => ?_) (fun n1 => ?_)
    · have n1 : inV (.str sw) lineWords = true := n1
      cases sk with
      | inl j => rw [no_line hstp rfl] at n1; cases n1
      | inr y =>
        cases g2
        walk_at "rz"
        refine s_in (.inl (SqL.of ea)) rfl (by simp [flatV]) ?_
        rw [inV_strs]
        walk_at "rz"
        refine ite_b (fun n2 => ?_) (fun n2 => ?_)
        · have n2 : y ∉ ((P.ln z).st.take i).foldl tchS [] := by simpa using n2
          walk_at "rz"
          refine s_tyL ea ?_
          walk_at "rz"
          refine s_append ea (by rw [List.length_map, sizeLine_eq]; omega) ?_
          refine ⟨⟨_, _, _, rfl⟩, fb.trans (Fr.upd List.mem_cons_self ea rfl), ?_⟩
          rw [etk, List.foldl_append, upd_same]
          show _ = some (HO.lst ((if _ ∧ y ∉ _ then _ else _ : List Str).map V.str))
          rw [if_pos ⟨n1, n2⟩, List.map_append]
          rfl
        · have n2 : y ∈ ((P.ln z).st.take i).foldl tchS [] := by simpa using n2
          walk_at "rz"
          refine ⟨⟨_, _, _, rfl⟩, fb, ?_⟩
          rw [etk, List.foldl_append]
          show Hb p = some (.lst ((if _ ∧ y ∉ _ then _ else _ : List Str).map V.str))
          rw [if_neg fun h => h.2 n2]
          exact ea
    · have m1 : inV (.str sw) lineWords = false := n1
      walk_at "rz"
      refine ⟨⟨_, _, _, rfl⟩, fb, ?_⟩
      rw [etk, List.foldl_append]
      show Hb p = some (.lst ((tchS _ (sw, sk)).map V.str))
      cases sk with
      | inl j => exact ea
      | inr y =>
        show Hb p = some (.lst ((if _ ∧ y ∉ _ then _ else _ : List Str).map V.str))
        rw [if_neg fun h => by have h1 : inV (.str sw) lineWords = true := h.1; rw [m1] at h1; cases h1]
        exact ea
  · subst es
    walk_at "rz"
    have f03 : Fr [] H Ha := ((s2.trans s3).fr : Fr [] H H3).seq fa fun y hy => .inr (by rw [List.mem_singleton.mp hy]; exact hpn)
    rw [show (P.ln z).st.take ss.length = (P.ln z).st by rw [lss, List.take_length]] at ea
    exact q Ha p f03.same hpn ea
theorem ok_w_less (T : Txt K mg) : FnOk P w K mg base (L2.CX P w) 6 (ga K "_law_less") (fdOf K (ga K "_law_less")) ["_law_lines", "_law_name"] (spWLess K) := by
  refine FunD.ok T.F_w_less sc_w_less (fun vs H Q E h => ?_) (fun cdv A outer s H vs Q E hr h => ⟨_, PSs.nox (pss_cons (zset 2 sc_w_less.nd (pe_lc (own := [("_law_line", 4)]) rfl sc_w_less.nd (kIT K (pi_tup (pv 0))) (blkOk_by (own := [("_law_line", 4)]) (N := n_w_less) (sc := defScope s_w_less) (by decide +kernel)) (fun _ _ _ _ _ => (zg 4 sc_w_less.nd)) (fun _ _ _ _ _ => (pts_one (pt_cmpR op_ne (pe_ix (ix_tupK K) (pv 4) pe_int (fun _ _ => rfl)) (pv 1) (nomark _)))) (fun _ _ _ _ _ => (pv 4))))
      (pss_cons (ps_setLc (i := 3) (own := [("_law_k", 5)]) rfl sc_w_less.nd rfl rfl (sw_true rfl rfl rfl (by decide +kernel)) (pi_range1 rfl T.u_range (pa_cons (pe_callB (call_lenK K) (by rfl) T.u_len (by decide +kernel) (pa_cons (pv 2) pa_nil)) pa_nil)) (blkOk_by (own := [("_law_k", 5)]) (N := n_w_less) (sc := defScope s_w_less) (by decide +kernel)) (fun _ _ _ _ _ => (zg 5 sc_w_less.nd)) (fun _ _ _ _ _ => (pts_one (pt_cmpR (op_in_seqK K) (pv 1) (z_call (ok_w_touched T) T.c_w_touched (hr.mono (by decide)) rfl T.g_w_touched passL (pa_cons (pv 0) (pa_cons (pe_ix (ix_tupK K) (pe_ix (ix_listK K) (pv 2) (pv 5) (fun _ _ => rfl)) pe_int (fun _ _ => rfl)) pa_nil))) (by rfl)))) (fun _ _ _ _ _ => (pv 5)))
      (pss_one (ps_ret (pe_ifExp (pt_cmpR (op_eq0K K hr.units) (pv 2) (pe_lst pa_nil) (nomark _)) (pe_tup (pa_cons pe_str (pa_cons pe_str (pa_cons pe_int pa_nil)))) (pe_ifExp (pt_cmpR (op_ne0K K hr.units) (pv 3) (pe_lst pa_nil) (nomark _)) (pe_tup (pa_cons pe_str (pa_cons pe_str (pa_cons (pe_ix (ix_listK K) (pv 3) pe_int (fun _ _ => rfl)) pa_nil)))) pe_non)))))), ?_⟩)
  · obtain ⟨la, P, z, rfl, _⟩ := h
    rfl
  obtain ⟨la, P, z, rfl, hda, ok, hz, q⟩ := h
  show (_ : TS) _ (some (.ref la) :: some (.str z) :: List.replicate 4 none) H
  try dsimp only [cxOf]
  dsimp only [List.replicate]
  obtain ⟨_, las, e, hTl, hAl⟩ := hda.tupI
  cases e
  have l12 := ok.l12
  walk_at "rz"
  refine lcT_d (l := P.ls) (da := dLn) hTl hAl (fun l => !decide (l.nm = z)) dLn (by omega) (fun _ _ => tupd_dLn _) (fun l v Ha Yes No hl sa hdv yes no => ?_) (fun c9 H3 us hc9 s3 e3 a3 => ?_)
  · obtain ⟨t9, zs, rfl, hT9, hA9⟩ := hdv.tupI
    cases hA9 with | cons g1 hA9 => ?_
    cases g1
    walk_at "rz"
    refine ⟨rfl, ?_⟩
    walk_at "rz"
    refine ite_b (fun h => ?_) (fun h => ?_)
    · walk_at "rz"
      exact yes (by simpa using h) _ _ (Same.refl _) hdv
    · exact no (by simpa using h) _ (Same.refl _)
  have lus : us.length = (leftL P z).length := by rw [a3.len, List.length_map]; rfl
  have l12' : (leftL P z).length ≤ 12 := Nat.le_trans (List.length_filter_le _ _) l12
  walk_at "rz"
  refine s_lenL (SqL.of e3) ?_
  walk_at "rz"
  refine ⟨by omega, by omega, ?_⟩
  rw [Int.toNat_natCast]
  refine lcR_d (K := K) (badI (leftL P z) z) (fun k => .int (k : Nat)) (by omega) (fun _ _ => rfl) (fun k Ha Yes No hk sa yes no => ?_) (fun l6 H6 ys hl6 s6 e6 a6 => ?_)
  · obtain ⟨lk, hlk⟩ : ∃ lk, (leftL P z)[k]? = some lk := ⟨_, List.getElem?_eq_getElem (by omega)⟩
    obtain ⟨v0, hv0, dv0⟩ := (a3.same sa).get (i := k) (x := dLn lk) (by rw [List.getElem?_map, show (P.ls.filter fun l => !decide (l.nm = z))[k]? = some lk from hlk]; rfl)
    obtain ⟨c, zs, rfl, hTc, hAc⟩ := dv0.tupI
    cases hAc with | cons h1 hAc => ?_
    cases h1
    have hlm : lk ∈ P.ls := (List.mem_filter.mp (List.mem_of_getElem? hlk)).1
    have eln := ok.ln_eq hlm
    walk_at "rz"
    refine ⟨rfl, ?_⟩
    walk_at "rz"
    refine s_ixL (SqL.of (sa _ _ e3)) (atI_nat hv0) ?_
    walk_at "rz"
    refine ⟨la, P, lk.nm, rfl, hda.same (s3.trans sa), ok, List.mem_map_of_mem hlm, fun H5 c5 s5 hc5 e5 => ?_⟩
    rw [eln] at e5
    have eb : badI (leftL P z) z k = decide (z ∈ tch lk.st) := by
      unfold badI
      rw [hlk]
      rfl
    walk_at "rz"
    refine s_in (.inl (SqL.of e5)) rfl (by simp [flatV]) ?_
    rw [inV_strs]
    walk_at "rz"
    refine ite_b (fun h => ?_) (fun h => ?_)
    · walk_at "rz"
      exact yes (by rw [eb]; simpa using h) _ _ s5 (.int _)
    · exact no (by rw [eb]; simpa using h) _ s5
  have hy : ys = ((List.range (leftL P z).length).filter (badI (leftL P z) z)).map fun k => V.int (k : Nat) := by
    have : ∀ {l : List Nat} {ys : List V}, DpAll K H6 ys (l.map fun k => PyData.int (k : Nat)) → ys = l.map fun k => V.int (k : Nat) := fun {l} => by
      induction l with
      | nil => intro ys h; cases h; rfl
      | cons a l ih => intro ys h; cases h with | cons h1 h2 => cases h1; rw [ih h2]; rfl
    rw [lus] at a6
    exact this a6
  have q := fun H' v s d => q H' v s d
  unfold lessD at q
  walk_at "rz"
  rename_i l7 hl7 H7 s7 e7
  refine s_eq0L (SqL.of ((s6.trans s7) _ _ e3)) (SqL.of e7) ?_
  walk_at "rz"
  have s37 := s3.trans (s6.trans s7)
  refine ite_b (fun h => ?_) (fun h => ?_)
  · have h0 : (leftL P z).length = 0 := by
      rw [← lus]
      cases us with
      | nil => rfl
      | cons _ _ => exact absurd h (by simp)
    rw [if_pos h0] at q
    walk_at "rz"
    rename_i t8 ht8 H8 s8 e8
    exact q _ _ (s37.trans s8) (.tup (SqT.of e8) (.cons (.str _) (.cons (.str _) (.cons (.int _) .nil))))
  · have h0 : ¬ (leftL P z).length = 0 := by
      rw [← lus]
      cases us with
      | nil => exact absurd h (by simp)
      | cons _ _ => simp
    rw [if_neg h0] at q
    walk_at "rz"
    rename_i l8 hl8 H8 s8 e8
    refine s_eq0L (SqL.of ((s7.trans s8) _ _ e6)) (SqL.of e8) ?_
    walk_at "rz"
    refine ite_b (fun h => ?_) (fun h => ?_)
    · cases hf : (List.range (leftL P z).length).filter (badI (leftL P z) z) with
      | nil => rw [hy, hf] at h; exact absurd h (by simp)
      | cons k r =>
        rw [hf] at q
        rw [hy, hf] at e6
        walk_at "rz"
        refine s_ixL (SqL.of ((s7.trans s8) _ _ e6)) (at_of (j := 0) rfl rfl) ?_
        walk_at "rz"
        rename_i t9 ht9 H9 s9 e9
        exact q _ _ ((s37.trans s8).trans s9) (.tup (SqT.of e9) (.cons (.str _) (.cons (.str _) (.cons (.int _) .nil))))
    · cases hf : (List.range (leftL P z).length).filter (badI (leftL P z) z) with
      | cons k r => rw [hy, hf] at h; exact absurd h (by simp)
      | nil =>
        rw [hf] at q
        walk_at "rz"
        exact q _ _ (s37.trans s8) .non
end
set_option maxHeartbeats 4000000
open PySem PySem.Spec PyProof.Rows L2 Z
open He (ga ma)
def lnPl (l : Ln) : Bool := decide (l.kd = "edge") && l.st.all fun s => decide (s.1 = "run")
def spWPlainB (K : Fg) : Sp := fun vs H Q _ => ∃ la, ∃ P : Pl, vs = [.ref la] ∧ Dp K H (.ref la) (.tuple (P.ls.map dLn)) ∧ P.Ok ∧ ∀ H', Same H H' → Q (.bl (plainB P)) H'
section
variable {P : Program} {w : World} {K : Fg} {mg : Str → Option Value} {base : Heap}
theorem ok_w_is_plain (T : Txt K mg) : FnOk P w K mg base (L2.CX P w) 4 (ga K "_law_is_plain") (fdOf K (ga K "_law_is_plain")) ["_law_lines"] (spWPlainB K) := by
  refine FunD.ok T.F_w_is_plain sc_w_is_plain (fun vs H Q E h => ?_) (fun cdv A outer s H vs Q E hr h => ⟨_, PSs.nox (pss_cons (ps_for PassesOwn.never rfl (kIT K (pi_tup (pv 0))) (kGT K (pg_tup (n := 4) rfl (pgs_cons (zg 1 sc_w_is_plain.nd) (pgs_cons (zg 2 sc_w_is_plain.nd) (pgs_cons (zg 3 sc_w_is_plain.nd) (pgs_cons (zg 4 sc_w_is_plain.nd) pgs_nil))))))
      (pss_one (ps_if (PW.pt (pw_or (pt_cmpR op_ne (pv 2) pe_str (nomark _)) (pw_or1 (pt_cmpR (op_ne0K K hr.units) (pe_lc (own := [("_law_word", 5), ("_law_value", 6)]) rfl sc_w_is_plain.nd (kIT K (pi_tup (pv 4))) (blkOk_by (own := [("_law_word", 5), ("_law_value", 6)]) (N := n_w_is_plain) (sc := defScope s_w_is_plain) (by decide +kernel)) (fun _ _ _ _ _ => (kGT K (pg_tup (n := 2) rfl (pgs_cons (zg 5 sc_w_is_plain.nd) (pgs_cons (zg 6 sc_w_is_plain.nd) pgs_nil))))) (fun _ _ _ _ _ => (pts_one (pt_cmpR op_ne (pv 5) pe_str (nomark _)))) (fun _ _ _ _ _ => (pv 5))) (pe_lst pa_nil) (nomark _))))) (pss_one (ps_ret pe_bl)) pss_nil)))
      (pss_one (ps_ret (pe_cmpR op_eq (pe_callB cr_lenX (by rfl) T.u_len (by decide +kernel) (pa_cons (pe_callTy (cr_setCK K rfl) (by rfl) T.u_set (by decide +kernel) (pa_cons (pe_lc (own := [("_law_line", 7)]) rfl sc_w_is_plain.nd (kIT K (pi_tup (pv 0))) (blkOk_by (own := [("_law_line", 7)]) (N := n_w_is_plain) (sc := defScope s_w_is_plain) (by decide +kernel)) (fun _ _ _ _ _ => (zg 7 sc_w_is_plain.nd)) (fun _ _ _ _ _ => pts_nil) (fun _ _ _ _ _ => (pe_ix (ix_tupK K) (pv 7) pe_int (fun _ _ => rfl)))) pa_nil)) pa_nil)) (pe_callB (call_lenK K) (by rfl) T.u_len (by decide +kernel) (pa_cons (pv 0) pa_nil)) (nomark _))))), ?_⟩)
  · obtain ⟨la, P, rfl, _⟩ := h
    rfl
  obtain ⟨la, P, rfl, hda, ok, q⟩ := h
  show (_ : TS) _ (some (.ref la) :: List.replicate 7 none) H
  try dsimp only [cxOf]
  dsimp only [List.replicate]
  obtain ⟨_, xs, e, hT, hA⟩ := hda.tupI
  cases e
  have l12 := ok.l12
  have lxs : xs.length = P.ls.length := by rw [hA.len, List.length_map]
  walk_at "rz"
  refine ⟨⟨_, hT⟩, for_tup (xs := xs) (fun i σ Ha => (∃ y1 y2 y3 y4 y5 y6 y7, σ = [some (.ref la), y1, y2, y3, y4, y5, y6, y7]) ∧ Same H Ha ∧ (P.ls.take i).all lnPl = true)
    ⟨⟨_, _, _, _, _, _, _, rfl⟩, Same.refl _, rfl⟩ (fun i σ Ha _ ⟨_, fa, _⟩ => fa.sqT hT) (fun i v σ Ha hi ⟨⟨y1, y2, y3, y4, y5, y6, y7, es⟩, fa, pa⟩ => ?_) (fun σ Ha ⟨⟨y1, y2, y3, y4, y5, y6, y7, es⟩, fa, pa⟩ => ?_)⟩
  · subst es
    obtain ⟨dd, hdd, dv⟩ := hA.getv hi
    rw [List.getElem?_map] at hdd
    obtain ⟨ln, hln, rfl⟩ := Option.map_eq_some_iff.mp hdd
    have etk : P.ls.take (i + 1) = P.ls.take i ++ [ln] := by rw [List.take_add_one, hln]; rfl
    have hlm := List.mem_of_getElem? hln
    have l8 := ok.steps8 hlm
    have bad : lnPl ln = false → plainB P = false := fun h => by
      unfold plainB
      rw [show (P.ls.all fun l => decide (l.kd = ("edge" : Str)) && l.st.all fun s => decide (s.1 = ("run" : Str))) = false from by
        rw [List.all_eq_false]
        exact ⟨ln, hlm, by rw [show (decide (ln.kd = ("edge" : Str)) && ln.st.all fun s => decide (s.1 = ("run" : Str))) = false from h]; simp⟩]
      exact Bool.and_false _
    obtain ⟨tl, st, sv, rfl, htl, hst, hsv⟩ := (dv.same fa).lnI
    refine s_gtup htl rfl ?_
    walk_at "rz"
    rw [vstr_dec]
    cases he : decide (ln.kd = ("edge" : Str)) with
    | false =>
      walk_at "rz"
      have := q Ha fa
      rw [bad (by unfold lnPl; rw [he]; rfl)] at this
      exact this
    | true =>
      walk_at "rz"
      refine lcT_d (l := ln.st) (da := dSt) hst hsv (fun s => !decide (s.1 = ("run" : Str))) (fun s => .str s.1) (by omega) (fun _ _ => rfl) (fun s v H6 Yes2 No2 hs s6 dv yes2 no2 => ?_) (fun l4 H4 zs hl4 s4 e4 a4 => ?_)
      · obtain ⟨tv, rfl, htv⟩ := dv.stI
        refine s_gtup htv rfl ?_
        walk_at "rz"
        refine ⟨rfl, ?_⟩
        walk_at "rz"
        rw [vstr_dec]
        cases hr : decide (s.1 = ("run" : Str)) with
        | true =>
          walk_at "rz"
          exact no2 (by rw [hr]; rfl) _ (Same.refl _)
        | false =>
          walk_at "rz"
          exact yes2 (by rw [hr]; rfl) _ _ (Same.refl _) (.str _)
      walk_at "rz"
      rename_i l5 hl5 H5 s5 e5
      refine s_eq0L (SqL.of (s5 _ _ e4)) (SqL.of e5) ?_
      have lz : zs.length = (ln.st.filter fun s => !decide (s.1 = ("run" : Str))).length := by rw [a4.len, List.length_map]
      walk_at "rz"
      refine ite_b (fun h => ?_) (fun h => ?_)
      · have hne : ln.st.all (fun s => decide (s.1 = ("run" : Str))) = false := by
          rw [List.all_eq_false]
          cases hf : ln.st.filter fun s => !decide (s.1 = ("run" : Str)) with
          | nil =>
            rw [hf] at lz
            rw [List.eq_nil_of_length_eq_zero lz] at h
            exact absurd h (by simp)
          | cons s0 r =>
            have hm : s0 ∈ ln.st.filter fun s => !decide (s.1 = ("run" : Str)) := by rw [hf]; exact List.mem_cons_self
            obtain ⟨m1, m2⟩ := List.mem_filter.mp hm
            exact ⟨s0, m1, by simpa using m2⟩
        walk_at "rz"
        have := q H5 ((fa.trans s4).trans s5)
        rw [bad (by unfold lnPl; rw [he, hne]; rfl)] at this
        exact this
      · have hal : ln.st.all (fun s => decide (s.1 = ("run" : Str))) = true := by
          rw [List.all_eq_true]
          intro s hs
          cases hr : decide (s.1 = ("run" : Str)) with
          | true => rfl
          | false =>
            have hm : s ∈ ln.st.filter fun s => !decide (s.1 = ("run" : Str)) := List.mem_filter.mpr ⟨hs, by rw [hr]; rfl⟩
            have := List.length_pos_of_mem hm
            cases zs with
            | nil => rw [← lz] at this; exact absurd this (by simp)
            | cons _ _ => exact absurd h (by simp)
        walk_at "rz"
        refine ⟨⟨_, _, _, _, _, _, _, rfl⟩, (fa.trans s4).trans s5, ?_⟩
        rw [etk, List.all_append, pa]
        show (true && (lnPl ln && true)) = true
        unfold lnPl
        rw [he, hal]
        rfl
  · subst es
    walk_at "rz"
    have pal : (P.ls.all lnPl) = true := by rw [lxs, List.take_length] at pa; exact pa
    refine lcT_d (l := P.ls) (da := dLn) (fa.sqT hT) (hA.same fa) (fun _ => true) (fun l => .int l.rk) (by omega) (fun _ _ => rfl) (fun l v H5 Yes No hl s5 hd yes no => ?_) (fun nl H1 ns hnl s1 e1 a1 => ?_)
    · obtain ⟨tl, st, sv, rfl, htl, _, _⟩ := hd.lnI
      walk_at "rz"
      refine ⟨rfl, ?_⟩
      walk_at "rz"
      exact yes rfl _ _ (Same.refl _) (.int _)
    rw [List.filter_eq_self.mpr fun _ _ => rfl] at a1
    have er : P.ls.map (fun l => PyData.int l.rk) = (P.ls.map (·.rk)).map PyData.int := by rw [List.map_map]; rfl
    rw [er] at a1
    rw [dp_ints a1] at e1
    walk_at "rz"
    refine ⟨nl, P.ls.map (·.rk), rfl, SqL.of e1, by rw [List.length_map]; omega, fun p c hp1 hc1 hc2 => ?_⟩
    generalize eH : upd H1 p _ = H2
    have s2 := newS hp1 eH
    have e2 := newE eH
    clear eH
    have s02 := (fa.trans s1).trans s2
    have hT2 := s02.sqT hT
    rw [List.length_map] at hc1 hc2
    walk_at "rz"
    refine ⟨p, rfl, .inr ⟨_, c, e2, ?_⟩⟩
    walk_at "rz"
    refine s_lenT hT2 ?_
    rw [lxs]
    have := q _ s02
    unfold plainB at this
    rw [show (P.ls.all fun l => decide (l.kd = ("edge" : Str)) && l.st.all fun s => decide (s.1 = ("run" : Str))) = true from pal, Bool.and_true] at this
    walk_at "rz"
    have e : decide (V.int ((c : Nat) : Int) = V.int ((P.ls.length : Nat) : Int)) = decide (P.ls.map (·.rk)).Nodup := decide_eq_decide.mpr ⟨fun h => hc2.mp (by injection h; omega), fun h => by
      have := hc2.mpr h
      rw [show c = P.ls.length by omega]⟩
    rw [e]
    exact this
end
end T
set_option maxHeartbeats 4000000
namespace T
open PySem PySem.Spec PyProof.Rows L2 Z
open He (ga ma)
local macro_rules | `(tactic| walk_at "z") => `(tactic| with_reducible first | refine ⟨_, _, rfl, rfl, ?_⟩ | refine ⟨_, rfl, ?_⟩)
local macro_rules | `(tactic| walk_at "z") => `(tactic| ((with_reducible refine s_isi (d := ?d1) ?h1 ?h2 ?q1); (case h1 => first | assumption | constructor); (case h2 => decide)))
local macro_rules | `(tactic| walk_at "z") => `(tactic| with_reducible first | refine s_tup ?_ | refine s_lst ?_)
local macro_rules | `(tactic| walk_at "z") => `(tactic| ((with_reducible refine s_ne ?h1 ?q1); (case h1 => exact rfl)))
local macro_rules | `(tactic| walk_at "z") => `(tactic| ((with_reducible refine s_eq ?h1 ?q1); (case h1 => exact rfl)))
local macro_rules | `(tactic| walk_at "z") => `(tactic| with_reducible first | refine s_dcT ?_ | refine s_cvalg ?_ | refine s_fldS ?_ | refine s_I0 ?_ | refine s_U ?_)
local macro_rules | `(tactic| walk_at "z") => `(tactic| with_reducible first | refine s_make ?_ | refine s_sl ?_ | refine s_nop ?_ | refine s_part ?_ | refine s_lcE ?_ | refine s_lc ?_)
local macro_rules | `(tactic| walk_at "z") => `(tactic| with_reducible first | refine s_for ?_ | refine s_rng1 ?_ | refine s_iT ?_ | refine s_iL ?_ | refine Or.inl (Exists.intro _ (And.intro rfl ?_)) | refine Or.inr (Exists.intro _ (And.intro rfl ?_)))
local macro_rules | `(tactic| walk_at "z") => `(tactic| with_reducible first | refine s_fldaug ?_ | refine s_add ?_ | refine s_ipI ?_ | refine s_ixO ?_ | refine s_lcL ?_ | refine s_dputg ?_)
local macro_rules | `(tactic| walk_at "z") => `(tactic| with_reducible first | refine s_daugg ?_ | refine s_disp ?_ | refine s_pcons ?_ | refine s_pnil ?_ | refine s_gsub ?_ | refine s_augS ?_)
local macro_rules | `(tactic| walk_at "z") => `(tactic| with_reducible first | refine s_bm ?_ | refine s_bm0 ?_ | refine s_fldg ?_ | refine s_meth ?_ | refine s_prop ?_ | refine s_lcT ?_)
local macro_rules | `(tactic| walk_at "z") => `(tactic| with_reducible first | refine s_yes ?_ | refine s_gcons ?_ | refine s_gnil ?_ | refine s_din ?_ | refine s_dnin ?_ | refine s_dget ?_)
local macro_rules | `(tactic| walk_at "z") => `(tactic| with_reducible first | refine s_orV ?_ | refine s_notV ?_ | refine s_if ?_ | refine s_chain ?_ | refine s_call ?_ | refine s_bl ?_)
local macro_rules | `(tactic| walk_at "z") => `(tactic| with_reducible first | refine s_test ?_ | refine s_B ?_ | refine s_and ?_ | refine s_or ?_ | refine s_not ?_ | refine s_andV ?_)
local macro_rules | `(tactic| walk_at "z") => `(tactic| with_reducible first | refine s_op ?_ | refine s_un ?_ | refine s_cb ?_ | refine s_cons ?_ | refine s_nil ?_ | refine s_star ?_)
local macro_rules | `(tactic| walk_at "z") => `(tactic| ((with_reducible refine s_var (v := ?v1) ?h1 ?q1); (case h1 => exact rfl)))
local macro_rules | `(tactic| walk_at "z") => `(tactic| with_reducible refine s_c ?_)
local macro_rules | `(tactic| walk_at "z") => `(tactic| with_reducible first | refine s_drop ?_ | refine s_next ?_ | refine s_cont ?_ | refine s_break ?_ | refine s_par ?_ | refine s_par2 ?_)
local macro_rules | `(tactic| walk_at "z") => `(tactic| with_reducible first | refine s_seq ?_ | refine s_asg ?_ | refine s_gname ?_ | refine s_ret ?_ | refine s_retN ?_ | refine s_ifS ?_)
local macro_rules | `(tactic| walk_at "zi") => `(tactic| ((with_reducible refine ite_t ?h1 ?q1); (case h1 => rfl)))
local macro_rules | `(tactic| walk_at "zi") => `(tactic| ((with_reducible refine ite_f ?h1 ?q1); (case h1 => rfl)))
local macro_rules | `(tactic| walk_at "zi") => `(tactic| walk_at "z")
local macro_rules | `(tactic| walk_at "zn") => `(tactic| (intro p hp; generalize eH : upd _ p _ = H2; have s2 := newS hp eH; have e2 := newE eH; clear eH))
local macro_rules | `(tactic| walk_at "zt") => `(tactic| ((with_reducible refine And.intro ?h1 ?_); (case h1 => exact Nat.le_of_ble_eq_true rfl); intro p hp; generalize eH : upd _ p _ = H2; have s2 := newS hp eH; have e2 := newE eH; clear eH))
local macro_rules | `(tactic| walk_at "hl") => `(tactic| ((with_reducible apply ev_same); (· assumption); · walk_at "hl"))
local macro_rules | `(tactic| walk_at "hl") => `(tactic| ((with_reducible apply mst_same); (· assumption); · walk_at "hl"))
local macro_rules | `(tactic| walk_at "hl") => `(tactic| ((with_reducible apply plm_same); (· assumption); · walk_at "hl"))
local macro_rules | `(tactic| walk_at "hl") => `(tactic| ((with_reducible apply md_same); (· assumption); · walk_at "hl"))
local macro_rules | `(tactic| walk_at "hl") => `(tactic| ((with_reducible apply row_same); (· assumption); · walk_at "hl"))
local macro_rules | `(tactic| walk_at "hl") => `(tactic| ((with_reducible apply sg_same); (· assumption); · walk_at "hl"))
local macro_rules | `(tactic| walk_at "hl") => `(tactic| ((with_reducible apply cst_same); (· assumption); · walk_at "hl"))
local macro_rules | `(tactic| walk_at "hl") => `(tactic| ((with_reducible apply co_same); (· assumption); · walk_at "hl"))
local macro_rules | `(tactic| walk_at "hl") => `(tactic| ((with_reducible apply bd_same); (· assumption); · walk_at "hl"))
local macro_rules | `(tactic| walk_at "hl") => `(tactic| ((with_reducible apply pl_same); (· assumption); · walk_at "hl"))
local macro_rules | `(tactic| walk_at "hl") => `(tactic| ((with_reducible apply dpA_same); (· assumption); · walk_at "hl"))
local macro_rules | `(tactic| walk_at "hl") => `(tactic| ((with_reducible apply dp_same); (· assumption); · walk_at "hl"))
local macro_rules | `(tactic| walk_at "hl") => `(tactic| ((with_reducible apply SqL.of); · walk_at "hl"))
local macro_rules | `(tactic| walk_at "hl") => `(tactic| ((with_reducible apply SqT.of); · walk_at "hl"))
local macro_rules | `(tactic| walk_at "hl") => `(tactic| ((with_reducible apply sqL_same); (· assumption); · walk_at "hl"))
local macro_rules | `(tactic| walk_at "hl") => `(tactic| ((with_reducible apply sqT_same); (· assumption); · walk_at "hl"))
local macro_rules | `(tactic| walk_at "hl") => `(tactic| ((with_reducible apply at_same); (· assumption); · walk_at "hl"))
local macro_rules | `(tactic| walk_at "hl") => `(tactic| assumption)
local macro_rules | `(tactic| walk_at "lk") => `(tactic| with_reducible first | exact bdF_jo | exact sgF_plan | exact sgF_board | exact sgF_core | exact sgF_time | exact sgF_sums | exact coF_plan | exact coF_fr | exact coF_lim | exact coF_jo)
local macro_rules | `(tactic| walk_at "lk") => `(tactic| with_reducible first | exact plF_lr | exact plF_wr | exact plF_rn | exact plF_wn | exact bdF_plan | exact bdF_sh | exact bdF_wa | exact bdF_hi | exact bdF_ta | exact bdF_ra)
local macro_rules | `(tactic| walk_at "mk") => `(tactic| with_reducible first | exact mk_jn | exact mk_ln | exact mk_wk)
local macro_rules | `(tactic| walk_at "mk") => `(tactic| with_reducible first | exact mk_ca | exact mk_ed | exact mk_hi | exact mk_up | exact mk_sh | exact mk_bar | exact mk_jo | exact mk_now | exact mk_lg | exact mk_sp)
local macro_rules | `(tactic| walk_at "cl") => `(tactic| with_reducible first | exact Txt.cl_InvalidSetup (by assumption) | exact Txt.cl_UnknownLine (by assumption) | exact Txt.cl_Setup (by assumption))
local macro_rules | `(tactic| walk_at "na") => `(tactic| with_reducible first | exact Txt.n_InvalidSetup_part (by assumption) | exact Txt.n_InvalidSetup_index (by assumption) | exact Txt.n_UnknownLine_line (by assumption) | exact Txt.n_Setup_line_rows (by assumption) | exact Txt.n_Setup_work_rows (by assumption) | exact Txt.n_Setup_rows_by_name (by assumption) | exact Txt.n_Setup_works_by_name (by assumption))
local macro_rules | `(tactic| walk_at "zz") => `(tactic| walk_at "zt")
local macro_rules | `(tactic| walk_at "zz") => `(tactic| ((with_reducible apply s_dgS); (· walk_at "hl"); (· walk_at "mk")))
local macro_rules | `(tactic| walk_at "zz") => `(tactic| ((with_reducible apply s_ixL); (· walk_at "hl"); (· with_reducible first | exact at0 | exact at1 | exact at2 | exact at3 | exact at4)))
local macro_rules | `(tactic| walk_at "zz") => `(tactic| ((with_reducible apply s_ixT); (· walk_at "hl"); (· with_reducible first | exact at0 | exact at1 | exact at2 | exact at3 | exact at4)))
local macro_rules | `(tactic| walk_at "zz") => `(tactic| ((with_reducible apply s_propat); (· walk_at "hl")))
local macro_rules | `(tactic| walk_at "zz") => `(tactic| ((with_reducible apply s_methat); (· walk_at "hl"); (· kernel_rfl)))
local macro_rules | `(tactic| walk_at "zz") => `(tactic| ((with_reducible apply s_fldat); (· walk_at "hl"); (· walk_at "cl"); (· walk_at "na"); (· walk_at "lk")))
local macro_rules | `(tactic| walk_at "zz") => `(tactic| walk_at "zi")
local macro_rules | `(tactic| walk_at "orz") => `(tactic| walk_at "zt")
local macro_rules | `(tactic| walk_at "orz") => `(tactic| ((with_reducible apply s_dgS); (· walk_at "hl"); (· walk_at "mk")))
local macro_rules | `(tactic| walk_at "orz") => `(tactic| ((with_reducible apply s_ixL); (· walk_at "hl"); (· with_reducible first | exact at0 | exact at1 | exact at2 | exact at3 | exact at4)))
local macro_rules | `(tactic| walk_at "orz") => `(tactic| ((with_reducible apply s_ixT); (· walk_at "hl"); (· with_reducible first | exact at0 | exact at1 | exact at2 | exact at3 | exact at4)))
local macro_rules | `(tactic| walk_at "orz") => `(tactic| ((with_reducible apply s_propat); (· walk_at "hl")))
local macro_rules | `(tactic| walk_at "orz") => `(tactic| ((with_reducible apply s_methat); (· walk_at "hl"); (· kernel_rfl)))
local macro_rules | `(tactic| walk_at "orz") => `(tactic| ((with_reducible apply s_fldat); (· walk_at "hl"); (· walk_at "cl"); (· walk_at "na"); (· walk_at "lk")))
local macro_rules | `(tactic| walk_at "orz") => `(tactic| ((with_reducible apply ite_t); (· rfl)))
local macro_rules | `(tactic| walk_at "orz") => `(tactic| ((with_reducible apply ite_f); (· rfl)))
local macro_rules | `(tactic| walk_at "orz") => `(tactic| with_reducible first | refine ⟨_, _, rfl, rfl, ?_⟩ | refine ⟨_, rfl, ?_⟩)
local macro_rules | `(tactic| walk_at "orz") => `(tactic| ((with_reducible apply s_isi); (· assumption); (· decide)))
local macro_rules | `(tactic| walk_at "orz") => `(tactic| with_reducible first | refine s_tup ?_ | refine s_lst ?_)
local macro_rules | `(tactic| walk_at "orz") => `(tactic| ((with_reducible apply s_ne); (· exact rfl)))
local macro_rules | `(tactic| walk_at "orz") => `(tactic| ((with_reducible apply s_eq); (· exact rfl)))
local macro_rules | `(tactic| walk_at "orz") => `(tactic| with_reducible first | refine s_lcE ?_ | refine s_lc ?_ | refine s_dcT ?_ | refine s_cvalg ?_ | refine s_I0 ?_ | refine s_U ?_)
local macro_rules | `(tactic| walk_at "orz") => `(tactic| with_reducible first | refine Or.inl (Exists.intro _ (And.intro rfl ?_)) | refine Or.inr (Exists.intro _ (And.intro rfl ?_)) | refine s_make ?_ | refine s_sl ?_ | refine s_nop ?_ | refine s_part ?_)
local macro_rules | `(tactic| walk_at "orz") => `(tactic| with_reducible first | refine s_lcL ?_ | refine s_dputg ?_ | refine s_for ?_ | refine s_rng1 ?_ | refine s_iT ?_ | refine s_iL ?_)
local macro_rules | `(tactic| walk_at "orz") => `(tactic| with_reducible first | refine s_daugg ?_ | refine s_disp ?_ | refine s_gsub ?_ | refine s_fldaug ?_ | refine s_ipI ?_ | refine s_ixO ?_)
local macro_rules | `(tactic| walk_at "orz") => `(tactic| with_reducible first | refine s_chain ?_ | refine s_yes ?_ | refine s_din ?_ | refine s_dnin ?_ | refine s_bm0 ?_ | refine s_lcT ?_)
local macro_rules | `(tactic| walk_at "orz") => `(tactic| with_reducible first | refine s_un ?_ | refine s_star ?_ | refine s_and ?_ | refine s_or ?_ | refine s_orV ?_ | refine s_notV ?_)
local macro_rules | `(tactic| walk_at "orz") => `(tactic| with_reducible first | refine s_augS ?_ | refine s_retN ?_ | refine s_cont ?_ | refine s_break ?_ | refine s_par ?_ | refine s_par2 ?_)
local macro_rules | `(tactic| walk_at "orz") => `(tactic| with_reducible first | refine s_andV ?_ | refine s_add ?_ | refine s_prop ?_ | refine s_pnil ?_ | refine s_cb ?_ | refine s_not ?_)
local macro_rules | `(tactic| walk_at "orz") => `(tactic| with_reducible first | refine s_call ?_ | refine s_pcons ?_ | refine s_bm ?_ | refine s_if ?_ | refine s_gcons ?_ | refine s_gnil ?_)
local macro_rules | `(tactic| walk_at "orz") => `(tactic| with_reducible first | refine s_next ?_ | refine s_gname ?_ | refine s_drop ?_ | refine s_meth ?_ | refine s_fldS ?_ | refine s_asg ?_)
local macro_rules | `(tactic| walk_at "orz") => `(tactic| with_reducible first | refine s_fldg ?_ | refine s_ifS ?_ | refine s_dget ?_ | refine s_ret ?_ | refine s_B ?_ | refine s_test ?_)
local macro_rules | `(tactic| walk_at "orz") => `(tactic| with_reducible first | refine s_cons ?_ | refine s_c ?_ | refine s_nil ?_ | refine s_seq ?_ | refine s_op ?_ | refine s_bl ?_)
local macro_rules | `(tactic| walk_at "orz") => `(tactic| ((with_reducible apply s_var); (· exact rfl)))
local macro_rules | `(tactic| walk_at "rz") => `(tactic| repeat walk_at "orz")
local macro_rules | `(tactic| walk_at "zm") => `(tactic| (intro x dx hx hdx hne; generalize eH : upd (upd _ dx _) x _ = H2; have s2 := mkS hx hdx eH; have e2 := mkE eH; clear eH hdx hne))
local macro_rules | `(tactic| walk_at "zb") => `(tactic| with_reducible first | refine s_gcons ?_ | refine s_gnil ?_ | refine s_gname ?_ | refine s_seq ?_ | refine s_ifS ?_ | refine s_if ?_ | refine s_next ?_ | refine s_drop ?_ | refine s_ret ?_ | refine s_asg ?_)
def shal : Nat → PyData → Bool
  | 0, _ => false
  | n + 1, .list xs => decide (xs.length ≤ 40000) && xs.all (shal n)
  | n + 1, .tuple xs => decide (xs.length ≤ 40000) && xs.all (shal n)
  | _ + 1, .dict _ => false
  | _ + 1, d => SeqAt.shaped d
def spAlike (K : Fg) : Nat → Sp
  | 0 => fun _ _ _ _ => False
  | n + 1 => fun vs H Q _ => ∃ a b d, vs = [a, b] ∧ Dp K H a d ∧ Dp K H b d ∧ shal (n + 1) d = true ∧ ∀ H', Same H H' → Q (.bl true) H'
section
variable {P : Program} {w : World} {K : Fg} {mg : Str → Option Value} {base : Heap}
theorem okA (T : Txt K mg) : ∀ n, FnOk P w K mg base (L2.CX P w) (3 * n + 1) (ga K "_law_alike") (fdOf K (ga K "_law_alike")) ["_law_one", "_law_due"] (spAlike K n)
  | 0 => ⟨fun _ _ _ _ h => h.elim, fun _ _ _ _ _ _ _ _ _ _ _ _ _ h => h.elim⟩
  | n + 1 => by
    have ok_w_alike := fun (_ : Txt K mg) => okA T n
    refine FunD.ok T.F_w_alike sc_w_alike (fun vs H Q E h => ?_) (fun cdv A outer s H vs Q E hr h => ⟨_, PSs.nox (pss_cons (ps_if (PW.pt (pw_and (pt_val (pe_callB (call_isiDTK K) (by rfl) T.u_isinstance (by decide +kernel) (pa_cons (pv 0) (pa_cons (pe_tup (pa_cons (z_ty (n := "tuple") T.u_tuple) (pa_cons (z_ty (n := "list") T.u_list) pa_nil))) pa_nil)))) (pw_and1 (pt_val (pe_callB (call_isiDTK K) (by rfl) T.u_isinstance (by decide +kernel) (pa_cons (pv 1) (pa_cons (pe_tup (pa_cons (z_ty (n := "tuple") T.u_tuple) (pa_cons (z_ty (n := "list") T.u_list) pa_nil))) pa_nil))))))) (pss_cons (ps_if (PW.pt (pw_or (pt_cmpR op_ne (pe_callB (call_isiDK K) (by rfl) T.u_isinstance (by decide +kernel) (pa_cons (pv 0) (pa_cons (z_ty (n := "tuple") T.u_tuple) pa_nil))) (pe_callB (call_isiDK K) (by rfl) T.u_isinstance (by decide +kernel) (pa_cons (pv 1) (pa_cons (z_ty (n := "tuple") T.u_tuple) pa_nil))) (nomark _)) (pw_or1 (pt_cmpR op_ne (pe_callB (call_lenK K) (by rfl) T.u_len (by decide +kernel) (pa_cons (pv 0) pa_nil)) (pe_callB (call_lenK K) (by rfl) T.u_len (by decide +kernel) (pa_cons (pv 1) pa_nil)) (nomark _))))) (pss_one (ps_ret pe_bl)) pss_nil)
      (pss_one (ps_ret (pe_cmpR (op_eq0K K hr.units) (pe_lc (own := [("_law_k", 2)]) rfl sc_w_alike.nd (pi_range1 rfl T.u_range (pa_cons (pe_callB (call_lenK K) (by rfl) T.u_len (by decide +kernel) (pa_cons (pv 0) pa_nil)) pa_nil)) (blkOk_by (own := [("_law_k", 2)]) (N := n_w_alike) (sc := defScope s_w_alike) (by decide +kernel)) (fun _ _ _ _ _ => (zg 2 sc_w_alike.nd)) (fun _ _ _ _ _ => (pts_one (pt_not (pt_val (z_call (ok_w_alike T) T.c_w_alike (hr.mono (by omega)) rfl T.g_w_alike passL (pa_cons (pe_ix (ix_anyK K) (pv 0) (pv 2) (fun _ _ => rfl)) (pa_cons (pe_ix (ix_anyK K) (pv 1) (pv 2) (fun _ _ => rfl)) pa_nil))))))) (fun _ _ _ _ _ => (pv 2))) (pe_lst pa_nil) (nomark _))))) pss_nil)
      (pss_one (ps_ret (pe_and (pe_cmpR (op_eqDK K hr.units) (pv 0) (pv 1) (nomark _)) (pe_one (pe_cmpR op_eq (pe_callB (call_isiDK K) (by rfl) T.u_isinstance (by decide +kernel) (pa_cons (pv 0) (pa_cons (z_ty (n := "bool") T.u_bool) pa_nil))) (pe_callB (call_isiDK K) (by rfl) T.u_isinstance (by decide +kernel) (pa_cons (pv 1) (pa_cons (z_ty (n := "bool") T.u_bool) pa_nil))) (nomark _))))))), ?_⟩)
    · obtain ⟨a, b, d, rfl, _⟩ := h
      rfl
    obtain ⟨a, b, d, rfl, ha, hb, hs, q⟩ := h
    show (_ : TS) _ [some a, some b, none] H
    try dsimp only [cxOf]
    walk_at "rz"
    rename_i p1 hp1 H1 s1 e1
    refine ⟨a, p1, d, rfl, e1, ha.same s1, ?_⟩
    cases e : isSeqD d with
    | false =>
      walk_at "rz"
      have hsh : SeqAt.shaped d = true := by cases d <;> first | rfl | (simp [isSeqD] at e; done) | (simp [shal] at hs; done) | exact hs
      have heq : PyData.eqv d d = true := by cases d <;> first | rfl | (simp [isSeqD] at e; done) | (simp [shal] at hs; done) | (simp [PyData.eqv]; done)
      refine ⟨d, d, ha.same s1, hb.same s1, hsh, hsh, ?_⟩
      rw [heq]
      walk_at "rz"
      refine ⟨a, "bool", d, rfl, ha.same s1, by simp, ?_⟩
      walk_at "rz"
      refine ⟨b, "bool", d, rfl, hb.same s1, by simp, ?_⟩
      refine s_eq (by cases isiB "bool" d <;> rfl) ?_
      rw [decide_eq_true rfl]
      exact q _ s1
    | true =>
      walk_at "rz"
      rename_i p2 hp2 H2 s2 e2
      have ha2 := (ha.same s1).same s2
      have hb2 := (hb.same s1).same s2
      have s12 := s1.trans s2
      refine ⟨b, p2, d, rfl, e2, hb2, ?_⟩
      rw [e]
      walk_at "rz"
      refine ite_f (by simp) ?_
      walk_at "rz"
      obtain ⟨pa, pb, xs, ys, ds, rfl, rfl, hpa, hpb, hxs, hys, hl4, hall⟩ : ∃ pa pb xs ys ds, a = .ref pa ∧ b = .ref pb ∧ (SqL K H2 pa xs ∨ SqT K H2 pa xs) ∧ (SqL K H2 pb ys ∨ SqT K H2 pb ys) ∧ DpAll K H2 xs ds ∧ DpAll K H2 ys ds ∧ ds.length ≤ 40000 ∧ ds.all (shal n) = true := by
        cases d with
        | list ds =>
          obtain ⟨pa, xs, e1, h1, h2⟩ := ha2.lstI
          obtain ⟨pb, ys, e3, h3, h4⟩ := hb2.lstI
          simp only [shal, Bool.and_eq_true, decide_eq_true_eq] at hs
          exact ⟨pa, pb, xs, ys, ds, e1, e3, .inl h1, .inl h3, h2, h4, hs.1, hs.2⟩
        | tuple ds =>
          obtain ⟨pa, xs, e1, h1, h2⟩ := ha2.tupI
          obtain ⟨pb, ys, e3, h3, h4⟩ := hb2.tupI
          simp only [shal, Bool.and_eq_true, decide_eq_true_eq] at hs
          exact ⟨pa, pb, xs, ys, ds, e1, e3, .inr h1, .inr h3, h2, h4, hs.1, hs.2⟩
        | _ => simp [isSeqD] at e
      have lx : xs.length = ds.length := hxs.len
      have ly : ys.length = ds.length := hys.len
      have lenA : ∀ {R : Nat → Prop}, R ds.length → ∃ x n, ([V.ref pa] : List V) = [x] ∧ LenV K x H2 n ∧ R n := fun {R} r => by
        rcases hpa with h | h
        · exact s_lenL h (by rw [lx]; exact r)
        · exact s_lenT h (by rw [lx]; exact r)
      have lenB : ∀ {R : Nat → Prop}, R ds.length → ∃ x n, ([V.ref pb] : List V) = [x] ∧ LenV K x H2 n ∧ R n := fun {R} r => by
        rcases hpb with h | h
        · exact s_lenL h (by rw [ly]; exact r)
        · exact s_lenT h (by rw [ly]; exact r)
      refine lenA ?_
      walk_at "rz"
      refine lenB ?_
      walk_at "rz"
      refine ite_f (by simp) ?_
      walk_at "rz"
      refine lenA ?_
      walk_at "rz"
      refine ⟨by omega, by omega, ?_⟩
      rw [Int.toNat_natCast]
      refine lcR_d (K := K) (fun _ => false) (fun k => .int k) hl4 (fun _ _ => rfl) (fun k H3 Yes No hk s3 yes no => ?_) (fun r3 H3 rs hr3 s3 e3 a3 => ?_)
      · obtain ⟨va, hva, hda⟩ := (hxs.same s3).get (i := k) (x := ds[k]) (List.getElem?_eq_getElem hk)
        obtain ⟨vb, hvb, hdb⟩ := (hys.same s3).get (i := k) (x := ds[k]) (List.getElem?_eq_getElem hk)
        walk_at "rz"
        refine ⟨rfl, ?_⟩
        walk_at "rz"
        refine ⟨pa, xs, k, va, rfl, rfl, hpa.imp (fun h => sqL_same s3 h) (fun h => s3.sqT h), atI_nat hva, ?_⟩
        walk_at "rz"
        refine ⟨pb, ys, k, vb, rfl, rfl, hpb.imp (fun h => sqL_same s3 h) (fun h => s3.sqT h), atI_nat hvb, ?_⟩
        walk_at "rz"
        have hsn : shal n ds[k] = true := List.all_eq_true.mp hall _ (List.getElem_mem hk)
        cases n with
        | zero => simp [shal] at hsn
        | succ m =>
          refine ⟨va, vb, ds[k], rfl, hda, hdb, hsn, fun H4 s4 => ?_⟩
          walk_at "rz"
          exact no rfl _ s4
      rw [List.filter_eq_nil_iff.mpr (by simp)] at a3
      cases a3
      walk_at "rz"
      rename_i p4 hp4 H4 s4 e4
      refine s_eq0L (SqL.of (s4 _ _ e3)) (SqL.of e4) ?_
      exact q _ (s12.trans (s3.trans s4))
end
end T
set_option maxHeartbeats 4000000
namespace T
open PySem PySem.Spec PyProof.Rows L2 Z
open He (ga ma)
open LamX (TabS CodeO)
local macro_rules | `(tactic| walk_at "z") => `(tactic| with_reducible first | refine ⟨_, _, rfl, rfl, ?_⟩ | refine ⟨_, rfl, ?_⟩)
local macro_rules | `(tactic| walk_at "z") => `(tactic| ((with_reducible refine s_isi (d := ?d1) ?h1 ?h2 ?q1); (case h1 => first | assumption | constructor); (case h2 => decide)))
local macro_rules | `(tactic| walk_at "z") => `(tactic| with_reducible first | refine s_tup ?_ | refine s_lst ?_)
local macro_rules | `(tactic| walk_at "z") => `(tactic| ((with_reducible refine s_ne ?h1 ?q1); (case h1 => exact rfl)))
local macro_rules | `(tactic| walk_at "z") => `(tactic| ((with_reducible refine s_eq ?h1 ?q1); (case h1 => exact rfl)))
local macro_rules | `(tactic| walk_at "z") => `(tactic| with_reducible first | refine s_dcT ?_ | refine s_cvalg ?_ | refine s_fldS ?_ | refine s_I0 ?_ | refine s_U ?_)
local macro_rules | `(tactic| walk_at "z") => `(tactic| with_reducible first | refine s_make ?_ | refine s_sl ?_ | refine s_nop ?_ | refine s_part ?_ | refine s_lcE ?_ | refine s_lc ?_)
local macro_rules | `(tactic| walk_at "z") => `(tactic| with_reducible first | refine s_for ?_ | refine s_rng1 ?_ | refine s_iT ?_ | refine s_iL ?_ | refine Or.inl (Exists.intro _ (And.intro rfl ?_)) | refine Or.inr (Exists.intro _ (And.intro rfl ?_)))
local macro_rules | `(tactic| walk_at "z") => `(tactic| with_reducible first | refine s_tupRg ?_ | refine s_lstRg ?_ | refine s_rg1 ?_ | refine s_items ?_ | refine s_get2 ?_ | refine s_callI ?_)
local macro_rules | `(tactic| walk_at "z") => `(tactic| with_reducible first | refine s_fldaug ?_ | refine s_add ?_ | refine s_ipI ?_ | refine s_ixO ?_ | refine s_lcL ?_ | refine s_dputg ?_)
local macro_rules | `(tactic| walk_at "z") => `(tactic| with_reducible first | refine s_daugg ?_ | refine s_disp ?_ | refine s_pcons ?_ | refine s_pnil ?_ | refine s_gsub ?_ | refine s_augS ?_)
local macro_rules | `(tactic| walk_at "z") => `(tactic| with_reducible first | refine s_bm ?_ | refine s_bm0 ?_ | refine s_fldg ?_ | refine s_meth ?_ | refine s_prop ?_ | refine s_lcT ?_)
local macro_rules | `(tactic| walk_at "z") => `(tactic| with_reducible first | refine s_yes ?_ | refine s_gcons ?_ | refine s_gnil ?_ | refine s_din ?_ | refine s_dnin ?_ | refine s_dget ?_)
local macro_rules | `(tactic| walk_at "z") => `(tactic| with_reducible first | refine s_orV ?_ | refine s_notV ?_ | refine s_if ?_ | refine s_chain ?_ | refine s_call ?_ | refine s_bl ?_)
local macro_rules | `(tactic| walk_at "z") => `(tactic| with_reducible first | refine s_test ?_ | refine s_B ?_ | refine s_and ?_ | refine s_or ?_ | refine s_not ?_ | refine s_andV ?_)
local macro_rules | `(tactic| walk_at "z") => `(tactic| with_reducible first | refine s_op ?_ | refine s_un ?_ | refine s_cb ?_ | refine s_cons ?_ | refine s_nil ?_ | refine s_star ?_)
local macro_rules | `(tactic| walk_at "z") => `(tactic| ((with_reducible refine s_var (v := ?v1) ?h1 ?q1); (case h1 => exact rfl)))
local macro_rules | `(tactic| walk_at "z") => `(tactic| with_reducible refine s_c ?_)
local macro_rules | `(tactic| walk_at "z") => `(tactic| with_reducible first | refine s_drop ?_ | refine s_next ?_ | refine s_cont ?_ | refine s_break ?_ | refine s_par ?_ | refine s_par2 ?_)
local macro_rules | `(tactic| walk_at "z") => `(tactic| with_reducible first | refine s_seq ?_ | refine s_asg ?_ | refine s_gname ?_ | refine s_ret ?_ | refine s_retN ?_ | refine s_ifS ?_)
local macro_rules | `(tactic| walk_at "zi") => `(tactic| ((with_reducible refine ite_t ?h1 ?q1); (case h1 => rfl)))
local macro_rules | `(tactic| walk_at "zi") => `(tactic| ((with_reducible refine ite_f ?h1 ?q1); (case h1 => rfl)))
local macro_rules | `(tactic| walk_at "zi") => `(tactic| walk_at "z")
local macro_rules | `(tactic| walk_at "zn") => `(tactic| (intro p hp; generalize eH : upd _ p _ = H2; have s2 := newS hp eH; have e2 := newE eH; clear eH))
local macro_rules | `(tactic| walk_at "zt") => `(tactic| ((with_reducible refine And.intro ?h1 ?_); (case h1 => exact Nat.le_of_ble_eq_true rfl); intro p hp; generalize eH : upd _ p _ = H2; have s2 := newS hp eH; have e2 := newE eH; clear eH))
local macro_rules | `(tactic| walk_at "hl") => `(tactic| ((with_reducible apply ev_same); (· assumption); · walk_at "hl"))
local macro_rules | `(tactic| walk_at "hl") => `(tactic| ((with_reducible apply mh_same); (· assumption); · walk_at "hl"))
local macro_rules | `(tactic| walk_at "hl") => `(tactic| ((with_reducible apply hs_same); (· assumption); · walk_at "hl"))
local macro_rules | `(tactic| walk_at "hl") => `(tactic| ((with_reducible apply mst_same); (· assumption); · walk_at "hl"))
local macro_rules | `(tactic| walk_at "hl") => `(tactic| ((with_reducible apply plm_same); (· assumption); · walk_at "hl"))
local macro_rules | `(tactic| walk_at "hl") => `(tactic| ((with_reducible apply md_same); (· assumption); · walk_at "hl"))
local macro_rules | `(tactic| walk_at "hl") => `(tactic| ((with_reducible apply row_same); (· assumption); · walk_at "hl"))
local macro_rules | `(tactic| walk_at "hl") => `(tactic| ((with_reducible apply sg_same); (· assumption); · walk_at "hl"))
local macro_rules | `(tactic| walk_at "hl") => `(tactic| ((with_reducible apply cst_same); (· assumption); · walk_at "hl"))
local macro_rules | `(tactic| walk_at "hl") => `(tactic| ((with_reducible apply co_same); (· assumption); · walk_at "hl"))
local macro_rules | `(tactic| walk_at "hl") => `(tactic| ((with_reducible apply bd_same); (· assumption); · walk_at "hl"))
local macro_rules | `(tactic| walk_at "hl") => `(tactic| ((with_reducible apply pl_same); (· assumption); · walk_at "hl"))
local macro_rules | `(tactic| walk_at "hl") => `(tactic| ((with_reducible apply dpA_same); (· assumption); · walk_at "hl"))
local macro_rules | `(tactic| walk_at "hl") => `(tactic| ((with_reducible apply dp_same); (· assumption); · walk_at "hl"))
local macro_rules | `(tactic| walk_at "hl") => `(tactic| ((with_reducible apply SqL.of); · walk_at "hl"))
local macro_rules | `(tactic| walk_at "hl") => `(tactic| ((with_reducible apply SqT.of); · walk_at "hl"))
local macro_rules | `(tactic| walk_at "hl") => `(tactic| ((with_reducible apply sqL_same); (· assumption); · walk_at "hl"))
local macro_rules | `(tactic| walk_at "hl") => `(tactic| ((with_reducible apply sqT_same); (· assumption); · walk_at "hl"))
local macro_rules | `(tactic| walk_at "hl") => `(tactic| ((with_reducible apply at_same); (· assumption); · walk_at "hl"))
local macro_rules | `(tactic| walk_at "hl") => `(tactic| assumption)
local macro_rules | `(tactic| walk_at "lk") => `(tactic| with_reducible first | exact coF_fr | exact coF_lim | exact coF_jo)
local macro_rules | `(tactic| walk_at "lk") => `(tactic| with_reducible first | exact bdF_hi | exact bdF_ta | exact bdF_ra | exact bdF_jo | exact sgF_plan | exact sgF_board | exact sgF_core | exact sgF_time | exact sgF_sums | exact coF_plan)
local macro_rules | `(tactic| walk_at "lk") => `(tactic| with_reducible first | exact hsF_mo | exact hsF_tu | exact hsF_rc | exact hsF_ho | exact hsF_bs | exact hsF_ds | exact hsF_ev | exact bdF_plan | exact bdF_sh | exact bdF_wa)
local macro_rules | `(tactic| walk_at "lk") => `(tactic| with_reducible first | exact bdF_re | exact bdF_wt | exact hsF_plan | exact hsF_size | exact hsF_rr | exact hsF_sr | exact hsF_wy | exact hsF_li | exact hsF_bd | exact hsF_co)
local macro_rules | `(tactic| walk_at "lk") => `(tactic| with_reducible first | exact wvF_plan | exact wvF_size | exact plF_lr | exact plF_wr | exact plF_rn | exact plF_wn | exact bdF_tm | exact bdF_hr | exact bdF_sp | exact bdF_ru)
local macro_rules | `(tactic| walk_at "mk") => `(tactic| with_reducible first | exact mk_bar | exact mk_jo | exact mk_now | exact mk_lg | exact mk_sp | exact mk_jn | exact mk_ln | exact mk_wk)
local macro_rules | `(tactic| walk_at "mk") => `(tactic| with_reducible first | exact mh_times | exact mh_done | exact mc_ca | exact mc_bar | exact mc_jo | exact mk_ca | exact mk_ed | exact mk_hi | exact mk_up | exact mk_sh)
local macro_rules | `(tactic| walk_at "mk") => `(tactic| with_reducible first | exact mh_fates | exact mh_lines | exact mh_works | exact mh_routes | exact mh_storms | exact mh_spots | exact mh_turns | exact mh_holds | exact mh_last | exact mh_begun)
local macro_rules | `(tactic| walk_at "mk") => `(tactic| with_reducible first | exact mh_modes | exact mh_cores | exact mh_now | exact mh_order | exact mh_shut | exact mh_wanted | exact mh_high | exact mh_flags | exact mh_log | exact mh_rings)
local macro_rules | `(tactic| walk_at "cl") => `(tactic| with_reducible first | exact Txt.cl_InvalidSetup (by assumption) | exact Txt.cl_UnknownLine (by assumption) | exact Txt.cl_Setup (by assumption))
local macro_rules | `(tactic| walk_at "na") => `(tactic| with_reducible first | exact Txt.n_InvalidSetup_part (by assumption) | exact Txt.n_InvalidSetup_index (by assumption) | exact Txt.n_UnknownLine_line (by assumption) | exact Txt.n_Setup_line_rows (by assumption) | exact Txt.n_Setup_work_rows (by assumption) | exact Txt.n_Setup_rows_by_name (by assumption) | exact Txt.n_Setup_works_by_name (by assumption))
local macro_rules | `(tactic| walk_at "zz") => `(tactic| walk_at "zt")
local macro_rules | `(tactic| walk_at "zz") => `(tactic| ((with_reducible apply s_dgS); (· walk_at "hl"); (· walk_at "mk")))
local macro_rules | `(tactic| walk_at "zz") => `(tactic| ((with_reducible apply s_ixL); (· walk_at "hl"); (· with_reducible first | exact at0 | exact at1 | exact at2 | exact at3 | exact at4)))
local macro_rules | `(tactic| walk_at "zz") => `(tactic| ((with_reducible apply s_ixT); (· walk_at "hl"); (· with_reducible first | exact at0 | exact at1 | exact at2 | exact at3 | exact at4)))
local macro_rules | `(tactic| walk_at "zz") => `(tactic| ((with_reducible apply s_propat); (· walk_at "hl")))
local macro_rules | `(tactic| walk_at "zz") => `(tactic| ((with_reducible apply s_methat); (· walk_at "hl"); (· kernel_rfl)))
local macro_rules | `(tactic| walk_at "zz") => `(tactic| ((with_reducible apply s_fldat); (· walk_at "hl"); (· walk_at "cl"); (· walk_at "na"); (· walk_at "lk")))
local macro_rules | `(tactic| walk_at "zz") => `(tactic| walk_at "zi")
local macro_rules | `(tactic| walk_at "orz") => `(tactic| walk_at "zt")
local macro_rules | `(tactic| walk_at "orz") => `(tactic| ((with_reducible apply s_dgS); (· walk_at "hl"); (· walk_at "mk")))
local macro_rules | `(tactic| walk_at "orz") => `(tactic| ((with_reducible apply s_ixL); (· walk_at "hl"); (· with_reducible first | exact at0 | exact at1 | exact at2 | exact at3 | exact at4)))
local macro_rules | `(tactic| walk_at "orz") => `(tactic| ((with_reducible apply s_ixT); (· walk_at "hl"); (· with_reducible first | exact at0 | exact at1 | exact at2 | exact at3 | exact at4)))
local macro_rules | `(tactic| walk_at "orz") => `(tactic| ((with_reducible apply s_propat); (· walk_at "hl")))
local macro_rules | `(tactic| walk_at "orz") => `(tactic| ((with_reducible apply s_methat); (· walk_at "hl"); (· kernel_rfl)))
local macro_rules | `(tactic| walk_at "orz") => `(tactic| ((with_reducible apply s_fldat); (· walk_at "hl"); (· walk_at "cl"); (· walk_at "na"); (· walk_at "lk")))
local macro_rules | `(tactic| walk_at "orz") => `(tactic| ((with_reducible apply ite_t); (· rfl)))
local macro_rules | `(tactic| walk_at "orz") => `(tactic| ((with_reducible apply ite_f); (· rfl)))
local macro_rules | `(tactic| walk_at "orz") => `(tactic| with_reducible first | refine ⟨_, _, rfl, rfl, ?_⟩ | refine ⟨_, rfl, ?_⟩)
local macro_rules | `(tactic| walk_at "orz") => `(tactic| ((with_reducible apply s_isi); (· assumption); (· decide)))
local macro_rules | `(tactic| walk_at "orz") => `(tactic| with_reducible first | refine s_tup ?_ | refine s_lst ?_)
local macro_rules | `(tactic| walk_at "orz") => `(tactic| ((with_reducible apply s_ne); (· exact rfl)))
local macro_rules | `(tactic| walk_at "orz") => `(tactic| ((with_reducible apply s_eq); (· exact rfl)))
local macro_rules | `(tactic| walk_at "orz") => `(tactic| with_reducible first | refine s_lcE ?_ | refine s_lc ?_ | refine s_dcT ?_ | refine s_cvalg ?_ | refine s_I0 ?_ | refine s_U ?_)
local macro_rules | `(tactic| walk_at "orz") => `(tactic| with_reducible first | refine Or.inl (Exists.intro _ (And.intro rfl ?_)) | refine Or.inr (Exists.intro _ (And.intro rfl ?_)) | refine s_make ?_ | refine s_sl ?_ | refine s_nop ?_ | refine s_part ?_)
local macro_rules | `(tactic| walk_at "orz") => `(tactic| with_reducible first | refine s_get2 ?_ | refine s_callI ?_ | refine s_for ?_ | refine s_rng1 ?_ | refine s_iT ?_ | refine s_iL ?_)
local macro_rules | `(tactic| walk_at "orz") => `(tactic| with_reducible first | refine s_lcL ?_ | refine s_dputg ?_ | refine s_tupRg ?_ | refine s_lstRg ?_ | refine s_rg1 ?_ | refine s_items ?_)
local macro_rules | `(tactic| walk_at "orz") => `(tactic| with_reducible first | refine s_daugg ?_ | refine s_disp ?_ | refine s_gsub ?_ | refine s_fldaug ?_ | refine s_ipI ?_ | refine s_ixO ?_)
local macro_rules | `(tactic| walk_at "orz") => `(tactic| with_reducible first | refine s_chain ?_ | refine s_yes ?_ | refine s_din ?_ | refine s_dnin ?_ | refine s_bm0 ?_ | refine s_lcT ?_)
local macro_rules | `(tactic| walk_at "orz") => `(tactic| with_reducible first | refine s_un ?_ | refine s_star ?_ | refine s_and ?_ | refine s_or ?_ | refine s_orV ?_ | refine s_notV ?_)
local macro_rules | `(tactic| walk_at "orz") => `(tactic| with_reducible first | refine s_augS ?_ | refine s_retN ?_ | refine s_cont ?_ | refine s_break ?_ | refine s_par ?_ | refine s_par2 ?_)
local macro_rules | `(tactic| walk_at "orz") => `(tactic| with_reducible first | refine s_andV ?_ | refine s_add ?_ | refine s_prop ?_ | refine s_pnil ?_ | refine s_cb ?_ | refine s_not ?_)
local macro_rules | `(tactic| walk_at "orz") => `(tactic| with_reducible first | refine s_call ?_ | refine s_pcons ?_ | refine s_bm ?_ | refine s_if ?_ | refine s_gcons ?_ | refine s_gnil ?_)
local macro_rules | `(tactic| walk_at "orz") => `(tactic| with_reducible first | refine s_next ?_ | refine s_gname ?_ | refine s_drop ?_ | refine s_meth ?_ | refine s_fldS ?_ | refine s_asg ?_)
local macro_rules | `(tactic| walk_at "orz") => `(tactic| with_reducible first | refine s_fldg ?_ | refine s_ifS ?_ | refine s_dget ?_ | refine s_ret ?_ | refine s_B ?_ | refine s_test ?_)
local macro_rules | `(tactic| walk_at "orz") => `(tactic| with_reducible first | refine s_cons ?_ | refine s_c ?_ | refine s_nil ?_ | refine s_seq ?_ | refine s_op ?_ | refine s_bl ?_)
local macro_rules | `(tactic| walk_at "orz") => `(tactic| ((with_reducible apply s_var); (· exact rfl)))
local macro_rules | `(tactic| walk_at "rz") => `(tactic| repeat walk_at "orz")
local macro_rules | `(tactic| walk_at "zm") => `(tactic| (intro x dx hx hdx hne; generalize eH : upd (upd _ dx _) x _ = H2; have s2 := mkS hx hdx eH; have e2 := mkE eH; clear eH hdx hne))
local macro_rules | `(tactic| walk_at "zb") => `(tactic| with_reducible first | refine s_gcons ?_ | refine s_gnil ?_ | refine s_gname ?_ | refine s_seq ?_ | refine s_ifS ?_ | refine s_if ?_ | refine s_next ?_ | refine s_drop ?_ | refine s_ret ?_ | refine s_asg ?_)
def RaiE (K : Fg) (cls : Value) (d : Option Addr) (H : Hp) (Q : VK) : Prop :=
  (cls = .ref (ga K "UnknownLine") ∧ ∃ (dd : Addr) (v0 : V), d = some dd ∧ H dd = some (.xd [("line", v0)]) ∧ ∀ t H', Same H H' → H' t = some (.tup [.str "line", v0]) → Q (.ref t) H') ∨
  (cls = .ref (ga K "InvalidSetup") ∧ ∃ (dd : Addr) (v0 v1 : V), d = some dd ∧ H dd = some (.xd [("index", v1), ("part", v0)]) ∧ ∀ t H', Same H H' → H' t = some (.tup [.str "setup", v0, v1]) → Q (.ref t) H')
def TTrai (K : Fg) (tl : XK → Hp → VK → Prop) (H : Hp) (Q : VK) : Prop := tl (fun cls d H' => RaiE K cls d H' Q) H fun _ H' => Q .non H'
theorem gives_w_raised {X : Cx} (T : Txt X.K X.mg) {q : Str} (cdv : Value) : GivesR X n_w_raised "_law_raised" (defScope s_w_raised) (ga X.K "_law_raised") cdv (defBody s_w_raised) "_law_work" q (TTrai X.K) := by
  intro f c' s H Q tl hr act hc h
  obtain ⟨prog, w, K, mg, base, A, N, s_0, H_0, env, outer, stack, ex, fn, calm, pn, xe⟩ := X
  dsimp only at *
  refine ⟨_, PSs.nox (pss_cons (ps_try_as (i := 1) rfl rfl sc_w_raised.nd rfl rfl ⟨rfl, by decide, .inl T.g_BellError⟩ LamX.takes0 (fun W pn xe tk _ => pss_one (z_actR fun E hW => act W pn xe E _ _ tk hW)) (fun a oe cls d pn hz hf => (pss_cons (zset 2 sc_w_raised.nd (pe_lst (pa_cons (pe_callB (cr_isX hz hf) (by rfl) T.u_isinstance (by decide +kernel) (pa_cons (pv 1) (pa_cons (z_ref T.g_InvalidSetup) pa_nil))) (pa_cons (pe_callB (cr_isX hz hf) (by rfl) T.u_isinstance (by decide +kernel) (pa_cons (pv 1) (pa_cons (z_ref T.g_UnknownLine) pa_nil))) (pa_cons (pe_callB (cr_isX hz hf) (by rfl) T.u_isinstance (by decide +kernel) (pa_cons (pv 1) (pa_cons (z_ref T.g_NotLevel) pa_nil))) pa_nil)))))
      (pss_cons (zset 2 sc_w_raised.nd (pe_op op_cat (pv 2) (pe_lst (pa_cons (pe_callB (cr_isX hz hf) (by rfl) T.u_isinstance (by decide +kernel) (pa_cons (pv 1) (pa_cons (z_ref T.g_InvalidNumber) pa_nil))) (pa_cons (pe_callB (cr_isX hz hf) (by rfl) T.u_isinstance (by decide +kernel) (pa_cons (pv 1) (pa_cons (z_ref T.g_InvalidFlag) pa_nil))) (pa_cons (pe_callB (cr_isX hz hf) (by rfl) T.u_isinstance (by decide +kernel) (pa_cons (pv 1) (pa_cons (z_ref T.g_InvalidBell) pa_nil))) pa_nil))))))
      (pss_cons (zset 2 sc_w_raised.nd (pe_op op_cat (pv 2) (pe_lst (pa_cons (pe_callB (cr_isX hz hf) (by rfl) T.u_isinstance (by decide +kernel) (pa_cons (pv 1) (pa_cons (z_ref T.g_TooMany) pa_nil))) (pa_cons (pe_callB (cr_isX hz hf) (by rfl) T.u_isinstance (by decide +kernel) (pa_cons (pv 1) (pa_cons (z_ref T.g_NotPlain) pa_nil))) (pa_cons (pe_callB (cr_isX hz hf) (by rfl) T.u_isinstance (by decide +kernel) (pa_cons (pv 1) (pa_cons (z_ref T.g_TooDense) pa_nil))) pa_nil))))))
      (pss_cons (zset 2 sc_w_raised.nd (pe_op op_cat (pv 2) (pe_lst (pa_cons (pe_callB (cr_isX hz hf) (by rfl) T.u_isinstance (by decide +kernel) (pa_cons (pv 1) (pa_cons (z_ref T.g_InvalidLog) pa_nil))) (pa_cons (pe_callB (cr_isX hz hf) (by rfl) T.u_isinstance (by decide +kernel) (pa_cons (pv 1) (pa_cons (z_ref T.g_NotationError) pa_nil))) pa_nil)))))
      (pss_cons (ps_if (PW.pt (pw_or (pt_cmpR op_ne (kBM K (pe_bm PySem.F.plainAttrs_list PySem.F.slot_list_count PySem.F.type_list_count (mt_countDK K hr.units5) (pv 2) (pa_cons pe_bl pa_nil))) pe_int (nomark _)) (pw_or1 (pt_not (pt_val (pe_callB (cr_isX hz hf) (by rfl) T.u_isinstance (by decide +kernel) (pa_cons (pv 1) (pa_cons (z_ty (n := "ValueError") T.u_ValueError) pa_nil)))))))) (pss_one (ps_ret (pe_tup (pa_cons pe_str pa_nil)))) pss_nil)
      (pss_cons (zset 3 sc_w_raised.nd (kBM K (pe_bm PySem.F.plainAttrs_list PySem.F.slot_list_index PySem.F.type_list_index (mt_indexK K) (pv 2) (pa_cons pe_bl pa_nil))))
      (pss_cons (ps_if (pt_cmpR op_eq (pv 3) pe_int (nomark _)) (pss_one (ps_ret (pe_tup (pa_cons pe_str (pa_cons (pe_xf T.xc_InvalidSetup.xf T.xn_InvalidSetup_part hz hf (pv 1)) (pa_cons (pe_xf T.xc_InvalidSetup.xf T.xn_InvalidSetup_index hz hf (pv 1)) pa_nil)))))) pss_nil)
      (pss_cons (ps_if (pt_cmpR op_eq (pv 3) pe_int (nomark _)) (pss_one (ps_ret (pe_tup (pa_cons pe_str (pa_cons (pe_xf T.xc_NotationError.xf T.xn_NotationError_row hz hf (pv 1)) (pa_cons (pe_xf T.xc_NotationError.xf T.xn_NotationError_word hz hf (pv 1)) pa_nil)))))) pss_nil)
      (pss_cons (ps_if (pt_cmpR (op_in_seqK K) (pv 3) (pe_tup (pa_cons pe_int (pa_cons pe_int (pa_cons pe_int pa_nil)))) (by rfl)) (pss_one (ps_ret (pe_tup (pa_cons (pe_ix (ix_listK K) (pe_lst (pa_cons pe_str (pa_cons pe_str (pa_cons pe_str pa_nil)))) (kBM K (pe_bm PySem.F.plainAttrs_list PySem.F.slot_list_index PySem.F.type_list_index (mt_indexK K) (pe_lst (pa_cons pe_int (pa_cons pe_int (pa_cons pe_int pa_nil)))) (pa_cons (pv 3) pa_nil))) (fun _ _ => rfl)) (pa_cons (pe_xf T.xc_UnknownLine.xf T.xn_UnknownLine_line hz hf (pv 1)) pa_nil))))) pss_nil)
      (pss_cons (ps_if (pt_cmpR (op_in_seqK K) (pv 3) (pe_tup (pa_cons pe_int (pa_cons pe_int pa_nil))) (by rfl)) (pss_one (ps_ret (pe_tup (pa_cons (pe_ix (ix_listK K) (pe_lst (pa_cons pe_str (pa_cons pe_str pa_nil))) (kBM K (pe_bm PySem.F.plainAttrs_list PySem.F.slot_list_index PySem.F.type_list_index (mt_indexK K) (pe_lst (pa_cons pe_int (pa_cons pe_int pa_nil))) (pa_cons (pv 3) pa_nil))) (fun _ _ => rfl)) (pa_cons (pe_xf T.xc_InvalidBell.xf T.xn_InvalidBell_index hz hf (pv 1)) pa_nil))))) pss_nil)
      (pss_one (ps_ret (pe_tup (pa_cons (pe_ix (ix_listK K) (pe_lst (pa_cons pe_str (pa_cons pe_str (pa_cons pe_str (pa_cons pe_str pa_nil))))) (kBM K (pe_bm PySem.F.plainAttrs_list PySem.F.slot_list_index PySem.F.type_list_index (mt_indexK K) (pe_lst (pa_cons pe_int (pa_cons pe_int (pa_cons pe_int (pa_cons pe_int pa_nil))))) (pa_cons (pv 3) pa_nil))) (fun _ _ => rfl)) pa_nil))))))))))))))))
      (pss_one (ps_ret pe_non))), ?_⟩
  show (_ : TS) _ [some (.ref f), none, none, none] H
  try dsimp only [cxOf]
  walk_at "rz"
  refine ⟨fun cls d H' => RaiE K cls d H' Q, fun cls d σ' H' hlen h => ?_, rfl, hc, h⟩
  obtain ⟨x0, x1, x2, x3, rfl⟩ : ∃ x0 x1 x2 x3, σ' = [x0, x1, x2, x3] := by
    match σ', hlen with
    | [x0, x1, x2, x3], _ => exact ⟨x0, x1, x2, x3, rfl⟩
  rcases h with ⟨rfl, dd, v0, rfl, hx, k⟩ | ⟨rfl, dd, v0, v1, rfl, hx, k⟩
  · refine ⟨true, T.xm_UnknownLine, fun _ a ha => ?_, fun e => nomatch e⟩
    walk_at "rz"
    refine ⟨ga K "UnknownLine", _, _, _, rfl, rfl, T.xc_UnknownLine, fun u r => r, T.xk_UnknownLine_InvalidSetup, (by intro dd2 e2; cases e2; exact ⟨_, hx⟩), ?_⟩
    walk_at "rz"
    refine ⟨ga K "UnknownLine", _, _, _, rfl, rfl, T.xc_UnknownLine, fun u r => r, T.xk_UnknownLine_UnknownLine, (by intro dd2 e2; cases e2; exact ⟨_, hx⟩), ?_⟩
    walk_at "rz"
    refine ⟨ga K "UnknownLine", _, _, _, rfl, rfl, T.xc_UnknownLine, fun u r => r, T.xk_UnknownLine_NotLevel, (by intro dd2 e2; cases e2; exact ⟨_, hx⟩), ?_⟩
    walk_at "rz"
    rename_i l0 hl0 H0 s0 e0
    have hx0 := s0 _ _ hx
    refine ⟨ga K "UnknownLine", _, _, _, rfl, rfl, T.xc_UnknownLine, fun u r => r, T.xk_UnknownLine_InvalidNumber, (by intro dd2 e2; cases e2; exact ⟨_, hx0⟩), ?_⟩
    walk_at "rz"
    refine ⟨ga K "UnknownLine", _, _, _, rfl, rfl, T.xc_UnknownLine, fun u r => r, T.xk_UnknownLine_InvalidFlag, (by intro dd2 e2; cases e2; exact ⟨_, hx0⟩), ?_⟩
    walk_at "rz"
    refine ⟨ga K "UnknownLine", _, _, _, rfl, rfl, T.xc_UnknownLine, fun u r => r, T.xk_UnknownLine_InvalidBell, (by intro dd2 e2; cases e2; exact ⟨_, hx0⟩), ?_⟩
    walk_at "rz"
    rename_i l1 hl1 H1 s1 e1
    have hx1 := s1 _ _ hx0
    refine ⟨l0, l1, _, _, rfl, rfl, s1 _ _ e0, e1, by rw [sizeLine_eq]; decide, fun l2 hl2 => ?_⟩
    generalize eH : upd H1 l2 _ = H2
    have s2 := newS hl2 eH
    have e2 := newE eH
    clear eH
    have hx2 := s2 _ _ hx1
    walk_at "rz"
    refine ⟨ga K "UnknownLine", _, _, _, rfl, rfl, T.xc_UnknownLine, fun u r => r, T.xk_UnknownLine_TooMany, (by intro dd2 e2; cases e2; exact ⟨_, hx2⟩), ?_⟩
    walk_at "rz"
    refine ⟨ga K "UnknownLine", _, _, _, rfl, rfl, T.xc_UnknownLine, fun u r => r, T.xk_UnknownLine_NotPlain, (by intro dd2 e2; cases e2; exact ⟨_, hx2⟩), ?_⟩
    walk_at "rz"
    refine ⟨ga K "UnknownLine", _, _, _, rfl, rfl, T.xc_UnknownLine, fun u r => r, T.xk_UnknownLine_TooDense, (by intro dd2 e2; cases e2; exact ⟨_, hx2⟩), ?_⟩
    walk_at "rz"
    rename_i l3 hl3 H3 s3 e3
    have hx3 := s3 _ _ hx2
    refine ⟨l2, l3, _, _, rfl, rfl, s3 _ _ e2, e3, by rw [sizeLine_eq]; decide, fun l4 hl4 => ?_⟩
    generalize eH : upd H3 l4 _ = H4
    have s4 := newS hl4 eH
    have e4 := newE eH
    clear eH
    have hx4 := s4 _ _ hx3
    walk_at "rz"
    refine ⟨ga K "UnknownLine", _, _, _, rfl, rfl, T.xc_UnknownLine, fun u r => r, T.xk_UnknownLine_InvalidLog, (by intro dd2 e2; cases e2; exact ⟨_, hx4⟩), ?_⟩
    walk_at "rz"
    refine ⟨ga K "UnknownLine", _, _, _, rfl, rfl, T.xc_UnknownLine, fun u r => r, T.xk_UnknownLine_NotationError, (by intro dd2 e2; cases e2; exact ⟨_, hx4⟩), ?_⟩
    walk_at "rz"
    rename_i l5 hl5 H5 s5 e5
    have hx5 := s5 _ _ hx4
    refine ⟨l4, l5, _, _, rfl, rfl, s5 _ _ e4, e5, by rw [sizeLine_eq]; decide, fun l6 hl6 => ?_⟩
    generalize eH : upd H5 l6 _ = H6
    have s6 := newS hl6 eH
    have e6 := newE eH
    clear eH
    have hx6 := s6 _ _ hx5
    walk_at "rz"
    have dl : Dp K H6 (.ref l6) (.list [.bool false, .bool true, .bool false, .bool false, .bool false, .bool false, .bool false, .bool false, .bool false, .bool false, .bool false]) := .lst (SqL.of e6) (.cons (.bl _) (.cons (.bl _) (.cons (.bl _) (.cons (.bl _) (.cons (.bl _) (.cons (.bl _) (.cons (.bl _) (.cons (.bl _) (.cons (.bl _) (.cons (.bl _) (.cons (.bl _) (.nil))))))))))))
    refine s_tyL e6 ?_
    walk_at "rz"
    refine ⟨l6, .bl true, .bool true, _, rfl, rfl, dl, .bl _, rfl, rfl, ?_⟩
    walk_at "rz"
    refine ⟨ga K "UnknownLine", _, _, _, rfl, rfl, T.xc_UnknownLine, fun u r => r, T.xv_UnknownLine, (by intro dd2 e2; cases e2; exact ⟨_, hx6⟩), ?_⟩
    walk_at "rz"
    refine s_tyL e6 ?_
    walk_at "rz"
    refine ⟨l6, _, .bl true, 1, .bl true, rfl, rfl, SqL.of e6, rfl, rfl, rfl, rfl, fun m z hm e => ?_, ?_⟩
    · match m, hm with
      | 0, _ => cases e; rfl
    walk_at "rz"
    rename_i q1 hq1 Hq1 sq1 eq1
    have hy0 := sq1 _ _ hx6
    refine s_in (.inr (SqT.of eq1)) rfl rfl ?_
    refine ⟨_, rfl, ?_⟩
    rw [show (if false = true then !inV (V.int ((1 : Nat) : Int)) [V.int 1, V.int 2, V.int 8] else inV (V.int ((1 : Nat) : Int)) [V.int 1, V.int 2, V.int 8]) = true from by decide]
    walk_at "rz"
    rename_i pw hpw Hw sw ew qz hqz Hqz sqz eqz
    have hy1 := sw _ _ hy0
    have hy2 := sqz _ _ hy1
    refine s_tyL eqz ?_
    walk_at "rz"
    refine ⟨qz, _, .int 1, 0, .int 1, rfl, rfl, SqL.of eqz, rfl, rfl, rfl, rfl, fun m z hm e => ?_, ?_⟩
    · exact absurd hm (Nat.not_lt_zero _)
    walk_at "rz"
    refine s_ixL (SqL.of (sqz _ _ ew)) (v := .str "line") (at_of (j := 0) (by omega) rfl) ?_
    walk_at "rz"
    refine ⟨.ref a, rfl, rfl, rfl, dd, _, v0, rfl, hy2, rfl, ?_⟩
    walk_at "rz"
    rename_i t ht Ht st et
    exact k t Ht ((((((((((s0.trans s1).trans s2).trans s3).trans s4).trans s5).trans s6).trans sq1).trans sw).trans sqz).trans st) et
  · refine ⟨true, T.xm_InvalidSetup, fun _ a ha => ?_, fun e => nomatch e⟩
    walk_at "rz"
    refine ⟨ga K "InvalidSetup", _, _, _, rfl, rfl, T.xc_InvalidSetup, fun u r => r, T.xk_InvalidSetup_InvalidSetup, (by intro dd2 e2; cases e2; exact ⟨_, hx⟩), ?_⟩
    walk_at "rz"
    refine ⟨ga K "InvalidSetup", _, _, _, rfl, rfl, T.xc_InvalidSetup, fun u r => r, T.xk_InvalidSetup_UnknownLine, (by intro dd2 e2; cases e2; exact ⟨_, hx⟩), ?_⟩
    walk_at "rz"
    refine ⟨ga K "InvalidSetup", _, _, _, rfl, rfl, T.xc_InvalidSetup, fun u r => r, T.xk_InvalidSetup_NotLevel, (by intro dd2 e2; cases e2; exact ⟨_, hx⟩), ?_⟩
    walk_at "rz"
    rename_i l0 hl0 H0 s0 e0
    have hx0 := s0 _ _ hx
    refine ⟨ga K "InvalidSetup", _, _, _, rfl, rfl, T.xc_InvalidSetup, fun u r => r, T.xk_InvalidSetup_InvalidNumber, (by intro dd2 e2; cases e2; exact ⟨_, hx0⟩), ?_⟩
    walk_at "rz"
    refine ⟨ga K "InvalidSetup", _, _, _, rfl, rfl, T.xc_InvalidSetup, fun u r => r, T.xk_InvalidSetup_InvalidFlag, (by intro dd2 e2; cases e2; exact ⟨_, hx0⟩), ?_⟩
    walk_at "rz"
    refine ⟨ga K "InvalidSetup", _, _, _, rfl, rfl, T.xc_InvalidSetup, fun u r => r, T.xk_InvalidSetup_InvalidBell, (by intro dd2 e2; cases e2; exact ⟨_, hx0⟩), ?_⟩
    walk_at "rz"
    rename_i l1 hl1 H1 s1 e1
    have hx1 := s1 _ _ hx0
    refine ⟨l0, l1, _, _, rfl, rfl, s1 _ _ e0, e1, by rw [sizeLine_eq]; decide, fun l2 hl2 => ?_⟩
    generalize eH : upd H1 l2 _ = H2
    have s2 := newS hl2 eH
    have e2 := newE eH
    clear eH
    have hx2 := s2 _ _ hx1
    walk_at "rz"
    refine ⟨ga K "InvalidSetup", _, _, _, rfl, rfl, T.xc_InvalidSetup, fun u r => r, T.xk_InvalidSetup_TooMany, (by intro dd2 e2; cases e2; exact ⟨_, hx2⟩), ?_⟩
    walk_at "rz"
    refine ⟨ga K "InvalidSetup", _, _, _, rfl, rfl, T.xc_InvalidSetup, fun u r => r, T.xk_InvalidSetup_NotPlain, (by intro dd2 e2; cases e2; exact ⟨_, hx2⟩), ?_⟩
    walk_at "rz"
    refine ⟨ga K "InvalidSetup", _, _, _, rfl, rfl, T.xc_InvalidSetup, fun u r => r, T.xk_InvalidSetup_TooDense, (by intro dd2 e2; cases e2; exact ⟨_, hx2⟩), ?_⟩
    walk_at "rz"
    rename_i l3 hl3 H3 s3 e3
    have hx3 := s3 _ _ hx2
    refine ⟨l2, l3, _, _, rfl, rfl, s3 _ _ e2, e3, by rw [sizeLine_eq]; decide, fun l4 hl4 => ?_⟩
    generalize eH : upd H3 l4 _ = H4
    have s4 := newS hl4 eH
    have e4 := newE eH
    clear eH
    have hx4 := s4 _ _ hx3
    walk_at "rz"
    refine ⟨ga K "InvalidSetup", _, _, _, rfl, rfl, T.xc_InvalidSetup, fun u r => r, T.xk_InvalidSetup_InvalidLog, (by intro dd2 e2; cases e2; exact ⟨_, hx4⟩), ?_⟩
    walk_at "rz"
    refine ⟨ga K "InvalidSetup", _, _, _, rfl, rfl, T.xc_InvalidSetup, fun u r => r, T.xk_InvalidSetup_NotationError, (by intro dd2 e2; cases e2; exact ⟨_, hx4⟩), ?_⟩
    walk_at "rz"
    rename_i l5 hl5 H5 s5 e5
    have hx5 := s5 _ _ hx4
    refine ⟨l4, l5, _, _, rfl, rfl, s5 _ _ e4, e5, by rw [sizeLine_eq]; decide, fun l6 hl6 => ?_⟩
    generalize eH : upd H5 l6 _ = H6
    have s6 := newS hl6 eH
    have e6 := newE eH
    clear eH
    have hx6 := s6 _ _ hx5
    walk_at "rz"
    have dl : Dp K H6 (.ref l6) (.list [.bool true, .bool false, .bool false, .bool false, .bool false, .bool false, .bool false, .bool false, .bool false, .bool false, .bool false]) := .lst (SqL.of e6) (.cons (.bl _) (.cons (.bl _) (.cons (.bl _) (.cons (.bl _) (.cons (.bl _) (.cons (.bl _) (.cons (.bl _) (.cons (.bl _) (.cons (.bl _) (.cons (.bl _) (.cons (.bl _) (.nil))))))))))))
    refine s_tyL e6 ?_
    walk_at "rz"
    refine ⟨l6, .bl true, .bool true, _, rfl, rfl, dl, .bl _, rfl, rfl, ?_⟩
    walk_at "rz"
    refine ⟨ga K "InvalidSetup", _, _, _, rfl, rfl, T.xc_InvalidSetup, fun u r => r, T.xv_InvalidSetup, (by intro dd2 e2; cases e2; exact ⟨_, hx6⟩), ?_⟩
    walk_at "rz"
    refine s_tyL e6 ?_
    walk_at "rz"
    refine ⟨l6, _, .bl true, 0, .bl true, rfl, rfl, SqL.of e6, rfl, rfl, rfl, rfl, fun m z hm e => ?_, ?_⟩
    · exact absurd hm (Nat.not_lt_zero _)
    walk_at "rz"
    refine ⟨.ref a, rfl, rfl, rfl, dd, _, v0, rfl, hx6, rfl, ?_⟩
    walk_at "rz"
    refine ⟨.ref a, rfl, rfl, rfl, dd, _, v1, rfl, hx6, rfl, ?_⟩
    walk_at "rz"
    rename_i t ht Ht st et
    exact k t Ht (((((((s0.trans s1).trans s2).trans s3).trans s4).trans s5).trans s6).trans st) et
end T
set_option maxHeartbeats 8000000
namespace T
open PySem PySem.Spec PyProof.Rows L2 Z
open He (ga ma)
local macro_rules | `(tactic| walk_at "z") => `(tactic| with_reducible first | refine ⟨_, _, rfl, rfl, ?_⟩ | refine ⟨_, rfl, ?_⟩)
local macro_rules | `(tactic| walk_at "z") => `(tactic| ((with_reducible refine s_isi (d := ?d1) ?h1 ?h2 ?q1); (case h1 => first | assumption | constructor); (case h2 => decide)))
local macro_rules | `(tactic| walk_at "z") => `(tactic| with_reducible first | refine s_tup ?_ | refine s_lst ?_)
local macro_rules | `(tactic| walk_at "z") => `(tactic| ((with_reducible refine s_ne ?h1 ?q1); (case h1 => exact rfl)))
local macro_rules | `(tactic| walk_at "z") => `(tactic| ((with_reducible refine s_eq ?h1 ?q1); (case h1 => exact rfl)))
local macro_rules | `(tactic| walk_at "z") => `(tactic| with_reducible first | refine s_dcT ?_ | refine s_cvalg ?_ | refine s_fldS ?_ | refine s_I0 ?_ | refine s_U ?_)
local macro_rules | `(tactic| walk_at "z") => `(tactic| with_reducible first | refine s_make ?_ | refine s_sl ?_ | refine s_nop ?_ | refine s_part ?_ | refine s_lcE ?_ | refine s_lc ?_)
local macro_rules | `(tactic| walk_at "z") => `(tactic| with_reducible first | refine s_for ?_ | refine s_rng1 ?_ | refine s_iT ?_ | refine s_iL ?_ | refine Or.inl (Exists.intro _ (And.intro rfl ?_)) | refine Or.inr (Exists.intro _ (And.intro rfl ?_)))
local macro_rules | `(tactic| walk_at "z") => `(tactic| with_reducible first | refine s_fldaug ?_ | refine s_add ?_ | refine s_ipI ?_ | refine s_ixO ?_ | refine s_lcL ?_ | refine s_dputg ?_)
local macro_rules | `(tactic| walk_at "z") => `(tactic| with_reducible first | refine s_daugg ?_ | refine s_disp ?_ | refine s_pcons ?_ | refine s_pnil ?_ | refine s_gsub ?_ | refine s_augS ?_)
local macro_rules | `(tactic| walk_at "z") => `(tactic| with_reducible first | refine s_bm ?_ | refine s_bm0 ?_ | refine s_fldg ?_ | refine s_meth ?_ | refine s_prop ?_ | refine s_lcT ?_)
local macro_rules | `(tactic| walk_at "z") => `(tactic| with_reducible first | refine s_yes ?_ | refine s_gcons ?_ | refine s_gnil ?_ | refine s_din ?_ | refine s_dnin ?_ | refine s_dget ?_)
local macro_rules | `(tactic| walk_at "z") => `(tactic| with_reducible first | refine s_orV ?_ | refine s_notV ?_ | refine s_if ?_ | refine s_chain ?_ | refine s_call ?_ | refine s_bl ?_)
local macro_rules | `(tactic| walk_at "z") => `(tactic| with_reducible first | refine s_test ?_ | refine s_B ?_ | refine s_and ?_ | refine s_or ?_ | refine s_not ?_ | refine s_andV ?_)
local macro_rules | `(tactic| walk_at "z") => `(tactic| with_reducible first | refine s_op ?_ | refine s_un ?_ | refine s_cb ?_ | refine s_cons ?_ | refine s_nil ?_ | refine s_star ?_)
local macro_rules | `(tactic| walk_at "z") => `(tactic| ((with_reducible refine s_var (v := ?v1) ?h1 ?q1); (case h1 => exact rfl)))
local macro_rules | `(tactic| walk_at "z") => `(tactic| with_reducible refine s_c ?_)
local macro_rules | `(tactic| walk_at "z") => `(tactic| with_reducible first | refine s_drop ?_ | refine s_next ?_ | refine s_cont ?_ | refine s_break ?_ | refine s_par ?_ | refine s_par2 ?_)
local macro_rules | `(tactic| walk_at "z") => `(tactic| with_reducible first | refine s_seq ?_ | refine s_asg ?_ | refine s_gname ?_ | refine s_ret ?_ | refine s_retN ?_ | refine s_ifS ?_)
local macro_rules | `(tactic| walk_at "zi") => `(tactic| ((with_reducible refine ite_t ?h1 ?q1); (case h1 => rfl)))
local macro_rules | `(tactic| walk_at "zi") => `(tactic| ((with_reducible refine ite_f ?h1 ?q1); (case h1 => rfl)))
local macro_rules | `(tactic| walk_at "zi") => `(tactic| walk_at "z")
local macro_rules | `(tactic| walk_at "zn") => `(tactic| (intro p hp; generalize eH : upd _ p _ = H2; have s2 := newS hp eH; have e2 := newE eH; clear eH))
local macro_rules | `(tactic| walk_at "zt") => `(tactic| ((with_reducible refine And.intro ?h1 ?_); (case h1 => exact Nat.le_of_ble_eq_true rfl); intro p hp; generalize eH : upd _ p _ = H2; have s2 := newS hp eH; have e2 := newE eH; clear eH))
local macro_rules | `(tactic| walk_at "hl") => `(tactic| ((with_reducible apply ev_same); (· assumption); · walk_at "hl"))
local macro_rules | `(tactic| walk_at "hl") => `(tactic| ((with_reducible apply mst_same); (· assumption); · walk_at "hl"))
local macro_rules | `(tactic| walk_at "hl") => `(tactic| ((with_reducible apply plm_same); (· assumption); · walk_at "hl"))
local macro_rules | `(tactic| walk_at "hl") => `(tactic| ((with_reducible apply md_same); (· assumption); · walk_at "hl"))
local macro_rules | `(tactic| walk_at "hl") => `(tactic| ((with_reducible apply row_same); (· assumption); · walk_at "hl"))
local macro_rules | `(tactic| walk_at "hl") => `(tactic| ((with_reducible apply sg_same); (· assumption); · walk_at "hl"))
local macro_rules | `(tactic| walk_at "hl") => `(tactic| ((with_reducible apply cst_same); (· assumption); · walk_at "hl"))
local macro_rules | `(tactic| walk_at "hl") => `(tactic| ((with_reducible apply co_same); (· assumption); · walk_at "hl"))
local macro_rules | `(tactic| walk_at "hl") => `(tactic| ((with_reducible apply bd_same); (· assumption); · walk_at "hl"))
local macro_rules | `(tactic| walk_at "hl") => `(tactic| ((with_reducible apply pl_same); (· assumption); · walk_at "hl"))
local macro_rules | `(tactic| walk_at "hl") => `(tactic| ((with_reducible apply dpA_same); (· assumption); · walk_at "hl"))
local macro_rules | `(tactic| walk_at "hl") => `(tactic| ((with_reducible apply dp_same); (· assumption); · walk_at "hl"))
local macro_rules | `(tactic| walk_at "hl") => `(tactic| ((with_reducible apply SqL.of); · walk_at "hl"))
local macro_rules | `(tactic| walk_at "hl") => `(tactic| ((with_reducible apply SqT.of); · walk_at "hl"))
local macro_rules | `(tactic| walk_at "hl") => `(tactic| ((with_reducible apply sqL_same); (· assumption); · walk_at "hl"))
local macro_rules | `(tactic| walk_at "hl") => `(tactic| ((with_reducible apply sqT_same); (· assumption); · walk_at "hl"))
local macro_rules | `(tactic| walk_at "hl") => `(tactic| ((with_reducible apply at_same); (· assumption); · walk_at "hl"))
local macro_rules | `(tactic| walk_at "hl") => `(tactic| assumption)
local macro_rules | `(tactic| walk_at "lk") => `(tactic| with_reducible first | exact bdF_jo | exact sgF_plan | exact sgF_board | exact sgF_core | exact sgF_time | exact sgF_sums | exact coF_plan | exact coF_fr | exact coF_lim | exact coF_jo)
local macro_rules | `(tactic| walk_at "lk") => `(tactic| with_reducible first | exact plF_lr | exact plF_wr | exact plF_rn | exact plF_wn | exact bdF_plan | exact bdF_sh | exact bdF_wa | exact bdF_hi | exact bdF_ta | exact bdF_ra)
local macro_rules | `(tactic| walk_at "mk") => `(tactic| with_reducible first | exact mk_jn | exact mk_ln | exact mk_wk)
local macro_rules | `(tactic| walk_at "mk") => `(tactic| with_reducible first | exact mk_ca | exact mk_ed | exact mk_hi | exact mk_up | exact mk_sh | exact mk_bar | exact mk_jo | exact mk_now | exact mk_lg | exact mk_sp)
local macro_rules | `(tactic| walk_at "cl") => `(tactic| with_reducible first | exact Txt.cl_InvalidSetup (by assumption) | exact Txt.cl_UnknownLine (by assumption) | exact Txt.cl_Setup (by assumption))
local macro_rules | `(tactic| walk_at "na") => `(tactic| with_reducible first | exact Txt.n_InvalidSetup_part (by assumption) | exact Txt.n_InvalidSetup_index (by assumption) | exact Txt.n_UnknownLine_line (by assumption) | exact Txt.n_Setup_line_rows (by assumption) | exact Txt.n_Setup_work_rows (by assumption) | exact Txt.n_Setup_rows_by_name (by assumption) | exact Txt.n_Setup_works_by_name (by assumption))
local macro_rules | `(tactic| walk_at "zz") => `(tactic| walk_at "zt")
local macro_rules | `(tactic| walk_at "zz") => `(tactic| ((with_reducible apply s_dgS); (· walk_at "hl"); (· walk_at "mk")))
local macro_rules | `(tactic| walk_at "zz") => `(tactic| ((with_reducible apply s_ixL); (· walk_at "hl"); (· with_reducible first | exact at0 | exact at1 | exact at2 | exact at3 | exact at4)))
local macro_rules | `(tactic| walk_at "zz") => `(tactic| ((with_reducible apply s_ixT); (· walk_at "hl"); (· with_reducible first | exact at0 | exact at1 | exact at2 | exact at3 | exact at4)))
local macro_rules | `(tactic| walk_at "zz") => `(tactic| ((with_reducible apply s_propat); (· walk_at "hl")))
local macro_rules | `(tactic| walk_at "zz") => `(tactic| ((with_reducible apply s_methat); (· walk_at "hl"); (· kernel_rfl)))
local macro_rules | `(tactic| walk_at "zz") => `(tactic| ((with_reducible apply s_fldat); (· walk_at "hl"); (· walk_at "cl"); (· walk_at "na"); (· walk_at "lk")))
local macro_rules | `(tactic| walk_at "zz") => `(tactic| walk_at "zi")
local macro_rules | `(tactic| walk_at "orz") => `(tactic| walk_at "zt")
local macro_rules | `(tactic| walk_at "orz") => `(tactic| ((with_reducible apply s_dgS); (· walk_at "hl"); (· walk_at "mk")))
local macro_rules | `(tactic| walk_at "orz") => `(tactic| ((with_reducible apply s_ixL); (· walk_at "hl"); (· with_reducible first | exact at0 | exact at1 | exact at2 | exact at3 | exact at4)))
local macro_rules | `(tactic| walk_at "orz") => `(tactic| ((with_reducible apply s_ixT); (· walk_at "hl"); (· with_reducible first | exact at0 | exact at1 | exact at2 | exact at3 | exact at4)))
local macro_rules | `(tactic| walk_at "orz") => `(tactic| ((with_reducible apply s_propat); (· walk_at "hl")))
local macro_rules | `(tactic| walk_at "orz") => `(tactic| ((with_reducible apply s_methat); (· walk_at "hl"); (· kernel_rfl)))
local macro_rules | `(tactic| walk_at "orz") => `(tactic| ((with_reducible apply s_fldat); (· walk_at "hl"); (· walk_at "cl"); (· walk_at "na"); (· walk_at "lk")))
local macro_rules | `(tactic| walk_at "orz") => `(tactic| ((with_reducible apply ite_t); (· rfl)))
local macro_rules | `(tactic| walk_at "orz") => `(tactic| ((with_reducible apply ite_f); (· rfl)))
local macro_rules | `(tactic| walk_at "orz") => `(tactic| with_reducible first | refine ⟨_, _, rfl, rfl, ?_⟩ | refine ⟨_, rfl, ?_⟩)
local macro_rules | `(tactic| walk_at "orz") => `(tactic| ((with_reducible apply s_isi); (· assumption); (· decide)))
local macro_rules | `(tactic| walk_at "orz") => `(tactic| with_reducible first | refine s_tup ?_ | refine s_lst ?_)
local macro_rules | `(tactic| walk_at "orz") => `(tactic| ((with_reducible apply s_ne); (· exact rfl)))
local macro_rules | `(tactic| walk_at "orz") => `(tactic| ((with_reducible apply s_eq); (· exact rfl)))
local macro_rules | `(tactic| walk_at "orz") => `(tactic| with_reducible first | refine s_lcE ?_ | refine s_lc ?_ | refine s_dcT ?_ | refine s_cvalg ?_ | refine s_I0 ?_ | refine s_U ?_)
local macro_rules | `(tactic| walk_at "orz") => `(tactic| with_reducible first | refine Or.inl (Exists.intro _ (And.intro rfl ?_)) | refine Or.inr (Exists.intro _ (And.intro rfl ?_)) | refine s_make ?_ | refine s_sl ?_ | refine s_nop ?_ | refine s_part ?_)
local macro_rules | `(tactic| walk_at "orz") => `(tactic| with_reducible first | refine s_lcL ?_ | refine s_dputg ?_ | refine s_for ?_ | refine s_rng1 ?_ | refine s_iT ?_ | refine s_iL ?_)
local macro_rules | `(tactic| walk_at "orz") => `(tactic| with_reducible first | refine s_daugg ?_ | refine s_disp ?_ | refine s_gsub ?_ | refine s_fldaug ?_ | refine s_ipI ?_ | refine s_ixO ?_)
local macro_rules | `(tactic| walk_at "orz") => `(tactic| with_reducible first | refine s_chain ?_ | refine s_yes ?_ | refine s_din ?_ | refine s_dnin ?_ | refine s_bm0 ?_ | refine s_lcT ?_)
local macro_rules | `(tactic| walk_at "orz") => `(tactic| with_reducible first | refine s_un ?_ | refine s_star ?_ | refine s_and ?_ | refine s_or ?_ | refine s_orV ?_ | refine s_notV ?_)
local macro_rules | `(tactic| walk_at "orz") => `(tactic| with_reducible first | refine s_augS ?_ | refine s_retN ?_ | refine s_cont ?_ | refine s_break ?_ | refine s_par ?_ | refine s_par2 ?_)
local macro_rules | `(tactic| walk_at "orz") => `(tactic| with_reducible first | refine s_andV ?_ | refine s_add ?_ | refine s_prop ?_ | refine s_pnil ?_ | refine s_cb ?_ | refine s_not ?_)
local macro_rules | `(tactic| walk_at "orz") => `(tactic| with_reducible first | refine s_call ?_ | refine s_pcons ?_ | refine s_bm ?_ | refine s_if ?_ | refine s_gcons ?_ | refine s_gnil ?_)
local macro_rules | `(tactic| walk_at "orz") => `(tactic| with_reducible first | refine s_next ?_ | refine s_gname ?_ | refine s_drop ?_ | refine s_meth ?_ | refine s_fldS ?_ | refine s_asg ?_)
local macro_rules | `(tactic| walk_at "orz") => `(tactic| with_reducible first | refine s_fldg ?_ | refine s_ifS ?_ | refine s_dget ?_ | refine s_ret ?_ | refine s_B ?_ | refine s_test ?_)
local macro_rules | `(tactic| walk_at "orz") => `(tactic| with_reducible first | refine s_cons ?_ | refine s_c ?_ | refine s_nil ?_ | refine s_seq ?_ | refine s_op ?_ | refine s_bl ?_)
local macro_rules | `(tactic| walk_at "orz") => `(tactic| ((with_reducible apply s_var); (· exact rfl)))
local macro_rules | `(tactic| walk_at "rz") => `(tactic| repeat walk_at "orz")
local macro_rules | `(tactic| walk_at "zm") => `(tactic| (intro x dx hx hdx hne; generalize eH : upd (upd _ dx _) x _ = H2; have s2 := mkS hx hdx eH; have e2 := mkE eH; clear eH hdx hne))
local macro_rules | `(tactic| walk_at "zb") => `(tactic| with_reducible first | refine s_gcons ?_ | refine s_gnil ?_ | refine s_gname ?_ | refine s_seq ?_ | refine s_ifS ?_ | refine s_if ?_ | refine s_next ?_ | refine s_drop ?_ | refine s_ret ?_ | refine s_asg ?_)
def spMPlain (K : Fg) : Sp := fun vs H Q _ => ∃ r sc ns, ∃ most long : Int, vs = [.ref r, .int most, .int long] ∧ RowAt K H r sc ns ∧ 1 ≤ most ∧ most ≤ 6 ∧ 1 ≤ long ∧ long ≤ 90 ∧ ∀ t P H', Fr [r] H H' → RowAt K H' r sc ns → PlainP P → Dp K H' (.ref t) (.tuple (P.ls.map dLn)) → FrzL H' t → Q (.ref t) H'
section
variable {P : Program} {w : World} {K : Fg} {mg : Str → Option Value} {base : Heap}
theorem ok_w_plain (T : Txt K mg) : FnOk P w K mg base (L2.CX P w) 6 (ga K "_law_plain") (fdOf K (ga K "_law_plain")) ["_law_row", "_law_most", "_law_long"] (spMPlain K) := by
  refine FunD.ok T.F_w_plain sc_w_plain (fun vs H Q E h => ?_) (fun cdv A outer s H vs Q E hr h => ⟨_, PSs.nox (pss_cons (zset 3 sc_w_plain.nd (pe_slice (sl_listK K) (z_call (ok_w_mixed T) T.c_w_mixed (hr.mono (by decide)) rfl T.g_w_mixed passL (pa_cons (pv 0) (pa_cons (pe_lst (pa_cons pe_str (pa_cons pe_str (pa_cons pe_str (pa_cons pe_str (pa_cons pe_str (pa_cons pe_str pa_nil))))))) pa_nil))) po_none (po_some (pe_op op_add pe_int (z_call (ok_w_taken T) T.c_w_taken (hr.mono (by decide)) rfl T.g_w_taken passL (pa_cons (pv 0) (pa_cons (pv 1) pa_nil)))))))
      (pss_cons (ps_par (by rfl) sc_w_plain.nd (i := 4) (j := 5) rfl rfl (by decide) rfl rfl (pa_cons (z_call (ok_w_mixed T) T.c_w_mixed (hr.mono (by decide)) rfl T.g_w_mixed passL (pa_cons (pv 0) (pa_cons (pe_listRg rfl (by rfl) T.u_list (prg_2 (by rfl) T.u_range pe_int pe_int)) pa_nil))) (pa_cons (pe_lst pa_nil) pa_nil)) (by rfl))
      (pss_cons (ps_for PassesOwn.never rfl (pi_range1 rfl T.u_range (pa_cons (pe_callB (call_lenK K) (by rfl) T.u_len (by decide +kernel) (pa_cons (pv 3) pa_nil)) pa_nil)) (zg 6 sc_w_plain.nd)
      (pss_cons (ps_setLc (i := 7) (own := [("_law_turn", 8)]) rfl sc_w_plain.nd rfl rfl (sw_true rfl rfl rfl (by decide +kernel)) (pi_range1 rfl T.u_range (pa_cons (pe_op op_add pe_int (z_call (ok_w_taken T) T.c_w_taken (hr.mono (by decide)) rfl T.g_w_taken passL (pa_cons (pv 0) (pa_cons pe_int pa_nil)))) pa_nil)) (blkOk_by (own := [("_law_turn", 8)]) (N := n_w_plain) (sc := defScope s_w_plain) (by decide +kernel)) (fun _ _ _ _ _ => (zg 8 sc_w_plain.nd)) (fun _ _ _ _ _ => pts_nil) (fun _ _ _ _ _ => (pe_tup (pa_cons pe_str (pa_cons (pe_op op_add pe_int (z_call (ok_w_taken T) T.c_w_taken (hr.mono (by decide)) rfl T.g_w_taken passL (pa_cons (pv 0) (pa_cons (pv 2) pa_nil)))) pa_nil)))))
      (pss_one (ps_expr (kBM K (pe_bm PySem.F.plainAttrs_list PySem.F.slot_list_append PySem.F.type_list_append mt_append (pv 5) (pa_cons (pe_tup (pa_cons (pe_ix (ix_listK K) (pv 3) (pv 6) (fun _ _ => rfl)) (pa_cons pe_str (pa_cons (pe_ix (ix_listK K) (pv 4) (pv 6) (fun _ _ => rfl)) (pa_cons (pe_callTy (call_tuple_ofK K) (by rfl) T.u_tuple (by decide +kernel) (pa_cons (pv 7) pa_nil)) pa_nil))))) pa_nil)))))))
      (pss_one (ps_ret (pe_callTy (call_tuple_frzK K) (by rfl) T.u_tuple (by decide +kernel) (pa_cons (pv 5) pa_nil))))))), ?_⟩)
  · obtain ⟨r, sc, ns, most, long, rfl, _⟩ := h
    rfl
  obtain ⟨r, sc, ns, most, long, rfl, hrow, m1, m6, g1, g90, q⟩ := h
  show (_ : TS) _ [some (.ref r), some (.int most), some (.int long), none, none, none, none, none, none] H
  try dsimp only [cxOf]
  have hr0 := hrow.ex
  walk_at "rz"
  rename_i l1 hl1 H1 s1 e1
  refine ⟨r, sc, ns, l1, nm6.map V.str, rfl, hrow.same s1, .inl (SqL.of e1), by decide, fun H2 l2 ys f2 row2 hl2 e2 pm => ?_⟩
  obtain ⟨nms, rfl, pn⟩ := perm_strs pm
  have hl2r : l2 ≠ r := fun e => hr0 (by rw [← e]; exact s1.fr.back (A := []) hl2)
  walk_at "rz"
  refine s_take row2 (by omega) (by omega) fun nn H3 nn0 nn1 f3 row3 => ?_
  have e3 := f3.at e2 (by simp [hl2r])
  walk_at "rz"
  refine s_slL (SqL.of e3) fun l4 hl4 => ?_
  rw [show 1 + nn = (((1 + nn).toNat : Nat) : Int) by omega, cut_take, ← List.map_take]
  generalize eH : upd H3 l4 _ = H4
  have s4 := newS hl4 eH
  have e4 := newE eH
  clear eH
  have n6 : nms.length = 6 := pn.length_eq
  have pnd : nms.Nodup := pn.nodup_iff.mpr (by decide)
  have pin : ∀ z ∈ nms, z ∈ nm6 := fun z hz => pn.mem_iff.mp hz
  generalize hN : nms.take (1 + nn).toNat = N at e4
  have hN6 : 1 ≤ N.length ∧ N.length ≤ 6 := by rw [← hN, List.length_take]; omega
  have hNd : N.Nodup := by rw [← hN]; exact pnd.sublist (List.take_sublist _ _)
  have hNi : ∀ z ∈ N, z ∈ nm6 := fun z hz => pin z (by rw [← hN] at hz; exact List.mem_of_mem_take hz)
  have row4 := row3.same s4
  have f14 : Fr [r] H H4 := (s1.fr.trans f2).trans (f3.trans s4.fr)
  have hl40 : H l4 = none := ((s1.fr.trans f2).trans f3 : Fr [r] H H3).back hl4
  have hl4r : l4 ≠ r := fun e => hr0 (by rw [← e]; exact hl40)
  clear e1 e2 e3 pm s1 s4 f2 f3 row2 row3 hl1 hl2 hl2r hl4 hN pn
  walk_at "rz"
  refine s_rg12 ⟨by decide, by decide, by decide, by decide, by decide⟩ fun l5 hl5 => ?_
  rw [rgV_19]
  generalize eH : upd H4 l5 _ = H5
  have s5 := newS hl5 eH
  have e5 := newE eH
  clear eH
  walk_at "rz"
  refine ⟨r, sc, ns, l5, oneTo9.map V.int, rfl, row4.same s5, .inl (SqL.of e5), by decide, fun H6 l6 ys f6 row6 hl6 e6 pm => ?_⟩
  obtain ⟨rks, rfl, pr⟩ := perm_ints pm
  have r9 : rks.length = 9 := pr.length_eq
  have rnd : rks.Nodup := pr.nodup_iff.mpr (by decide)
  have rin : ∀ n ∈ rks, 1 ≤ n ∧ n ≤ 9 := fun n hn => by
    have h := pr.mem_iff.mp hn
    have : ∀ n ∈ oneTo9, 1 ≤ n ∧ n ≤ 9 := by decide
    exact this n h
  have f46 : Fr [r] H4 H6 := s5.fr.trans f6
  have en6 := f46.at e4 (by simp [hl4r])
  have hl60 : H l6 = none := f14.back (s5.fr.back (A := []) hl6)
  have hl6r : l6 ≠ r := fun e => hr0 (by rw [← e]; exact hl60)
  have f16 := f14.trans f46
  clear e4 e5 s5 f6 row4 pm pr hl6 f46
  walk_at "rz"
  rename_i l10 hl10 H10 s10 e10
  have en10 := s10 _ _ en6
  have er10 := s10 _ _ e6
  have row10 := row6.same s10
  have f110 : Fr [r] H H10 := f16.trans s10.fr
  have hl100 : H l10 = none := f16.back hl10
  have hl10r : l10 ≠ r := fun e => hr0 (by rw [← e]; exact hl100)
  have n104 : l10 ≠ l4 := fun e => by rw [e, en6] at hl10; cases hl10
  have n106 : l10 ≠ l6 := fun e => by rw [e, e6] at hl10; cases hl10
  clear en6 e6 row6 s10 hl10
  refine s_lenL (SqL.of en10) ?_
  rw [List.length_map]
  walk_at "rz"
  refine ⟨by omega, by omega, for_range (lo := 0) (n := ((N.length : Nat) : Int).toNat) (fun i σ Ha => ∃ y6 y7, σ = [some (.ref r), some (.int most), some (.int long), some (.ref l4), some (.ref l6), some (.ref l10), y6, y7, none] ∧ Fr [r, l10] H10 Ha ∧ RowAt K Ha r sc ns ∧
    ∃ ls xs, Ha l10 = some (.lst xs) ∧ DpAll K Ha xs (ls.map dLn) ∧ ls.map (·.nm) = N.take i ∧ ls.map (·.rk) = rks.take i ∧ ∀ l ∈ ls, (∀ nk, FitLn nk [] l) ∧ l.kd = "edge" ∧ ∀ s ∈ l.st, s.1 = "run") ⟨_, _, rfl, Fr.refl, row10, [], [], e10, .nil, rfl, rfl, by simp⟩ (fun i σ Ha hi hPv => ?_) (fun σ Ha hPv => ?_)⟩
  case _ =>
    obtain ⟨y6, y7, rfl, fa, rowa, ls, xs, ea, da, hnm, hrk, hfit⟩ := hPv
    rw [Int.toNat_natCast] at hi
    have hi2 : i < rks.length := by omega
    have e0 : (0 + ((i : Nat) : Int)) = i := by omega
    rw [e0]
    walk_at "rz"
    refine s_take rowa (by omega) (by omega) fun nst Hb hst0 hst4 fb rowb => ?_
    have en10b := fb.at (fa.at en10 (by simp [hl4r, Ne.symm n104])) (by simp [hl4r])
    have er10b := fb.at (fa.at er10 (by simp [hl6r, Ne.symm n106])) (by simp [hl6r])
    have eab := fb.at ea (by simp [hl10r])
    have tl : tupds (ls.map dLn) = true := tupds_map tupd_dLn _
    have ts : ∀ l : List (Str × Key), tupds (l.map dSt) = true := fun l => tupds_map tupd_dSt l
    have dab := da.tk fb.tk tl
    walk_at "rz"
    refine ⟨by omega, by omega, lcR_row rowb (by omega) (fun _ (s : Str × Key) => s.1 = ("run" : Str) ∧ ∀ nk, FitSt nk [] s) dSt tupd_dSt (fun j Hc Yes No hj fc rowc yes => ?_) (fun l11 Hd ys st hl11 fd rowd ed hsl hst dd => ?_)⟩
    · walk_at "rz"
      refine ⟨rfl, ?_⟩
      walk_at "rz"
      refine s_take rowc (by omega) (by omega) fun n1 He h1 h2 fe rowe => ?_
      walk_at "rz"
      rename_i t12 ht12 Hf sf ef
      exact yes _ _ (("run" : Str), (Sum.inl (1 + n1) : Key)) (fe.trans sf.fr) (rowe.same sf) ⟨rfl, fun nk => .run (by omega) (by omega)⟩ (.tup (SqT.of ef) (.cons (.str _) (.cons (.int _) .nil)))
    have hst : ∀ s ∈ st, s.1 = ("run" : Str) ∧ ∀ nk, FitSt nk [] s := fun s hs => by
      obtain ⟨_, h⟩ := rel_all hst s hs
      exact h
    have hl11r : l11 ≠ r := fun e => rowb.ex (by rw [← e]; exact hl11)
    have ead := fd.at eab (by simp [hl10r])
    have dad := dab.tk fd.tk tl
    have end_ := fd.at en10b (by simp [hl4r])
    have erd := fd.at er10b (by simp [hl6r])
    walk_at "rz"
    refine s_tyL ead ?_
    walk_at "rz"
    refine s_ixL (SqL.of end_) (atI_nat (gS_map hi)) ?_
    walk_at "rz"
    refine s_ixL (SqL.of erd) (atI_nat (gI_map hi2)) ?_
    walk_at "rz"
    refine ⟨l11, ys, rfl, .inl ⟨SqL.of ed, fun t12 ht12 => ?_⟩⟩
    generalize eH : upd Hd t12 _ = Hf
    have sf := newS ht12 eH
    have ef := newE eH
    clear eH
    walk_at "rz"
    rename_i t13 ht13 Hg sg eg
    have eag := sg _ _ (sf _ _ ead)
    have hxl : xs.length = i := by
      have h1 := da.len
      have h2 := congrArg List.length hnm
      rw [List.length_map] at h1
      rw [List.length_map, List.length_take] at h2
      omega
    refine s_append eag (by rw [sizeLine_eq]; omega) ?_
    generalize eH : upd Hg l10 _ = Hh
    have fh : Fr [l10] Hg Hh := by rw [← eH]; exact Fr.upd (by simp) eag rfl
    have eh := newE eH
    clear eH
    walk_at "rz"
    have sfg := sf.trans sg
    have fag : Fr [r] Ha Hg := (fb.trans fd).trans sfg.fr
    have dst := dd.same sfg
    have d13 : Dp K Hg (.ref t13) (dLn ⟨gS N i, "edge", gI rks i, st⟩) := .tup (SqT.of eg) (.cons (.str _) (.cons (.str _) (.cons (.int _) (.cons (.tup (sg.sqT (SqT.of ef)) dst) .nil))))
    have stl : st.length = (1 + nst).toNat := hsl
    refine ⟨_, _, rfl, (fa.trans (fag.mono (by simp))).trans (fh.mono (by simp)), hrow.kept (rowd.same sfg) fh (by simp [hl100]), ls ++ [⟨gS N i, "edge", gI rks i, st⟩], _, eh, ?_, ?_, ?_, fun l hl => ?_⟩
    · rw [List.map_append]
      exact ((dad.same sfg).tk fh.tk tl).app (.cons (d13.tk fh.tk (tupd_dLn _)) .nil)
    · rw [List.map_append, hnm, List.take_add_one, gS_eq hi]
      rfl
    · rw [List.map_append, hrk, List.take_add_one, gI_eq hi2]
      rfl
    · rcases List.mem_append.mp hl with hl | hl
      · exact hfit l hl
      · rw [List.mem_singleton.mp hl]
        have hrb := rin _ (List.mem_of_getElem? (gI_eq hi2))
        refine ⟨fun nk => ⟨nm6_A _ (hNi _ (List.mem_of_getElem? (gS_eq hi))), .inl rfl, hrb.1, hrb.2, fun e => ?_, by show st.length ≤ 8; omega, fun s hs => (hst s hs).2 nk⟩, rfl, fun s hs => (hst s hs).1⟩
        have e : st = [] := e
        rw [e] at stl
        simp only [List.length_nil] at stl
        omega
  case _ =>
    obtain ⟨y6, y7, rfl, fa, rowa, ls, xs, ea, da, hnm, hrk, hfit⟩ := hPv
    rw [Int.toNat_natCast, List.take_length] at hnm
    rw [Int.toNat_natCast] at hrk
    have fra : Fr [r] H Ha := f110.seq fa (fun a ha => by
      simp only [List.mem_cons, List.not_mem_nil, or_false] at ha
      rcases ha with rfl | rfl
      · exact .inl (by simp)
      · exact .inr hl100)
    walk_at "rz"
    refine ⟨l10, xs, rfl, SqL.of ea, fun t12 o12 ht12 ho12 => ?_⟩
    generalize eH : upd Ha t12 _ = Hc
    have sc1 := newS ht12 eH
    have ec := newE eH
    clear eH
    refine q t12 ⟨ls, []⟩ Hc (fra.trans sc1.fr) (rowa.same sc1) ⟨rfl, fun l hl => (hfit l hl).1 _, ?_, ?_, ?_, ?_, fun l hl => (hfit l hl).2.1, fun l hl => (hfit l hl).2.2⟩ (.tup (FrzT.sqT ⟨o12, ec, ho12⟩) (da.same sc1)) ⟨_, o12, ec, ho12⟩
    · show (ls.map (·.nm)).Nodup
      rw [hnm]
      exact hNd
    · show ls ≠ []
      rintro rfl
      rw [← hnm] at hN6
      simp at hN6
    · show ∀ z ∈ ls.map (·.nm), z ∈ nm6
      rw [hnm]
      exact hNi
    · show (ls.map (·.rk)).Nodup
      rw [hrk]
      exact rnd.sublist (List.take_sublist _ _)
end
end T
set_option maxHeartbeats 2000000
namespace T
open PySem PySem.Spec PyProof.Rows L2 Z
open He (ga ma)
def lx (l : Ln) : Lx := (l.nm, l.kd, .int l.rk, l.st.map dSt)
def wx (w : Wk) : Wx := (w.nm, .int w.rk, .int w.tk)
def tcB (z : Str) (s : Str × Key) : Bool := inV (.str s.1) lineWords && decide (s.2 = .inr z)
theorem mem_tch {z : Str} : ∀ (l : List (Str × Key)) (acc : List Str), z ∈ l.foldl tchS acc ↔ z ∈ acc ∨ l.any (tcB z) = true
  | [], acc => by simp
  | (w, k) :: l, acc => by
    rw [List.foldl_cons, mem_tch l, List.any_cons, Bool.or_eq_true]
    have : z ∈ tchS acc (w, k) ↔ z ∈ acc ∨ tcB z (w, k) = true := by
      unfold tchS tcB
      cases k with
      | inl i => simp
      | inr y =>
        show z ∈ (if _ then _ else _ : List Str) ↔ _
        dsimp only
        by_cases h1 : inV (.str w) lineWords = true
        · by_cases h2 : y ∈ acc
          · rw [if_neg fun h => h.2 h2]
            constructor
            · exact .inl
            · rintro (h | h)
              · exact h
              · rw [Bool.and_eq_true] at h
                have := of_decide_eq_true h.2
                rw [← Sum.inr.inj this]
                exact h2
          · rw [if_pos ⟨h1, h2⟩, List.mem_append, List.mem_singleton, h1, Bool.true_and, decide_eq_true_eq]
            constructor
            · rintro (h | h)
              · exact .inl h
              · exact .inr (by rw [h])
            · rintro (h | h)
              · exact .inl h
              · exact .inr (Sum.inr.inj h).symm
        · rw [if_neg fun h => h1 h.1, Bool.eq_false_iff.mpr h1]
          simp
    rw [this, or_assoc]
theorem tch_any {z : Str} {l : List (Str × Key)} : z ∈ tch l ↔ l.any (tcB z) = true := by
  rw [show (z ∈ tch l ↔ l.any (tcB z) = true) = (z ∈ l.foldl tchS [] ↔ l.any (tcB z) = true) from rfl, mem_tch]
  simp
theorem kinds_lx (ls : List Ln) : kindsX (ls.map lx) = ls.map fun l => ((.inr l.nm : Key), V.str l.kd) := by
  unfold kindsX
  rw [List.map_map]
  rfl
theorem val_left {P : Pl} {z y : Str} (h : y ≠ z) : valV (kindsX ((leftL P z).map lx)) (.inr y) = valV P.kinds (.inr y) := by
  rw [kinds_lx]
  unfold valV Pl.kinds leftL
  rw [List.find?_map, List.find?_map, List.find?_filter]
  congr 2
  refine congrArg (fun f => List.find? f P.ls) (funext fun a => ?_)
  show decide ((!decide (a.nm = z)) = true ∧ decide ((.inr a.nm : Key) = .inr y) = true) = decide ((.inr a.nm : Key) = .inr y)
  by_cases e : a.nm = y
  · rw [e, decide_eq_false h]
    simp
  · rw [decide_eq_false fun k => e (Sum.inr.inj k)]
    simp
theorem val_gone {P : Pl} {z : Str} : valV (kindsX ((leftL P z).map lx)) (.inr z) = none := by
  rw [kinds_lx]
  unfold valV
  rw [Option.map_eq_none_iff, List.find?_eq_none]
  intro kv hkv e
  obtain ⟨l, hl, rfl⟩ := List.mem_map.mp hkv
  have h1 := (List.mem_filter.mp hl).2
  have h2 : l.nm = z := Sum.inr.inj (of_decide_eq_true e)
  rw [h2] at h1
  simp at h1
theorem step_left {P : Pl} {z : Str} {s : Str × Key} (h : isStep P.kinds (P.wnames.map V.str) (dSt s) = true) : isStep (kindsX ((leftL P z).map lx)) (P.wnames.map V.str) (dSt s) = !tcB z s := by
  obtain ⟨w, k⟩ := s
  have h : isStepX P.kinds (P.wnames.map V.str) w (kD k) = true := h
  show isStepX _ _ w (kD k) = !(inV (.str w) lineWords && decide (k = .inr z))
  by_cases hw : inV (.str w) lineWords = true
  · rw [hw, Bool.true_and]
    unfold isStepX at h ⊢
    rw [if_pos hw] at h ⊢
    cases k with
    | inl i => cases h
    | inr y =>
      by_cases e : y = z
      · subst e
        show ((valV (kindsX ((leftL P y).map lx)) (.inr y)).isSome && _) = _
        rw [val_gone, decide_eq_true rfl]
        rfl
      · rw [decide_eq_false fun k => e (Sum.inr.inj k)]
        show ((valV (kindsX ((leftL P z).map lx)) (.inr y)).isSome && (_ || decide (valV (kindsX ((leftL P z).map lx)) (.inr y) = _))) = true
        rw [val_left e]
        exact h
  · rw [Bool.eq_false_iff.mpr hw, Bool.false_and]
    unfold isStepX at h ⊢
    rw [if_neg hw] at h ⊢
    exact h
theorem all_left {P : Pl} (ok : P.Ok) {z : Str} {l : Ln} (hl : l ∈ P.ls) : (lx l).2.2.2.all (isStep (kindsX ((leftL P z).map lx)) ((P.ws.map wx).map fun x => V.str x.1)) = !decide (z ∈ tch l.st) := by
  have e : ((P.ws.map wx).map fun x => V.str x.1) = P.wnames.map V.str := by
    rw [List.map_map]
    unfold Pl.wnames
    rw [List.map_map]
    rfl
  rw [e]
  show (l.st.map dSt).all _ = _
  rw [List.all_map]
  by_cases h : z ∈ tch l.st
  · rw [decide_eq_true h]
    rw [tch_any, List.any_eq_true] at h
    obtain ⟨s, hs, ht⟩ := h
    show _ = false
    rw [List.all_eq_false]
    refine ⟨s, hs, ?_⟩
    show ¬ isStep _ _ (dSt s) = true
    rw [step_left (ok.sok l hl s hs), ht]
    decide
  · rw [decide_eq_false h]
    show _ = true
    rw [List.all_eq_true]
    intro s hs
    show isStep _ _ (dSt s) = true
    rw [step_left (ok.sok l hl s hs)]
    cases ht : tcB z s with
    | false => rfl
    | true => exact absurd (tch_any.mpr (List.any_eq_true.mpr ⟨s, hs, ht⟩)) h
theorem works_good {P : Pl} (ok : P.Ok) : GoodL isWork 8 (P.ws.map dWk) := ⟨by rw [List.length_map]; exact ok.w8, fun d hd => by
  obtain ⟨w, hw, rfl⟩ := List.mem_map.mp hd
  exact ok.wok w hw, by rw [List.map_map]; exact ok.wnd⟩
theorem works_short {P : Pl} (ok : P.Ok) : shorts (P.ws.map dWk) = true := shorts_map fun w hw => (ok.shw w hw).1
theorem left_good {P : Pl} (ok : P.Ok) (z : Str) : GoodL isLine 12 ((leftL P z).map dLn) := ⟨by
  rw [List.length_map]
  exact Nat.le_trans (List.length_filter_le _ _) ok.l12, fun d hd => by
  obtain ⟨l, hl, rfl⟩ := List.mem_map.mp hd
  exact ok.lok l (List.mem_filter.mp hl).1, by
  rw [List.map_map]
  exact ok.lnd.sublist ((List.filter_sublist).map _)⟩
theorem left_short {P : Pl} (ok : P.Ok) (z : Str) : shorts ((leftL P z).map dLn) = true := shorts_map fun l hl => ok.shl l (List.mem_filter.mp hl).1
theorem less_ok {P : Pl} (ok : P.Ok) {z : Str} (h0 : ¬ (leftL P z).length = 0) (hb : (List.range (leftL P z).length).filter (badI (leftL P z) z) = []) : (lessP P z).Ok := by
  have g := left_good ok z
  have no : ∀ l ∈ leftL P z, z ∉ tch l.st := fun l hl hz => by
    obtain ⟨k, hk, e⟩ := List.getElem_of_mem hl
    have := List.filter_eq_nil_iff.mp hb k (List.mem_range.mpr hk)
    refine this ?_
    unfold badI
    rw [List.getElem?_eq_getElem hk, e]
    exact decide_eq_true hz
  have ek : (lessP P z).kinds = kindsX ((leftL P z).map lx) := by rw [kinds_lx]; rfl
  refine ⟨fun e => h0 (by rw [show leftL P z = [] from e]; rfl), by have := g.le; rw [List.length_map] at this; exact this, ok.w8, fun l hl => ok.lok l (List.mem_filter.mp hl).1, ok.wok, ?_, ok.wnd, fun l hl s hs => ?_, fun l hl => ok.shl l (List.mem_filter.mp hl).1, ok.shw⟩
  · have := g.nd
    rw [List.map_map] at this
    exact this
  · have hm := (List.mem_filter.mp hl).1
    rw [ek]
    show isStep _ (P.wnames.map V.str) (dSt s) = true
    rw [step_left (ok.sok l hm s hs)]
    cases ht : tcB z s with
    | false => rfl
    | true => exact absurd (tch_any.mpr (List.any_eq_true.mpr ⟨s, hs, ht⟩)) (no l hl)
theorem less_none {P : Pl} (ok : P.Ok) {z : Str} (h : lessD P z = .none) : (lessP P z).Ok := by
  unfold lessD at h
  split at h
  · cases h
  · rename_i h0
    split at h
    · cases h
    · rename_i hb
      exact less_ok ok h0 hb
theorem less_ref {P : Pl} (ok : P.Ok) {z : Str} (h : lessD P z ≠ .none) : ∃ (p : Str) (k : Nat), (p = "lines" ∨ p = "handlers") ∧ k ≤ 12 ∧ lessD P z = .tuple [.str "setup", .str p, .int (k : Nat)] ∧
    ∀ (K : Fg) H (E : XK), (∀ dx H', Same H H' → H' dx = some (xdS p k) → E (.ref (ga K "InvalidSetup")) (some dx) H') → RefS K (.tuple ((lessP P z).ls.map dLn)) (.tuple (P.ws.map dWk)) H E := by
  unfold lessD at h ⊢
  split
  · rename_i h0
    refine ⟨"lines", 0, .inl rfl, by decide, rfl, fun K H E hE => ⟨"lines", 0, hE, .inl ⟨rfl, rfl, .inr ?_⟩⟩⟩
    have : (lessP P z).ls = [] := List.eq_nil_of_length_eq_zero h0
    rw [this]
    rfl
  · rename_i h0
    rw [if_neg h0] at h
    have g := left_good ok z
    have l12 : (leftL P z).length ≤ 12 := by have := g.le; rw [List.length_map] at this; exact this
    cases hf : (List.range (leftL P z).length).filter (badI (leftL P z) z) with
    | nil => rw [hf] at h; exact absurd rfl h
    | cons k r =>
      have hm : k ∈ (List.range (leftL P z).length).filter (badI (leftL P z) z) := by rw [hf]; exact List.mem_cons_self
      obtain ⟨hk1, hk2⟩ := List.mem_filter.mp hm
      have hk1 := List.mem_range.mp hk1
      refine ⟨"handlers", k, .inr rfl, by omega, rfl, fun K H E hE => ⟨"handlers", k, hE, .inr ⟨_, rfl, fun e => h0 ?_, left_short ok z, .inr ⟨g, .inr ⟨_, rfl, works_short ok, .inr ⟨works_good ok, rfl, (leftL P z).map lx, ?_, P.ws.map wx, ?_, ?_, fun j x hj hx => ?_⟩⟩⟩⟩⟩⟩
      · have := congrArg List.length e
        rw [List.length_map] at this
        exact this
      · rw [List.map_map]
        rfl
      · rw [List.map_map]
        rfl
      · refine ⟨lx (leftL P z)[k], by rw [List.getElem?_map, List.getElem?_eq_getElem hk1]; rfl, ?_⟩
        have hl : (leftL P z)[k] ∈ P.ls := (List.mem_filter.mp (List.getElem_mem hk1)).1
        rw [all_left ok hl]
        have : decide (z ∈ tch ((leftL P z)[k]).st) = true := by
          unfold badI at hk2
          rw [List.getElem?_eq_getElem hk1] at hk2
          exact hk2
        rw [this]
        rfl
      · rw [List.getElem?_map] at hx
        obtain ⟨l, hl, rfl⟩ := Option.map_eq_some_iff.mp hx
        have hlm := (List.mem_filter.mp (List.mem_of_getElem? hl)).1
        rw [all_left ok hlm]
        have : ¬ badI (leftL P z) z j = true := fun hb => by
          have hjm : j ∈ (List.range (leftL P z).length).filter (badI (leftL P z) z) := List.mem_filter.mpr ⟨List.mem_range.mpr (by omega), hb⟩
          rw [hf] at hjm
          have hp : ((List.range (leftL P z).length).filter (badI (leftL P z) z)).Pairwise (· < ·) := (List.pairwise_lt_range).filter _
          rw [hf, List.pairwise_cons] at hp
          rcases List.mem_cons.mp hjm with e | e
          · omega
          · have := hp.1 j e
            omega
        unfold badI at this
        rw [hl] at this
        have : decide (z ∈ tch l.st) = false := Bool.eq_false_iff.mpr this
        rw [this]
        rfl
def rankL (z : Str) (k : Int) (l : Ln) : Ln := if l.nm = z then ⟨l.nm, l.kd, k, l.st⟩ else l
def rankP (P : Pl) (z : Str) (k : Int) : Pl := ⟨P.ls.map (rankL z k), P.ws⟩
theorem rankL_nm (z : Str) (k : Int) (l : Ln) : (rankL z k l).nm = l.nm := by unfold rankL; split <;> rfl
theorem rankL_kd (z : Str) (k : Int) (l : Ln) : (rankL z k l).kd = l.kd := by unfold rankL; split <;> rfl
theorem rankL_st (z : Str) (k : Int) (l : Ln) : (rankL z k l).st = l.st := by unfold rankL; split <;> rfl
theorem dLn_rank (z : Str) (k : Int) (l : Ln) : dLn (rankL z k l) = rankD z k l := by
  unfold rankL rankD
  split <;> rfl
theorem rank_data (P : Pl) (z : Str) (k : Int) : (rankP P z k).ls.map dLn = P.ls.map (rankD z k) := by
  show (P.ls.map (rankL z k)).map dLn = _
  rw [List.map_map]
  exact List.map_congr_left fun l _ => dLn_rank z k l
theorem short_rank {z : Str} {k : Int} {l : Ln} (h : short (dLn l) = true) : short (rankD z k l) = true := by
  unfold rankD
  split
  · exact h
  · exact h
theorem rank_ok {P : Pl} (ok : P.Ok) {z : Str} {k : Int} (k1 : 1 ≤ k) (k9 : k ≤ 9) : (rankP P z k).Ok := by
  have en : (rankP P z k).names = P.names := by
    show (P.ls.map (rankL z k)).map (·.nm) = P.ls.map (·.nm)
    rw [List.map_map]
    exact List.map_congr_left fun l _ => rankL_nm z k l
  have ek : (rankP P z k).kinds = P.kinds := by
    show (P.ls.map (rankL z k)).map _ = P.ls.map _
    rw [List.map_map]
    exact List.map_congr_left fun l _ => by show ((.inr (rankL z k l).nm : Key), V.str (rankL z k l).kd) = _; rw [rankL_nm, rankL_kd]
  refine ⟨fun e => ok.ne (List.map_eq_nil_iff.mp e), by show (P.ls.map _).length ≤ 12; rw [List.length_map]; exact ok.l12, ok.w8, fun l hl => ?_, ok.wok, by rw [en]; exact ok.lnd, ok.wnd, fun l hl s hs => ?_, fun l hl => ?_, ok.shw⟩
  · obtain ⟨l, hm, rfl⟩ := List.mem_map.mp hl
    have g := ok.lok l hm
    unfold rankL
    split
    · have g : (isName (.str l.nm) && (isKind (.str l.kd) && (isIntD 1 9 (.int l.rk) && isSteps 8 (.tuple (l.st.map dSt))))) = true := g
      show (isName (.str l.nm) && (isKind (.str l.kd) && (isIntD 1 9 (.int k) && isSteps 8 (.tuple (l.st.map dSt))))) = true
      simp only [Bool.and_eq_true] at g
      rw [g.1, g.2.1, g.2.2.2, show isIntD 1 9 (.int k) = true from decide_eq_true ⟨k1, k9⟩]
      rfl
    · exact g
  · obtain ⟨l, hm, rfl⟩ := List.mem_map.mp hl
    rw [rankL_st] at hs
    rw [ek]
    exact ok.sok l hm s hs
  · obtain ⟨l, hm, rfl⟩ := List.mem_map.mp hl
    rw [dLn_rank]
    exact short_rank (ok.shl l hm)
theorem rank_ref {P : Pl} (ok : P.Ok) {i : Nat} {l : Ln} (hl : P.ls[i]? = some l) {k : Int} (hk : ¬ (1 ≤ k ∧ k ≤ 9)) (K : Fg) (H : Hp) (E : XK) (hE : ∀ dx H', Same H H' → H' dx = some (xdS "lines" i) → E (.ref (ga K "InvalidSetup")) (some dx) H') : RefS K (.tuple (P.ls.map (rankD l.nm k))) (.tuple (P.ws.map dWk)) H E := by
  have hi : i < P.ls.length := (List.getElem?_eq_some_iff.mp hl).1
  have l12 := ok.l12
  have far : ∀ j l', j < i → P.ls[j]? = some l' → rankD l.nm k l' = dLn l' := fun j l' hj hl' => by
    unfold rankD
    refine if_neg fun e => ?_
    have nd := ok.lnd
    have h1 : P.names[j]? = some l.nm := by unfold Pl.names; rw [List.getElem?_map, hl', ← e]; rfl
    have h2 : P.names[i]? = some l.nm := by unfold Pl.names; rw [List.getElem?_map, hl]; rfl
    have lj : j < P.names.length := (List.getElem?_eq_some_iff.mp h1).1
    have := (List.getElem?_inj lj nd).mp (h1.trans h2.symm)
    omega
  have tk : (P.ls.map (rankD l.nm k)).take i = (P.ls.take i).map dLn := by
    rw [← List.map_take]
    refine List.map_congr_left fun l' hl' => ?_
    obtain ⟨j, hj, e⟩ := List.getElem_of_mem hl'
    rw [List.length_take] at hj
    rw [List.getElem_take] at e
    exact far j l' (by omega) (by rw [← e]; exact List.getElem?_eq_getElem (by omega))
  refine ⟨"lines", i, hE, .inr ⟨_, rfl, fun e => ok.ne (List.map_eq_nil_iff.mp e), shorts_map fun l hl => short_rank (ok.shl l hl), .inl ⟨rfl, by omega, ⟨_, by rw [List.getElem?_map, hl]; rfl, .inr (.inl ?_)⟩, fun d hd => ?_, ?_⟩⟩⟩
  · unfold rankD
    rw [if_pos rfl]
    show (isName (.str l.nm) && (isKind (.str l.kd) && (isIntD 1 9 (.int k) && isSteps 8 (.tuple (l.st.map dSt))))) = false
    rw [show isIntD 1 9 (.int k) = false from decide_eq_false hk]
    simp
  · rw [tk] at hd
    obtain ⟨l', hl', rfl⟩ := List.mem_map.mp hd
    exact ok.lok l' (List.mem_of_mem_take hl')
  · rw [tk, List.map_map]
    exact ok.lnd.sublist ((List.take_sublist _ _).map _)
end T
set_option maxHeartbeats 4000000
namespace T
open PySem PySem.Spec PyProof.Rows L2 Z
open He (ga ma)
open LamX (TabS)
local macro_rules | `(tactic| walk_at "z") => `(tactic| with_reducible first | refine ⟨_, _, rfl, rfl, ?_⟩ | refine ⟨_, rfl, ?_⟩)
local macro_rules | `(tactic| walk_at "z") => `(tactic| ((with_reducible refine s_isi (d := ?d1) ?h1 ?h2 ?q1); (case h1 => first | assumption | constructor); (case h2 => decide)))
local macro_rules | `(tactic| walk_at "z") => `(tactic| with_reducible first | refine s_tup ?_ | refine s_lst ?_)
local macro_rules | `(tactic| walk_at "z") => `(tactic| ((with_reducible refine s_ne ?h1 ?q1); (case h1 => exact rfl)))
local macro_rules | `(tactic| walk_at "z") => `(tactic| ((with_reducible refine s_eq ?h1 ?q1); (case h1 => exact rfl)))
local macro_rules | `(tactic| walk_at "z") => `(tactic| with_reducible first | refine s_dcT ?_ | refine s_cvalg ?_ | refine s_fldS ?_ | refine s_I0 ?_ | refine s_U ?_)
local macro_rules | `(tactic| walk_at "z") => `(tactic| with_reducible first | refine s_make ?_ | refine s_sl ?_ | refine s_nop ?_ | refine s_part ?_ | refine s_lcE ?_ | refine s_lc ?_)
local macro_rules | `(tactic| walk_at "z") => `(tactic| with_reducible first | refine s_for ?_ | refine s_rng1 ?_ | refine s_iT ?_ | refine s_iL ?_ | refine Or.inl (Exists.intro _ (And.intro rfl ?_)) | refine Or.inr (Exists.intro _ (And.intro rfl ?_)))
local macro_rules | `(tactic| walk_at "z") => `(tactic| with_reducible first | refine s_tupRg ?_ | refine s_lstRg ?_ | refine s_rg1 ?_ | refine s_items ?_ | refine s_get2 ?_ | refine s_callI ?_)
local macro_rules | `(tactic| walk_at "z") => `(tactic| with_reducible first | refine s_fldaug ?_ | refine s_add ?_ | refine s_ipI ?_ | refine s_ixO ?_ | refine s_lcL ?_ | refine s_dputg ?_)
local macro_rules | `(tactic| walk_at "z") => `(tactic| with_reducible first | refine s_daugg ?_ | refine s_disp ?_ | refine s_pcons ?_ | refine s_pnil ?_ | refine s_gsub ?_ | refine s_augS ?_)
local macro_rules | `(tactic| walk_at "z") => `(tactic| with_reducible first | refine s_bm ?_ | refine s_bm0 ?_ | refine s_fldg ?_ | refine s_meth ?_ | refine s_prop ?_ | refine s_lcT ?_)
local macro_rules | `(tactic| walk_at "z") => `(tactic| with_reducible first | refine s_yes ?_ | refine s_gcons ?_ | refine s_gnil ?_ | refine s_din ?_ | refine s_dnin ?_ | refine s_dget ?_)
local macro_rules | `(tactic| walk_at "z") => `(tactic| with_reducible first | refine s_orV ?_ | refine s_notV ?_ | refine s_if ?_ | refine s_chain ?_ | refine s_call ?_ | refine s_bl ?_)
local macro_rules | `(tactic| walk_at "z") => `(tactic| with_reducible first | refine s_test ?_ | refine s_B ?_ | refine s_and ?_ | refine s_or ?_ | refine s_not ?_ | refine s_andV ?_)
local macro_rules | `(tactic| walk_at "z") => `(tactic| with_reducible first | refine s_op ?_ | refine s_un ?_ | refine s_cb ?_ | refine s_cons ?_ | refine s_nil ?_ | refine s_star ?_)
local macro_rules | `(tactic| walk_at "z") => `(tactic| ((with_reducible refine s_var (v := ?v1) ?h1 ?q1); (case h1 => exact rfl)))
local macro_rules | `(tactic| walk_at "z") => `(tactic| with_reducible refine s_c ?_)
local macro_rules | `(tactic| walk_at "z") => `(tactic| with_reducible first | refine s_drop ?_ | refine s_next ?_ | refine s_cont ?_ | refine s_break ?_ | refine s_par ?_ | refine s_par2 ?_)
local macro_rules | `(tactic| walk_at "z") => `(tactic| with_reducible first | refine s_seq ?_ | refine s_asg ?_ | refine s_gname ?_ | refine s_ret ?_ | refine s_retN ?_ | refine s_ifS ?_)
local macro_rules | `(tactic| walk_at "zi") => `(tactic| ((with_reducible refine ite_t ?h1 ?q1); (case h1 => rfl)))
local macro_rules | `(tactic| walk_at "zi") => `(tactic| ((with_reducible refine ite_f ?h1 ?q1); (case h1 => rfl)))
local macro_rules | `(tactic| walk_at "zi") => `(tactic| walk_at "z")
local macro_rules | `(tactic| walk_at "zn") => `(tactic| (intro p hp; generalize eH : upd _ p _ = H2; have s2 := newS hp eH; have e2 := newE eH; clear eH))
local macro_rules | `(tactic| walk_at "zt") => `(tactic| ((with_reducible refine And.intro ?h1 ?_); (case h1 => exact Nat.le_of_ble_eq_true rfl); intro p hp; generalize eH : upd _ p _ = H2; have s2 := newS hp eH; have e2 := newE eH; clear eH))
local macro_rules | `(tactic| walk_at "hl") => `(tactic| ((with_reducible apply ev_same); (· assumption); · walk_at "hl"))
local macro_rules | `(tactic| walk_at "hl") => `(tactic| ((with_reducible apply mh_same); (· assumption); · walk_at "hl"))
local macro_rules | `(tactic| walk_at "hl") => `(tactic| ((with_reducible apply hs_same); (· assumption); · walk_at "hl"))
local macro_rules | `(tactic| walk_at "hl") => `(tactic| ((with_reducible apply mst_same); (· assumption); · walk_at "hl"))
local macro_rules | `(tactic| walk_at "hl") => `(tactic| ((with_reducible apply plm_same); (· assumption); · walk_at "hl"))
local macro_rules | `(tactic| walk_at "hl") => `(tactic| ((with_reducible apply md_same); (· assumption); · walk_at "hl"))
local macro_rules | `(tactic| walk_at "hl") => `(tactic| ((with_reducible apply row_same); (· assumption); · walk_at "hl"))
local macro_rules | `(tactic| walk_at "hl") => `(tactic| ((with_reducible apply sg_same); (· assumption); · walk_at "hl"))
local macro_rules | `(tactic| walk_at "hl") => `(tactic| ((with_reducible apply cst_same); (· assumption); · walk_at "hl"))
local macro_rules | `(tactic| walk_at "hl") => `(tactic| ((with_reducible apply co_same); (· assumption); · walk_at "hl"))
local macro_rules | `(tactic| walk_at "hl") => `(tactic| ((with_reducible apply bd_same); (· assumption); · walk_at "hl"))
local macro_rules | `(tactic| walk_at "hl") => `(tactic| ((with_reducible apply pl_same); (· assumption); · walk_at "hl"))
local macro_rules | `(tactic| walk_at "hl") => `(tactic| ((with_reducible apply dpA_same); (· assumption); · walk_at "hl"))
local macro_rules | `(tactic| walk_at "hl") => `(tactic| ((with_reducible apply dp_same); (· assumption); · walk_at "hl"))
local macro_rules | `(tactic| walk_at "hl") => `(tactic| ((with_reducible apply SqL.of); · walk_at "hl"))
local macro_rules | `(tactic| walk_at "hl") => `(tactic| ((with_reducible apply SqT.of); · walk_at "hl"))
local macro_rules | `(tactic| walk_at "hl") => `(tactic| ((with_reducible apply sqL_same); (· assumption); · walk_at "hl"))
local macro_rules | `(tactic| walk_at "hl") => `(tactic| ((with_reducible apply sqT_same); (· assumption); · walk_at "hl"))
local macro_rules | `(tactic| walk_at "hl") => `(tactic| ((with_reducible apply at_same); (· assumption); · walk_at "hl"))
local macro_rules | `(tactic| walk_at "hl") => `(tactic| assumption)
local macro_rules | `(tactic| walk_at "lk") => `(tactic| with_reducible first | exact coF_fr | exact coF_lim | exact coF_jo)
local macro_rules | `(tactic| walk_at "lk") => `(tactic| with_reducible first | exact bdF_hi | exact bdF_ta | exact bdF_ra | exact bdF_jo | exact sgF_plan | exact sgF_board | exact sgF_core | exact sgF_time | exact sgF_sums | exact coF_plan)
local macro_rules | `(tactic| walk_at "lk") => `(tactic| with_reducible first | exact hsF_mo | exact hsF_tu | exact hsF_rc | exact hsF_ho | exact hsF_bs | exact hsF_ds | exact hsF_ev | exact bdF_plan | exact bdF_sh | exact bdF_wa)
local macro_rules | `(tactic| walk_at "lk") => `(tactic| with_reducible first | exact bdF_re | exact bdF_wt | exact hsF_plan | exact hsF_size | exact hsF_rr | exact hsF_sr | exact hsF_wy | exact hsF_li | exact hsF_bd | exact hsF_co)
local macro_rules | `(tactic| walk_at "lk") => `(tactic| with_reducible first | exact wvF_plan | exact wvF_size | exact plF_lr | exact plF_wr | exact plF_rn | exact plF_wn | exact bdF_tm | exact bdF_hr | exact bdF_sp | exact bdF_ru)
local macro_rules | `(tactic| walk_at "mk") => `(tactic| with_reducible first | exact mk_bar | exact mk_jo | exact mk_now | exact mk_lg | exact mk_sp | exact mk_jn | exact mk_ln | exact mk_wk)
local macro_rules | `(tactic| walk_at "mk") => `(tactic| with_reducible first | exact mh_times | exact mh_done | exact mc_ca | exact mc_bar | exact mc_jo | exact mk_ca | exact mk_ed | exact mk_hi | exact mk_up | exact mk_sh)
local macro_rules | `(tactic| walk_at "mk") => `(tactic| with_reducible first | exact mh_fates | exact mh_lines | exact mh_works | exact mh_routes | exact mh_storms | exact mh_spots | exact mh_turns | exact mh_holds | exact mh_last | exact mh_begun)
local macro_rules | `(tactic| walk_at "mk") => `(tactic| with_reducible first | exact mh_modes | exact mh_cores | exact mh_now | exact mh_order | exact mh_shut | exact mh_wanted | exact mh_high | exact mh_flags | exact mh_log | exact mh_rings)
local macro_rules | `(tactic| walk_at "cl") => `(tactic| with_reducible first | exact Txt.cl_InvalidSetup (by assumption) | exact Txt.cl_UnknownLine (by assumption) | exact Txt.cl_Setup (by assumption))
local macro_rules | `(tactic| walk_at "na") => `(tactic| with_reducible first | exact Txt.n_InvalidSetup_part (by assumption) | exact Txt.n_InvalidSetup_index (by assumption) | exact Txt.n_UnknownLine_line (by assumption) | exact Txt.n_Setup_line_rows (by assumption) | exact Txt.n_Setup_work_rows (by assumption) | exact Txt.n_Setup_rows_by_name (by assumption) | exact Txt.n_Setup_works_by_name (by assumption))
local macro_rules | `(tactic| walk_at "zz") => `(tactic| walk_at "zt")
local macro_rules | `(tactic| walk_at "zz") => `(tactic| ((with_reducible apply s_dgS); (· walk_at "hl"); (· walk_at "mk")))
local macro_rules | `(tactic| walk_at "zz") => `(tactic| ((with_reducible apply s_ixL); (· walk_at "hl"); (· with_reducible first | exact at0 | exact at1 | exact at2 | exact at3 | exact at4)))
local macro_rules | `(tactic| walk_at "zz") => `(tactic| ((with_reducible apply s_ixT); (· walk_at "hl"); (· with_reducible first | exact at0 | exact at1 | exact at2 | exact at3 | exact at4)))
local macro_rules | `(tactic| walk_at "zz") => `(tactic| ((with_reducible apply s_propat); (· walk_at "hl")))
local macro_rules | `(tactic| walk_at "zz") => `(tactic| ((with_reducible apply s_methat); (· walk_at "hl"); (· kernel_rfl)))
local macro_rules | `(tactic| walk_at "zz") => `(tactic| ((with_reducible apply s_fldat); (· walk_at "hl"); (· walk_at "cl"); (· walk_at "na"); (· walk_at "lk")))
local macro_rules | `(tactic| walk_at "zz") => `(tactic| walk_at "zi")
local macro_rules | `(tactic| walk_at "orz") => `(tactic| walk_at "zt")
local macro_rules | `(tactic| walk_at "orz") => `(tactic| ((with_reducible apply s_dgS); (· walk_at "hl"); (· walk_at "mk")))
local macro_rules | `(tactic| walk_at "orz") => `(tactic| ((with_reducible apply s_ixL); (· walk_at "hl"); (· with_reducible first | exact at0 | exact at1 | exact at2 | exact at3 | exact at4)))
local macro_rules | `(tactic| walk_at "orz") => `(tactic| ((with_reducible apply s_ixT); (· walk_at "hl"); (· with_reducible first | exact at0 | exact at1 | exact at2 | exact at3 | exact at4)))
local macro_rules | `(tactic| walk_at "orz") => `(tactic| ((with_reducible apply s_propat); (· walk_at "hl")))
local macro_rules | `(tactic| walk_at "orz") => `(tactic| ((with_reducible apply s_methat); (· walk_at "hl"); (· kernel_rfl)))
local macro_rules | `(tactic| walk_at "orz") => `(tactic| ((with_reducible apply s_fldat); (· walk_at "hl"); (· walk_at "cl"); (· walk_at "na"); (· walk_at "lk")))
local macro_rules | `(tactic| walk_at "orz") => `(tactic| ((with_reducible apply ite_t); (· rfl)))
local macro_rules | `(tactic| walk_at "orz") => `(tactic| ((with_reducible apply ite_f); (· rfl)))
local macro_rules | `(tactic| walk_at "orz") => `(tactic| with_reducible first | refine ⟨_, _, rfl, rfl, ?_⟩ | refine ⟨_, rfl, ?_⟩)
local macro_rules | `(tactic| walk_at "orz") => `(tactic| ((with_reducible apply s_isi); (· assumption); (· decide)))
local macro_rules | `(tactic| walk_at "orz") => `(tactic| with_reducible first | refine s_tup ?_ | refine s_lst ?_)
local macro_rules | `(tactic| walk_at "orz") => `(tactic| ((with_reducible apply s_ne); (· exact rfl)))
local macro_rules | `(tactic| walk_at "orz") => `(tactic| ((with_reducible apply s_eq); (· exact rfl)))
local macro_rules | `(tactic| walk_at "orz") => `(tactic| with_reducible first | refine s_lcE ?_ | refine s_lc ?_ | refine s_dcT ?_ | refine s_cvalg ?_ | refine s_I0 ?_ | refine s_U ?_)
local macro_rules | `(tactic| walk_at "orz") => `(tactic| with_reducible first | refine Or.inl (Exists.intro _ (And.intro rfl ?_)) | refine Or.inr (Exists.intro _ (And.intro rfl ?_)) | refine s_make ?_ | refine s_sl ?_ | refine s_nop ?_ | refine s_part ?_)
local macro_rules | `(tactic| walk_at "orz") => `(tactic| with_reducible first | refine s_get2 ?_ | refine s_callI ?_ | refine s_for ?_ | refine s_rng1 ?_ | refine s_iT ?_ | refine s_iL ?_)
local macro_rules | `(tactic| walk_at "orz") => `(tactic| with_reducible first | refine s_lcL ?_ | refine s_dputg ?_ | refine s_tupRg ?_ | refine s_lstRg ?_ | refine s_rg1 ?_ | refine s_items ?_)
local macro_rules | `(tactic| walk_at "orz") => `(tactic| with_reducible first | refine s_daugg ?_ | refine s_disp ?_ | refine s_gsub ?_ | refine s_fldaug ?_ | refine s_ipI ?_ | refine s_ixO ?_)
local macro_rules | `(tactic| walk_at "orz") => `(tactic| with_reducible first | refine s_chain ?_ | refine s_yes ?_ | refine s_din ?_ | refine s_dnin ?_ | refine s_bm0 ?_ | refine s_lcT ?_)
local macro_rules | `(tactic| walk_at "orz") => `(tactic| with_reducible first | refine s_un ?_ | refine s_star ?_ | refine s_and ?_ | refine s_or ?_ | refine s_orV ?_ | refine s_notV ?_)
local macro_rules | `(tactic| walk_at "orz") => `(tactic| with_reducible first | refine s_augS ?_ | refine s_retN ?_ | refine s_cont ?_ | refine s_break ?_ | refine s_par ?_ | refine s_par2 ?_)
local macro_rules | `(tactic| walk_at "orz") => `(tactic| with_reducible first | refine s_andV ?_ | refine s_add ?_ | refine s_prop ?_ | refine s_pnil ?_ | refine s_cb ?_ | refine s_not ?_)
local macro_rules | `(tactic| walk_at "orz") => `(tactic| with_reducible first | refine s_call ?_ | refine s_pcons ?_ | refine s_bm ?_ | refine s_if ?_ | refine s_gcons ?_ | refine s_gnil ?_)
local macro_rules | `(tactic| walk_at "orz") => `(tactic| with_reducible first | refine s_next ?_ | refine s_gname ?_ | refine s_drop ?_ | refine s_meth ?_ | refine s_fldS ?_ | refine s_asg ?_)
local macro_rules | `(tactic| walk_at "orz") => `(tactic| with_reducible first | refine s_fldg ?_ | refine s_ifS ?_ | refine s_dget ?_ | refine s_ret ?_ | refine s_B ?_ | refine s_test ?_)
local macro_rules | `(tactic| walk_at "orz") => `(tactic| with_reducible first | refine s_cons ?_ | refine s_c ?_ | refine s_nil ?_ | refine s_seq ?_ | refine s_op ?_ | refine s_bl ?_)
local macro_rules | `(tactic| walk_at "orz") => `(tactic| ((with_reducible apply s_var); (· exact rfl)))
local macro_rules | `(tactic| walk_at "rz") => `(tactic| repeat walk_at "orz")
local macro_rules | `(tactic| walk_at "zm") => `(tactic| (intro x dx hx hdx hne; generalize eH : upd (upd _ dx _) x _ = H2; have s2 := mkS hx hdx eH; have e2 := mkE eH; clear eH hdx hne))
local macro_rules | `(tactic| walk_at "zb") => `(tactic| with_reducible first | refine s_gcons ?_ | refine s_gnil ?_ | refine s_gname ?_ | refine s_seq ?_ | refine s_ifS ?_ | refine s_if ?_ | refine s_next ?_ | refine s_drop ?_ | refine s_ret ?_ | refine s_asg ?_)
abbrev tI (K : Fg) : Addr := tabA K (ga K "_law_is_line_told")
abbrev qI : Str := (("_law_is_line_told" : Str) ++ ".<locals>.") ++ "<lambda>"
theorem _root_.L2.FnOk.or {P : Program} {w : World} {K : Fg} {mg : Str → Option Value} {base : Heap} {CX k f fd ps} {s1 s2 : Sp} (a : FnOk P w K mg base CX k f fd ps s1) (b : FnOk P w K mg base CX k f fd ps s2) : FnOk P w K mg base CX k f fd ps (fun vs H Q E => s1 vs H Q E ∨ s2 vs H Q E) :=
  ⟨fun vs H Q E h => h.elim (a.1 vs H Q E) (b.1 vs H Q E), fun a1 a2 a3 a4 a5 a6 a7 a8 a9 b1 b2 b3 b4 h => h.elim (a.2 a1 a2 a3 a4 a5 a6 a7 a8 a9 b1 b2 b3 b4) (b.2 a1 a2 a3 a4 a5 a6 a7 a8 a9 b1 b2 b3 b4)⟩
theorem s_neRefl {K : Fg} {H : Hp} {Q : VK} {x y : V} {d : PyData} (h : SeqAt.shaped d = true) (hx : Dp K H x d) (hy : Dp K H y d) (q : Q (.bl false) H) : rNeD K x y H Q := by
  refine ⟨d, d, hx, hy, h, h, ?_⟩
  rw [shaped_eqvW h]
  exact q
theorem shal_str {n : Nat} {z : Str} (h : (PyData.str z).canLay0 = true) : shal (n + 1) (.str z) = true := by
  show (PyData.canLay0 (.str z) && decide (PyData.depth (.str z) ≤ 64)) = true
  rw [h]
  rfl
theorem shal_list {n : Nat} {l : List PyData} (h : l.length ≤ 40000) (k : ∀ x ∈ l, shal n x = true) : shal (n + 1) (.list l) = true := by
  show (decide (l.length ≤ 40000) && l.all (shal n)) = true
  rw [decide_eq_true h, List.all_eq_true.mpr k]
  rfl
theorem shal_tup {n : Nat} {l : List PyData} (h : l.length ≤ 40000) (k : ∀ x ∈ l, shal n x = true) : shal (n + 1) (.tuple l) = true := by
  show (decide (l.length ≤ 40000) && l.all (shal n)) = true
  rw [decide_eq_true h, List.all_eq_true.mpr k]
  rfl
theorem lay_nm {P : Pl} (ok : P.Ok) {l : Ln} (hl : l ∈ P.ls) : (PyData.str l.nm).canLay0 = true := ok.lay (.inl (List.mem_map_of_mem hl))
theorem shaped_ln {P : Pl} (ok : P.Ok) {l : Ln} (hl : l ∈ P.ls) : SeqAt.shaped (dLn l) = true := by
  obtain ⟨h1, h2⟩ := lay_ln ok hl
  show ((dLn l).canLay0 && decide ((dLn l).depth ≤ 64)) = true
  rw [h1, decide_eq_true (by omega)]
  rfl
theorem shal_st {P : Pl} (ok : P.Ok) {n : Nat} {s : Str × Key} (h : StepIs P s) : shal (n + 2) (dSt s) = true := by
  refine shal_tup (by show 2 ≤ _; decide) fun d hd => ?_
  have hd : d = .str s.1 ∨ d = kD s.2 := by simpa using hd
  have hw : ∀ w ∈ (["run", "bar", "later", "set", "clear", "await", "ring", "quiet", "mask", "unmask"] : List Str), (PyData.str w).canLay0 = true := by decide +kernel
  rcases hd with rfl | rfl
  · refine shal_str (hw _ ?_)
    cases h with
    | run i _ _ => simp
    | bar i _ _ => simp
    | later z _ => simp
    | flag w i hw _ _ => simp only [List.mem_cons, List.not_mem_nil, or_false] at hw ⊢; rcases hw with rfl | rfl | rfl <;> simp
    | line w z hw _ _ => simp only [List.mem_cons, List.not_mem_nil, or_false] at hw ⊢; rcases hw with rfl | rfl | rfl | rfl <;> simp
  · cases h with
    | run i _ _ => rfl
    | bar i _ _ => rfl
    | later z hz => exact shal_str (ok.lay (.inr hz))
    | flag w i hw _ _ => rfl
    | line w z hw hz _ => exact shal_str (ok.lay (.inl hz))
theorem shal_ln {P : Pl} (ok : P.Ok) {n : Nat} {l : Ln} (hl : l ∈ P.ls) : shal (n + 4) (dLn l) = true := by
  refine shal_tup (by show 4 ≤ _; decide) fun d hd => ?_
  have hd : d = .str l.nm ∨ d = .str l.kd ∨ d = .int l.rk ∨ d = .tuple (l.st.map dSt) := by simpa using hd
  rcases hd with rfl | rfl | rfl | rfl
  · exact shal_str (lay_nm ok hl)
  · have hk : ((PyData.str l.nm).canLay0 && ((PyData.str l.kd).canLay0 && _)) = true := (lay_ln ok hl).1
    simp only [Bool.and_eq_true] at hk
    exact shal_str hk.2.1
  · rfl
  · refine shal_tup (by rw [List.length_map]; have := ok.steps8 hl; omega) fun d hd => ?_
    obtain ⟨s, hs, rfl⟩ := List.mem_map.mp hd
    exact shal_st ok (ok.step hl hs)
theorem noown {K : Fg} {H : Hp} {r sc : Addr} {ns : List Int} {D : Z.PA} {P : Pl} (row : RowAt K H r sc ns) (pl : PlanAt K H D P) : r ∉ D.own := fun h => by
  obtain ⟨_, _, _, e, _⟩ := row.row
  obtain ⟨dx, a, b, hp, _⟩ := pl.ins
  obtain ⟨k1, h1, _⟩ := pl.rows.at_
  obtain ⟨k2, h2, _⟩ := pl.works.at_
  simp only [Z.PA.own, List.mem_cons, List.not_mem_nil, or_false] at h
  rcases h with rfl | rfl | rfl
  · rw [e] at hp; cases hp
  · rw [e] at h1; cases h1
  · rw [e] at h2; cases h2
theorem notab {K : Fg} {H : Hp} {t : Addr} {q : Str} {D : Z.PA} {P : Pl} (tab : TabS H t q) (pl : PlanAt K H D P) : t ∉ D.own := fun h => by
  obtain ⟨_, e, _⟩ := tab
  obtain ⟨dx, a, b, hp, _⟩ := pl.ins
  obtain ⟨k1, h1, _⟩ := pl.rows.at_
  obtain ⟨k2, h2, _⟩ := pl.works.at_
  simp only [Z.PA.own, List.mem_cons, List.not_mem_nil, or_false] at h
  rcases h with rfl | rfl | rfl
  · rw [e] at hp; cases hp
  · rw [e] at h1; cases h1
  · rw [e] at h2; cases h2
theorem plan_row {K : Fg} {H H' : Hp} {r sc : Addr} {ns : List Int} {D : Z.PA} {P : Pl} (row : RowAt K H r sc ns) (pl : PlanAt K H D P) (f : Fr [r] H H') : PlanAt K H' D P := pl.keep f fun a ha z => noown row pl (by rw [← List.mem_singleton.mp z]; exact ha)
theorem plan_tab {K : Fg} {H H' : Hp} {t : Addr} {q : Str} {D : Z.PA} {P : Pl} (tab : TabS H t q) (pl : PlanAt K H D P) (f : Fr [t] H H') : PlanAt K H' D P := pl.keep f fun a ha z => notab tab pl (by rw [← List.mem_singleton.mp z]; exact ha)
theorem ln_eqv {P : Pl} (ok : P.Ok) {l l' : Ln} (h : l ∈ P.ls) (h' : l' ∈ P.ls) : PyData.eqv (dLn l') (dLn l) = decide (l'.nm = l.nm) := by
  by_cases e : l'.nm = l.nm
  · rw [decide_eq_true e]
    have : l' = l := by rw [← ok.ln_eq h, ← ok.ln_eq h', e]
    rw [this]
    exact shaped_eqvW (shaped_ln ok h)
  · rw [decide_eq_false e]
    simp [dLn, PyData.eqv, PyData.eqvAll, e]
theorem sh_setup {p : Str} (h : (PyData.str p).canLay0 = true) (i : Nat) : SeqAt.shaped (.tuple [.str "setup", .str p, .int (i : Nat)]) = true := (flatW_tup (n := 0) fun d hd => by
  simp only [List.mem_cons, List.not_mem_nil, or_false] at hd
  rcases hd with rfl | rfl | rfl
  · exact flatW_str (by decide +kernel)
  · exact flatW_str h
  · exact flatW_int _).shaped (by omega)
theorem shaped_lns {P : Pl} (ok : P.Ok) : SeqAt.shaped (.tuple (P.ls.map dLn)) = true := by
  obtain ⟨h1, h2⟩ := lay_map (g := dLn) (n := 3) fun x hx => lay_ln ok hx
  have h3 : (PyData.tuple (P.ls.map dLn)).depth ≤ 64 := by
    show PyData.depthAll _ + 1 ≤ 64
    omega
  show ((PyData.tuple (P.ls.map dLn)).canLay0 && decide ((PyData.tuple (P.ls.map dLn)).depth ≤ 64)) = true
  rw [show (PyData.tuple (P.ls.map dLn)).canLay0 = true from h1, decide_eq_true h3]
  rfl
theorem dstrL {K : Fg} {H : Hp} : ∀ l : List Str, DpAll K H (l.map V.str) (l.map PyData.str)
  | [] => .nil
  | z :: l => .cons (.str z) (dstrL l)
theorem shal_told {P : Pl} (ok : P.Ok) {l : Ln} (hl : l ∈ P.ls) : shal 5 (.list [.bool true, dLn l, .int (ticksOf l), .list ((tch l.st).map .str)]) = true := by
  refine shal_list (by show 4 ≤ _; decide) fun d hd => ?_
  have hd : d = .bool true ∨ d = dLn l ∨ d = .int (ticksOf l) ∨ d = .list ((tch l.st).map .str) := by simpa using hd
  rcases hd with rfl | rfl | rfl | rfl
  · rfl
  · exact shal_ln (n := 0) ok hl
  · rfl
  · refine shal_list ?_ fun d hd => ?_
    · rw [List.length_map]
      have h1 := tch_len l.st []
      have h2 := ok.steps8 hl
      show (l.st.foldl tchS []).length ≤ _
      simp at h1
      omega
    · obtain ⟨z, hz, rfl⟩ := List.mem_map.mp hd
      rw [tch_any, List.any_eq_true] at hz
      obtain ⟨s, hs, hz⟩ := hz
      unfold tcB at hz
      rw [Bool.and_eq_true] at hz
      have e := of_decide_eq_true hz.2
      have st := ok.step hl hs
      obtain ⟨w, k⟩ := s
      have e : k = .inr z := e
      subst e
      cases st with
      | later _ h => exact shal_str (ok.lay (.inr h))
      | line _ _ _ h _ => exact shal_str (ok.lay (.inl h))
def spLineTold (K : Fg) : Sp := fun vs H Q _ => ∃ D P la v l, vs = [.ref D.p, .ref la, v] ∧ PlanAt K H D P ∧ Dp K H (.ref la) (.tuple (P.ls.map dLn)) ∧ l ∈ P.ls ∧ Dp K H v (dLn l) ∧ TabS H (tI K) qI ∧ ∀ H', Fr [tI K] H H' → TabS H' (tI K) qI → Q (.bl true) H'
section
variable {P : Program} {w : World} {K : Fg} {mg : Str → Option Value} {base : Heap}
theorem ok_w_is_line_told (T : Txt K mg) (TBL : LamX.TabB base mg (codA K (ga K "_law_is_line_told")) (tI K)) : FnOk P w K mg base (L2.CX P w) 24 (ga K "_law_is_line_told") (fdOf K (ga K "_law_is_line_told")) ["_law_setup_here", "_law_lines", "_law_line"] (spLineTold K) := by
  have ok_w_alike := fun (T : Txt K mg) => okA (P := P) (w := w) (base := base) T 5
  have ok_Setup_sub_x := fun (T : Txt K mg) => L2.FnOk.or (ok_Setup_sub (P := P) (w := w) (base := base) T) (ok_Setup_sub_x (P := P) (w := w) (base := base) T)
  refine okC T.F_w_is_line_told sc_w_is_line_told (fun vs H Q E h => ?_) (fun A outer s H vs Q E hr h => ⟨_, PSs.nox (pss_cons (zset 3 sc_w_is_line_told.nd (pe_callB (cr_sumK K rfl) (by rfl) T.u_sum (by decide +kernel) (pa_cons (pe_lc (own := [("_law_word", 7), ("_law_value", 8)]) rfl sc_w_is_line_told.nd (kIT K (pi_tup (pe_ix (ix_tupK K) (pv 2) pe_int (fun _ _ => rfl)))) (blkOk_by (own := [("_law_word", 7), ("_law_value", 8)]) (N := n_w_is_line_told) (sc := defScope s_w_is_line_told) (by decide +kernel)) (fun _ _ _ _ _ => (kGT K (pg_tup (n := 2) rfl (pgs_cons (zg 7 sc_w_is_line_told.nd) (pgs_cons (zg 8 sc_w_is_line_told.nd) pgs_nil))))) (fun _ _ _ _ _ => (pts_one (pt_cmpR op_eq (pv 7) pe_str (nomark _)))) (fun _ _ _ _ _ => (pv 8))) pa_nil)))
      (pss_cons (zset 4 sc_w_is_line_told.nd (pe_lst (pa_cons (pe_cmpR (op_inO T.m_Setup_contains.at_ T.m_Setup_contains.fn (ok_Setup_contains T) T.c_Setup_contains (hr.mono (by decide)) passL) (pe_ix (ix_tupK K) (pv 2) pe_int (fun _ _ => rfl)) (pv 0) (by rfl)) (pa_cons (z_ixO (pv 0) (pe_ix (ix_tupK K) (pv 2) pe_int (fun _ _ => rfl)) T.m_Setup_getitem.at_ T.sub_Setup T.m_Setup_getitem.fn (ok_Setup_getitem T) T.c_Setup_getitem (hr.mono (by decide)) passL) (pa_cons (z_meth (pv 0) T.cl_Setup T.m_Setup_ticks_of (ok_Setup_ticks_of T) T.c_Setup_ticks_of (hr.mono (by decide)) passL (pa_cons (pe_ix (ix_tupK K) (pv 2) pe_int (fun _ _ => rfl)) pa_nil)) (pa_cons (z_meth (pv 0) T.cl_Setup T.m_Setup_touched_by (ok_Setup_touched_by T) T.c_Setup_touched_by (hr.mono (by decide)) passL (pa_cons (pe_ix (ix_tupK K) (pv 2) pe_int (fun _ _ => rfl)) pa_nil)) pa_nil))))))
      (pss_cons (ps_if (pt_not (pt_val (z_call (ok_w_alike T) T.c_w_alike (hr.mono (by decide)) rfl T.g_w_alike passL (pa_cons (pv 4) (pa_cons (pe_lst (pa_cons pe_bl (pa_cons (pv 2) (pa_cons (pv 3) (pa_cons (z_call (ok_w_touched T) T.c_w_touched (hr.mono (by decide)) rfl T.g_w_touched passL (pa_cons (pv 1) (pa_cons (pe_ix (ix_tupK K) (pv 2) pe_int (fun _ _ => rfl)) pa_nil))) pa_nil))))) pa_nil))))) (pss_one (ps_ret pe_bl)) pss_nil)
      (pss_cons (zset 5 sc_w_is_line_told.nd (z_call (ok_w_less T) T.c_w_less (hr.mono (by decide)) rfl T.g_w_less passL (pa_cons (pv 1) (pa_cons (pe_ix (ix_tupK K) (pv 2) pe_int (fun _ _ => rfl)) pa_nil))))
      (pss_cons (ps_if (pt_cmpR (op_neDK K hr.units) (z_lamR (k := 20) T.F_w_raised T.c_w_raised rfl T.g_w_raised sc_w_raised rfl (.inl (by decide +kernel)) (fun cdv => gives_w_raised T cdv) TBL rfl (hr.mono (by decide)) rfl (LamX.lamS_by (sc := defScope s_w_is_line_told) (by decide +kernel)) rfl (fun _ _ _ _ _ => rfl) (fun _ _ _ _ E _ _ hl => (pe_op (op_subS T.m_Setup_sub.at_ T.m_Setup_sub.fn T.sf_Setup (ok_Setup_sub_x T) T.c_Setup_sub (hl.mono (by decide)) (passes_call (takes_of rfl rfl rfl rfl) (fun _ _ _ _ h => h))) (pv 0) (pe_ix (ix_tupK K) (pv 2) pe_int (fun _ _ => rfl))))) (pv 5) (nomark _)) (pss_one (ps_ret pe_bl)) pss_nil)
      (pss_cons (zset 6 sc_w_is_line_told.nd (pe_callTy (call_tuple_ofK K) (by rfl) T.u_tuple (by decide +kernel) (pa_cons (pe_lc (own := [("_law_one", 9)]) rfl sc_w_is_line_told.nd (kIT K (pi_tup (pv 1))) (blkOk_by (own := [("_law_one", 9)]) (N := n_w_is_line_told) (sc := defScope s_w_is_line_told) (by decide +kernel)) (fun _ _ _ _ _ => (zg 9 sc_w_is_line_told.nd)) (fun _ _ _ _ _ => (pts_one (pt_cmpR (op_neDK K hr.units) (pv 9) (pv 2) (nomark _)))) (fun _ _ _ _ _ => (pv 9))) pa_nil)))
      (pss_one (ps_ret (pe_or (pe_cmpR op_notN (pv 5) pe_non (nomark _)) (pe_one (pe_cmpR (op_eqDK K hr.units) (z_prop (pe_op (op_subS T.m_Setup_sub.at_ T.m_Setup_sub.fn T.sf_Setup (ok_Setup_sub T) T.c_Setup_sub (hr.mono (by decide)) passL) (pv 0) (pe_ix (ix_tupK K) (pv 2) pe_int (fun _ _ => rfl))) T.cl_Setup T.p_Setup_lines (ok_Setup_lines T) T.c_Setup_lines (hr.mono (by decide)) rfl) (pv 6) (nomark _)))))))))))), ?_⟩)
  · obtain ⟨D, P, la, v, l, rfl, _⟩ := h
    rfl
  obtain ⟨D, P, la, v, l, rfl, pl, dla, hl, dv, tab, q⟩ := h
  have ok := pl.ok
  have hz : l.nm ∈ P.names := List.mem_map_of_mem hl
  have eln := ok.ln_eq hl
  obtain ⟨c, zs, rfl, hTc, hAc⟩ := dv.tupI
  cases hAc with | cons h1 hAc => ?_
  cases hAc with | cons h2 hAc => ?_
  cases hAc with | cons h3 hAc => ?_
  cases hAc with | cons h4 hAc => ?_
  cases hAc
  cases h1
  cases h2
  cases h3
  obtain ⟨st, ss, rfl, hTs, hAs⟩ := h4.tupI
  have hst := ok.steps8 hl
  show (_ : TS) _ (some (.ref D.p) :: some (.ref la) :: some (.ref c) :: List.replicate 7 none) H
  try dsimp only [cxOf]
  dsimp only [List.replicate]
  walk_at "rz"
  refine lcT_d (l := l.st) (da := dSt) hTs hAs (fun s => decide (s.1 = ("run" : Str))) (fun s => .int (kI s.2)) (by omega) (fun _ _ => rfl) (fun s v H8 Yes No hs s8 hd yes no => ?_) (fun bl H1 bs hbl s1 e1 a1 => ?_)
  · obtain ⟨t, zs, rfl, ht, ha⟩ := hd.tupI
    cases ha with | cons h1 ha => ?_
    cases ha with | cons h2 ha => ?_
    cases ha
    cases h1
    refine s_gtup ht rfl ?_
    walk_at "rz"
    refine ⟨rfl, ?_⟩
    walk_at "rz"
    refine ite_b (fun h => ?_) (fun h => ?_)
    · have e : s.1 = ("run" : Str) := by simpa using h
      obtain ⟨i, hi, _⟩ := (ok.step hl hs).run_int e
      rw [hi] at h2
      cases h2
      walk_at "rz"
      refine yes (decide_eq_true e) _ _ (Same.refl _) ?_
      rw [hi]
      exact .int i
    · have e : ¬ s.1 = ("run" : Str) := by simpa using h
      exact no (decide_eq_false e) _ (Same.refl _)
  rw [map_int] at a1
  have e8' := dp_ints a1
  subst e8'
  walk_at "rz"
  refine ⟨bl, _, rfl, SqL.of e1, ?_⟩
  walk_at "rz"
  have pl1 := pl.same s1
  obtain ⟨pdx, pa, pb, hp1, _⟩ := pl1.ins
  refine ⟨_, _, _, rfl, hp1, D, _, .str l.nm, P, rfl, pl1, .str _, ?_⟩
  refine ⟨_, rfl, ?_⟩
  rw [if_neg Bool.false_ne_true, show nameIn P (.str l.nm) = true from decide_eq_true hz]
  walk_at "rz"
  refine ⟨D, l.nm, P, rfl, pl1, hz, fun v1 dv1 => ?_⟩
  rw [eln] at dv1
  walk_at "rz"
  refine ⟨D, l.nm, P, rfl, pl1, hz, fun H2 s2 => ?_⟩
  rw [eln]
  walk_at "rz"
  refine ⟨D, l.nm, P, rfl, pl1.same s2, hz, fun H3 c3 s3 hc3 e3 => ?_⟩
  rw [eln] at e3
  walk_at "rz"
  rename_i lt hlt H4 s4 e4
  have s14 := (s1.trans s2).trans (s3.trans s4)
  refine ⟨la, P, l.nm, rfl, dla.same s14, ok, hz, fun H5 c5 s5 hc5 e5 => ?_⟩
  rw [eln] at e5
  walk_at "rz"
  rename_i la2 hla2 H6 s6 e6
  have s46 := s5.trans s6
  have s06 := s14.trans s46
  have dtold : Dp K H6 (.ref lt) (.list [.bool true, dLn l, .int (ticksOf l), .list ((tch l.st).map .str)]) := .lst (SqL.of (s46 _ _ e4)) (.cons (.bl _) (.cons (dv1.same ((s2.trans (s3.trans s4)).trans s46)) (.cons (.int _) (.cons (.lst (SqL.of ((s4.trans s46) _ _ e3)) (dstrL _)) .nil))))
  have ddue : Dp K H6 (.ref la2) (.list [.bool true, dLn l, .int (ticksOf l), .list ((tch l.st).map .str)]) := .lst (SqL.of e6) (.cons (.bl _) (.cons (dv.same s06) (.cons (.int _) (.cons (.lst (SqL.of (s6 _ _ e5)) (dstrL _)) .nil))))
  refine ⟨_, _, _, rfl, dtold, ddue, shal_told ok hl, fun H7 s7 => ?_⟩
  have s07 := s06.trans s7
  clear dtold ddue e3 e4 e5 e6 s6 s5 s46 s14 s4 s3 s2 s1 s06 e1 a1 dv1 hlt hla2 hc3 hc5 hbl hp1 pl1
  walk_at "rz"
  refine ⟨la, P, l.nm, rfl, dla.same s07, ok, hz, fun H8 vd s8 dd => ?_⟩
  have s08 := s07.trans s8
  walk_at "rz"
  have tab8 : TabS H8 (tI K) qI := tab.ext fun b o e => s08 _ _ e
  refine ⟨tab8, fun H9 f9 t9 => ?_⟩
  have t9 : TabS H9 (tI K) qI := t9
  unfold TTrai
  walk_at "rz"
  have hTc9 := f9.tk.sqT (s08.sqT hTc)
  have pl9 := plan_tab tab8 (pl.same s08) f9
  obtain ⟨pdx, pa, pb, hp9, _⟩ := pl9.ins
  have dla9 : Dp K H9 (.ref la) (.tuple (P.ls.map dLn)) := (dla.same s08).tk f9.tk (tupds_map tupd_dLn _)
  have dv9 : Dp K H9 (.ref c) (dLn l) := (dv.same s08).tk f9.tk (tupd_dLn _)
  have f09 : Fr [tI K] H H9 := (s08.fr).trans f9
  walk_at "rz"
  refine ⟨D.p, l.nm, pdx, _, rfl, rfl, hp9, ?_⟩
  by_cases hless : lessD P l.nm = .none
  · have ok' := less_none ok hless
    rw [hless] at dd
    have ev : vd = .non := by cases dd; rfl
    subst ev
    refine .inl ⟨D, P, l.nm, rfl, pl9, hz, ok', fun HA DA sA hown plA => ⟨⟨_, rfl⟩, ?_⟩⟩
    have tabA : TabS HA (tI K) qI := t9.ext fun b o e => sA _ _ e
    walk_at "rz"
    refine s_neRefl (d := .none) (by decide +kernel) .non .non ?_
    walk_at "rz"
    obtain ⟨_, las, e, hTl, hAl⟩ := (dla9.same sA).tupI
    cases e
    have l12 := ok.l12
    refine lcT_d (l := P.ls) (da := dLn) hTl hAl (fun l' => !decide (l'.nm = l.nm)) dLn (by omega) (fun _ _ => tupd_dLn _) (fun l' v' Hb Yes No hl' sb hdv yes no => ?_) (fun c9 HB us hc9 sB eB aB => ?_)
    · walk_at "rz"
      refine ⟨rfl, ?_⟩
      walk_at "rz"
      refine ⟨dLn l', dLn l, hdv, (dv9.same sA).same sb, shaped_ln ok hl', shaped_ln ok hl, ?_⟩
      rw [ln_eqv ok hl hl']
      by_cases h : l'.nm = l.nm
      · rw [decide_eq_true h]
        walk_at "rz"
        exact no (by rw [decide_eq_true h]; rfl) _ (Same.refl _)
      · rw [decide_eq_false h]
        walk_at "rz"
        exact yes (by rw [decide_eq_false h]; rfl) _ _ (Same.refl _) hdv
    walk_at "rz"
    refine ⟨c9, us, rfl, .inl ⟨SqL.of eB, fun t1 ht1 => ?_⟩⟩
    generalize eH : upd HB t1 _ = HC
    have sC := newS ht1 eH
    have eC := newE eH
    clear eH
    have s9C := (sA.trans sB).trans sC
    have hTcC := s9C.sqT hTc9
    have hpC := s9C _ _ hp9
    have plC := pl9.same s9C
    walk_at "rz"
    refine ⟨rfl, _, rfl, ?_⟩
    rw [decide_eq_true (rfl : V.non = V.non), if_neg (by decide)]
    walk_at "rz"
    refine ⟨D.p, l.nm, pdx, _, rfl, rfl, hpC, D, P, l.nm, rfl, plC, hz, ok', fun HD DD sD hownD plD => ⟨⟨_, rfl⟩, ?_⟩⟩
    obtain ⟨qdx, qa, qb, hpD, _⟩ := plD.ins
    walk_at "rz"
    refine ⟨DD, lessP P l.nm, rfl, plD, fun a hda => ?_⟩
    walk_at "rz"
    have dlt : Dp K HD (.ref t1) (.tuple ((lessP P l.nm).ls.map dLn)) := (Dp.tup (SqT.of eC) (aB.same sC)).same sD
    have shl := shaped_lns ok'
    refine ⟨_, _, hda, dlt, shl, shl, ?_⟩
    rw [shaped_eqvW shl]
    have s9D := s9C.trans sD
    exact q HD (f09.trans s9D.fr) (t9.ext fun b o e => s9D _ _ e)
  · obtain ⟨pw, kw, hpw, hkw, elD, href⟩ := less_ref ok hless
    rw [elD] at dd
    have shd : SeqAt.shaped (.tuple [.str "setup", .str pw, .int (kw : Nat)]) = true := by
      rcases hpw with rfl | rfl
      · exact sh_setup (by decide +kernel) kw
      · exact sh_setup (by decide +kernel) kw
    have shn : SeqAt.shaped (.str l.nm) = true := shaped_names ok l hl
    refine .inr ⟨D, P, .str l.nm, .str l.nm, rfl, pl9, .str _, shn, .inr ⟨l.nm, rfl, hz, fun HA sA => href K HA _ fun dx HX sX eX => ?_⟩⟩
    refine .inr ⟨rfl, dx, .str pw, .int (kw : Nat), rfl, eX, fun t HY sY eY => ?_⟩
    have s9Y := (sA.trans sX).trans sY
    have ddY : Dp K HY vd (.tuple [.str "setup", .str pw, .int (kw : Nat)]) := (dd.tk f9.tk rfl).same s9Y
    walk_at "rz"
    refine s_neRefl shd (.tup (SqT.of eY) (.cons (.str _) (.cons (.str _) (.cons (.int _) .nil)))) ddY ?_
    walk_at "rz"
    obtain ⟨_, las, e, hTl, hAl⟩ := (dla9.same s9Y).tupI
    cases e
    have l12 := ok.l12
    refine lcT_d (l := P.ls) (da := dLn) hTl hAl (fun l' => !decide (l'.nm = l.nm)) dLn (by omega) (fun _ _ => tupd_dLn _) (fun l' v' Hb Yes No hl' sb hdv yes no => ?_) (fun c9 HB us hc9 sB eB aB => ?_)
    · walk_at "rz"
      refine ⟨rfl, ?_⟩
      walk_at "rz"
      refine ⟨dLn l', dLn l, hdv, (dv9.same s9Y).same sb, shaped_ln ok hl', shaped_ln ok hl, ?_⟩
      rw [ln_eqv ok hl hl']
      by_cases h : l'.nm = l.nm
      · rw [decide_eq_true h]
        walk_at "rz"
        exact no (by rw [decide_eq_true h]; rfl) _ (Same.refl _)
      · rw [decide_eq_false h]
        walk_at "rz"
        exact yes (by rw [decide_eq_false h]; rfl) _ _ (Same.refl _) hdv
    walk_at "rz"
    refine ⟨c9, us, rfl, .inl ⟨SqL.of eB, fun t1 ht1 => ?_⟩⟩
    generalize eH : upd HB t1 _ = HC
    have sC := newS ht1 eH
    clear eH
    have s9C := (s9Y.trans sB).trans sC
    walk_at "rz"
    obtain ⟨_, vx, rfl, _⟩ := ddY.tupI
    refine ⟨rfl, _, rfl, ?_⟩
    rw [decide_eq_false (fun e : V.ref _ = V.non => nomatch e), if_pos (by decide)]
    exact q HC (f09.trans s9C.fr) (t9.ext fun b o e => s9C _ _ e)
end
set_option maxHeartbeats 4000000
open PySem PySem.Spec PyProof.Rows L2 Z
open He (ga ma)
open LamX (TabS)
abbrev tN (K : Fg) : Addr := tabA K (ga K "_law_is_ranked")
abbrev qN : Str := (("_law_is_ranked" : Str) ++ ".<locals>.") ++ "<lambda>"
def spRanked (K : Fg) : Sp := fun vs H Q _ => ∃ (r sc : Addr) (ns : List Int) (D : Z.PA) (P : Pl) (la wa : Addr) (v : V) (i : Nat) (l : Ln), vs = [.ref r, .ref D.p, .ref la, .ref wa, v] ∧ RowAt K H r sc ns ∧ PlanAt K H D P ∧ Dp K H (.ref la) (.tuple (P.ls.map dLn)) ∧ Dp K H (.ref wa) (.tuple (P.ws.map dWk)) ∧ P.ls[i]? = some l ∧ l.nm ∈ nm6 ∧ Dp K H v (dLn l) ∧ FrzL H la ∧ TabS H (tN K) qN ∧
  ∀ H', Fr [r, tN K] H H' → RowAt K H' r sc ns → TabS H' (tN K) qN → Q (.bl true) H'
section
variable {P : Program} {w : World} {K : Fg} {mg : Str → Option Value} {base : Heap}
theorem ok_w_is_ranked (T : Txt K mg) (TBL : LamX.TabB base mg (codA K (ga K "_law_is_ranked")) (tN K)) : FnOk P w K mg base (L2.CX P w) 24 (ga K "_law_is_ranked") (fdOf K (ga K "_law_is_ranked")) ["_law_row", "_law_setup_here", "_law_lines", "_law_works", "_law_line"] (spRanked K) := by
  refine okC T.F_w_is_ranked sc_w_is_ranked (fun vs H Q E h => ?_) (fun A outer s H vs Q E hr h => ⟨_, PSs.nox (pss_cons (zset 5 sc_w_is_ranked.nd (z_call (ok_w_taken T) T.c_w_taken (hr.mono (by decide)) rfl T.g_w_taken passL (pa_cons (pv 0) (pa_cons pe_int pa_nil))))
      (pss_cons (zset 6 sc_w_is_ranked.nd (pe_callTy (call_tuple_ofK K) (by rfl) T.u_tuple (by decide +kernel) (pa_cons (pe_lc (own := [("_law_one", 7)]) rfl sc_w_is_ranked.nd (kIT K (pi_tup (pv 2))) (blkOk_by (own := [("_law_one", 7)]) (N := n_w_is_ranked) (sc := defScope s_w_is_ranked) (by decide +kernel)) (fun _ _ _ _ _ => (zg 7 sc_w_is_ranked.nd)) (fun _ _ _ _ _ => pts_nil) (fun _ _ _ _ _ => (pe_ifExp (pt_cmpR (op_eqDK K hr.units) (pv 7) (pv 4) (nomark _)) (pe_op (op_catAK K) (pe_op (op_catAK K) (pe_slice (sl_tupAK K) (pv 7) po_none (po_some pe_int)) (pe_tup (pa_cons (pv 5) pa_nil))) (pe_slice (sl_tupAK K) (pv 7) (po_some pe_int) po_none)) (pv 7)))) pa_nil)))
      (pss_cons (ps_if (pt_chain op_le op_le pe_int (pv 5) pe_int) (pss_one (ps_ret (pe_cmpR (op_eqO T.m_Setup_eq.at_ T.m_Setup_eq.fn (ok_Setup_eq T) T.c_Setup_eq (hr.mono (by decide)) passL) (z_meth (pv 1) T.cl_Setup T.m_Setup_with_rank (ok_Setup_with_rank T) T.c_Setup_with_rank (hr.mono (by decide)) passL (pa_cons (pe_ix (ix_tupK K) (pv 4) pe_int (fun _ _ => rfl)) (pa_cons (pv 5) pa_nil))) (z_make T.mk_Setup (ok_Setup_init T) T.c_Setup_init (hr.mono (by decide)) rfl T.g_Setup passL (pa_cons (pv 6) (pa_cons (pv 3) pa_nil))) (nomark _)))) pss_nil)
      (pss_one (ps_ret (pe_cmpR (op_eqDK K hr.units) (z_lamR (k := 20) T.F_w_raised T.c_w_raised rfl T.g_w_raised sc_w_raised rfl (.inl (by decide +kernel)) (fun cdv => gives_w_raised T cdv) TBL rfl (hr.mono (by decide)) rfl (LamX.lamS_by (sc := defScope s_w_is_ranked) (by decide +kernel)) rfl (fun _ _ _ _ _ => rfl) (fun _ _ _ _ E _ _ hl => (z_meth (pv 1) T.cl_Setup T.m_Setup_with_rank (ok_Setup_with_rank_x T) T.c_Setup_with_rank (hl.mono (by decide)) (passes_call (takes_of rfl rfl rfl rfl) (fun _ _ _ _ h => h)) (pa_cons (pe_ix (ix_tupK K) (pv 4) pe_int (fun _ _ => rfl)) (pa_cons (pv 5) pa_nil))))) (pe_tup (pa_cons pe_str (pa_cons pe_str (pa_cons (pe_bmT PySem.F.plainAttrs_tuple PySem.F.slot_tuple_index PySem.F.type_tuple_index (mt_indexTDK K hr.units5) (pv 2) (pa_cons (pv 4) pa_nil)) pa_nil)))) (nomark _))))))), ?_⟩)
  · obtain ⟨r, sc, ns, D, P, la, wa, v, i, l, rfl, _⟩ := h
    rfl
  obtain ⟨r, sc, ns, D, P, la, wa, v, i, l, rfl, row, pl, dla, dwa, hli, h6, dv, frz, tab, q⟩ := h
  have ok := pl.ok
  have hl := List.mem_of_getElem? hli
  have hi : i < P.ls.length := (List.getElem?_eq_some_iff.mp hli).1
  have hz : l.nm ∈ P.names := List.mem_map_of_mem hl
  have l12 := ok.l12
  obtain ⟨_, las, e, hTl, hAl⟩ := dla.tupI
  cases e
  have lla : las.length = P.ls.length := by rw [hAl.len, List.length_map]
  obtain ⟨c, zs, rfl, hTc, hAc⟩ := dv.tupI
  cases hAc with | cons h1 hAc => ?_
  cases h1
  show (_ : TS) _ (some (.ref r) :: some (.ref D.p) :: some (.ref la) :: some (.ref wa) :: some (.ref c) :: List.replicate 3 none) H
  try dsimp only [cxOf]
  dsimp only [List.replicate]
  walk_at "rz"
  refine ⟨r, sc, ns, 12, rfl, row, by decide, by decide, fun k H1 k0 k1 f1 row1 => ?_⟩
  have pl1 := plan_row row pl f1
  have dv1 := dv.tk f1.tk (tupd_dLn _)
  walk_at "rz"
  refine lcT_d (l := P.ls) (da := dLn) (f1.tk.sqT hTl) (hAl.tk f1.tk (tupds_map tupd_dLn _)) (fun _ => true) (rankD l.nm k) (by omega) (fun _ _ => tupd_rankD _ _ _) (fun l' v' Ha Yes No hl' sa hdv yes no => ?_) (fun c2 H2 us hc2 s2 e2 a2 => ?_)
  · obtain ⟨t9, zs, rfl, hT9, hA9⟩ := hdv.tupI
    walk_at "rz"
    refine ⟨rfl, ?_⟩
    walk_at "rz"
    refine ⟨dLn l', dLn l, hdv, dv1.same sa, shaped_ln ok hl', shaped_ln ok hl, ?_⟩
    rw [ln_eqv ok hl hl']
    by_cases h : l'.nm = l.nm
    · rw [decide_eq_true h]
      walk_at "rz"
      have d0 := hdv
      cases hA9 with | cons g1 hA9 => ?_
      cases hA9 with | cons g2 hA9 => ?_
      cases hA9 with | cons g3 hA9 => ?_
      cases hA9 with | cons g4 hA9 => ?_
      cases hA9
      cases g1
      cases g2
      cases g3
      refine s_slA hT9 fun a1 Hb sb eb => ?_
      rw [show (2 : Int) = ((2 : Nat) : Int) from rfl, cut_take] at eb
      walk_at "rz"
      rename_i a2 ha2 Hc sc1 ec
      refine s_catW (sc1.sqT eb) (SqT.of ec) (by rw [sizeLine_eq]; simp) fun a3 Hd sd ed => ?_
      walk_at "rz"
      have sbd := (sb.trans sc1).trans sd
      refine s_slA (sbd.sqT hT9) fun a4 He se ee => ?_
      rw [show (3 : Int) = ((3 : Nat) : Int) from rfl, cut_drop] at ee
      refine s_catW (se.sqT ed) ee (by rw [sizeLine_eq]; simp) fun a5 Hf sf ef => ?_
      have saf := (sbd.trans se).trans sf
      refine yes rfl _ _ saf ?_
      unfold rankD
      rw [if_pos h]
      exact .tup ef (.cons (.str _) (.cons (.str _) (.cons (.int _) (.cons (g4.same saf) .nil))))
    · rw [decide_eq_false h]
      walk_at "rz"
      refine yes rfl _ _ (Same.refl _) ?_
      unfold rankD
      rw [if_neg h]
      exact hdv
  rw [List.filter_eq_self.mpr fun _ _ => rfl] at a2
  walk_at "rz"
  refine ⟨c2, us, rfl, .inl ⟨SqL.of e2, fun t1 ht1 => ?_⟩⟩
  generalize eH : upd H2 t1 _ = H3
  have s3 := newS ht1 eH
  have e3 := newE eH
  clear eH
  have f13 : Fr [r] H1 H3 := (s2.trans s3).fr
  have f03 := f1.trans f13
  have s13 := s2.trans s3
  have row3 := row1.same s13
  have pl3 := pl1.same s13
  have d3 : Dp K H3 (.ref t1) (.tuple (P.ls.map (rankD l.nm k))) := .tup (SqT.of e3) (a2.same s3)
  have hTc3 := f03.tk.sqT hTc
  have tab3 : TabS H3 (tN K) qN := tabs_kW tab f03 fun x hx => by rw [List.mem_singleton.mp hx]; exact row.noW
  have dla3 : Dp K H3 (.ref la) (.tuple (P.ls.map dLn)) := dla.tk f03.tk (tupds_map tupd_dLn _)
  have dwa3 : Dp K H3 (.ref wa) (.tuple (P.ws.map dWk)) := dwa.tk f03.tk (tupds_map tupd_dWk _)
  have dv3 : Dp K H3 (.ref c) (dLn l) := dv.tk f03.tk (tupd_dLn _)
  have frz3 := frz.fr f03
  clear f1 row1 pl1 dv1 s2 s3 e2 e3 a2 hc2 ht1 f13 s13
  walk_at "rz"
  have h6n : fmtV (.str l.nm) = some l.nm ∧ l.nm.length ≤ 1000 := (by decide +kernel : ∀ z ∈ nm6, fmtV (.str z) = some z ∧ z.length ≤ 1000) l.nm h6
  by_cases k1 : 1 ≤ k
  · refine ite_t (decide_eq_true k1) ?_
    walk_at "rz"
    by_cases k9 : k ≤ 9
    · refine ite_t (decide_eq_true k9) ?_
      obtain ⟨pdx, pa, pb, hp3, _⟩ := pl3.ins
      walk_at "rz"
      have ok' := rank_ok ok (z := l.nm) k1 k9
      refine ⟨D, P, l.nm, k, rankP P l.nm k, rfl, pl3, hz, ok', rank_data P l.nm k, rfl, fun H4 D4 s4 hown4 pl4 => ?_⟩
      walk_at "rz"
      walk_at "zm"
      rename_i x dx hx H5 s5 e5
      have s35 := s4.trans s5
      refine ⟨x, t1, wa, dx, rankP P l.nm k, rfl, e5, by rw [rank_data]; exact d3.same s35, dwa3.same s35, ok', fun H6 rd wd hrd hwd hrw f6 plN => ⟨rfl, ?_⟩⟩
      have F6 : Fr [] H4 H6 := s5.fr.seq f6 (fun a ha => .inr (by rw [List.mem_singleton.mp ha]; exact hx))
      have pl6 := pl4.same F6.same
      obtain ⟨adx, aa, ab, hpa, _⟩ := pl6.ins
      obtain ⟨bdx, ba, bb, hpb, _⟩ := plN.ins
      refine ⟨D4.p, x, adx, bdx, _, _, rfl, rfl, hpa, hpb, D4, ⟨x, rd, wd⟩, _, _, rfl, pl6, plN, fun H7 s7 => ⟨_, rfl, ?_⟩⟩
      rw [plan_refl ok']
      have s37 := s4.trans (F6.same.trans s7)
      exact q H7 ((f03.trans s37.fr).mono (by simp)) (row3.same s37) (tab3.ext fun b o e => s37 _ _ e)
    · refine ite_f (decide_eq_false k9) ?_
      have hk : ¬ (1 ≤ k ∧ k ≤ 9) := fun h => k9 h.2
      walk_at "rz"
      refine ⟨tab3, fun H9 f9 t9 => ?_⟩
      have t9 : TabS H9 (tN K) qN := t9
      have row9 := row3.tabW tab3 f9
      have pl9 := plan_tab tab3 pl3 f9
      have hTc9 := f9.tk.sqT hTc3
      have dla9 : Dp K H9 (.ref la) (.tuple (P.ls.map dLn)) := dla3.tk f9.tk (tupds_map tupd_dLn _)
      have dv9 : Dp K H9 (.ref c) (dLn l) := dv3.tk f9.tk (tupd_dLn _)
      have frz9 := frz3.fr f9
      have f09 : Fr [r, tN K] H H9 := (f03.mono (by simp)).trans (f9.mono (by simp))
      obtain ⟨pdx, pa, pb, hp9, _⟩ := pl9.ins
      unfold TTrai
      walk_at "rz"
      refine ⟨D, P, .str l.nm, k, .str l.nm, rfl, pl9, .str _, .inl ⟨l.nm, h6n.1, h6n.2⟩, .inr ⟨l.nm, rfl, hz, fun HA sA => rank_ref ok hli hk K HA _ fun dx HX sX eX => ?_⟩⟩
      refine .inr ⟨rfl, dx, .str "lines", .int (i : Nat), rfl, eX, fun t HY sY eY => ?_⟩
      have s9Y := (sA.trans sX).trans sY
      obtain ⟨xsF, hxF⟩ := frz9.same s9Y
      walk_at "rz"
      refine s_bmT ?_
      walk_at "rz"
      refine s_tyF hxF ?_
      walk_at "rz"
      refine ⟨la, .ref c, dLn l, P.ls.map dLn, i, dLn l, rfl, rfl, dla9.same s9Y, dv9.same s9Y, shaped_lns ok, shaped_ln ok hl, by rw [List.getElem?_map, hli]; rfl, shaped_eqvW (shaped_ln ok hl), fun m z' hm e => ?_, ?_⟩
      · rw [List.getElem?_map] at e
        obtain ⟨lm, hlm, rfl⟩ := Option.map_eq_some_iff.mp e
        rw [ln_eqv ok hl (List.mem_of_getElem? hlm)]
        refine decide_eq_false fun en => ?_
        have e1 : P.names[m]? = some l.nm := by unfold Pl.names; rw [List.getElem?_map, hlm, ← en]; rfl
        have e2 : P.names[i]? = some l.nm := by unfold Pl.names; rw [List.getElem?_map, hli]; rfl
        have := (List.getElem?_inj (List.getElem?_eq_some_iff.mp e1).1 ok.lnd).mp (e1.trans e2.symm)
        omega
      walk_at "rz"
      rename_i tt htt HZ sZ eZ
      have shd : SeqAt.shaped (.tuple [.str "setup", .str "lines", .int (i : Nat)]) = true := sh_setup (by decide +kernel) i
      refine ⟨_, _, .tup (SqT.of (sZ _ _ eY)) (.cons (.str _) (.cons (.str _) (.cons (.int _) .nil))), .tup (SqT.of eZ) (.cons (.str _) (.cons (.str _) (.cons (.int _) .nil))), shd, shd, ?_⟩
      rw [shaped_eqvW shd]
      have s9Z := s9Y.trans sZ
      exact q _ (f09.trans s9Z.fr) (row9.same s9Z) (t9.ext fun b o e => s9Z _ _ e)
  · refine ite_f (decide_eq_false k1) ?_
    have hk : ¬ (1 ≤ k ∧ k ≤ 9) := fun h => k1 h.1
    walk_at "rz"
    refine ⟨tab3, fun H9 f9 t9 => ?_⟩
    have t9 : TabS H9 (tN K) qN := t9
    have row9 := row3.tabW tab3 f9
    have pl9 := plan_tab tab3 pl3 f9
    have hTc9 := f9.tk.sqT hTc3
    have dla9 : Dp K H9 (.ref la) (.tuple (P.ls.map dLn)) := dla3.tk f9.tk (tupds_map tupd_dLn _)
    have dv9 : Dp K H9 (.ref c) (dLn l) := dv3.tk f9.tk (tupd_dLn _)
    have frz9 := frz3.fr f9
    have f09 : Fr [r, tN K] H H9 := (f03.mono (by simp)).trans (f9.mono (by simp))
    obtain ⟨pdx, pa, pb, hp9, _⟩ := pl9.ins
    unfold TTrai
    walk_at "rz"
    refine ⟨D, P, .str l.nm, k, .str l.nm, rfl, pl9, .str _, .inl ⟨l.nm, h6n.1, h6n.2⟩, .inr ⟨l.nm, rfl, hz, fun HA sA => rank_ref ok hli hk K HA _ fun dx HX sX eX => ?_⟩⟩
    refine .inr ⟨rfl, dx, .str "lines", .int (i : Nat), rfl, eX, fun t HY sY eY => ?_⟩
    have s9Y := (sA.trans sX).trans sY
    obtain ⟨xsF, hxF⟩ := frz9.same s9Y
    walk_at "rz"
    refine s_bmT ?_
    walk_at "rz"
    refine s_tyF hxF ?_
    walk_at "rz"
    refine ⟨la, .ref c, dLn l, P.ls.map dLn, i, dLn l, rfl, rfl, dla9.same s9Y, dv9.same s9Y, shaped_lns ok, shaped_ln ok hl, by rw [List.getElem?_map, hli]; rfl, shaped_eqvW (shaped_ln ok hl), fun m z' hm e => ?_, ?_⟩
    · rw [List.getElem?_map] at e
      obtain ⟨lm, hlm, rfl⟩ := Option.map_eq_some_iff.mp e
      rw [ln_eqv ok hl (List.mem_of_getElem? hlm)]
      refine decide_eq_false fun en => ?_
      have e1 : P.names[m]? = some l.nm := by unfold Pl.names; rw [List.getElem?_map, hlm, ← en]; rfl
      have e2 : P.names[i]? = some l.nm := by unfold Pl.names; rw [List.getElem?_map, hli]; rfl
      have := (List.getElem?_inj (List.getElem?_eq_some_iff.mp e1).1 ok.lnd).mp (e1.trans e2.symm)
      omega
    walk_at "rz"
    rename_i tt htt HZ sZ eZ
    have shd : SeqAt.shaped (.tuple [.str "setup", .str "lines", .int (i : Nat)]) = true := sh_setup (by decide +kernel) i
    refine ⟨_, _, .tup (SqT.of (sZ _ _ eY)) (.cons (.str _) (.cons (.str _) (.cons (.int _) .nil))), .tup (SqT.of eZ) (.cons (.str _) (.cons (.str _) (.cons (.int _) .nil))), shd, shd, ?_⟩
    rw [shaped_eqvW shd]
    have s9Z := s9Y.trans sZ
    exact q _ (f09.trans s9Z.fr) (row9.same s9Z) (t9.ext fun b o e => s9Z _ _ e)
end
set_option maxHeartbeats 4000000
open PySem PySem.Spec PyProof.Rows L2 Z
open He (ga ma)
open LamX (TabS)
def lm_w_are_unknown_0 : Lm := lmAt (exIn (stEx (stIn ((defBody s_w_are_unknown).getD 0 (.Pass ⟨0, 0, 0, 0⟩)) 0)) 0) none
def lm_w_are_unknown_1 : Lm := lmAt (exIn (stEx (stIn ((defBody s_w_are_unknown).getD 0 (.Pass ⟨0, 0, 0, 0⟩)) 0)) 1) (some (3, "_law_z", .int 0))
def lm_w_are_unknown_2 : Lm := lmAt (exIn (stEx (stIn ((defBody s_w_are_unknown).getD 0 (.Pass ⟨0, 0, 0, 0⟩)) 0)) 2) (some (4, "_law_y", .int 0))
def lm_w_are_unknown_3 : Lm := lmAt (exIn (exIn (stEx (stIn ((defBody s_w_are_unknown).getD 0 (.Pass ⟨0, 0, 0, 0⟩)) 1)) 1) 0) (some (5, "_law_x", .int 0))
def lm_w_are_unknown_4 : Lm := lmAt (exIn (exIn (stEx (stIn ((defBody s_w_are_unknown).getD 0 (.Pass ⟨0, 0, 0, 0⟩)) 1)) 1) 1) (some (6, "_law_w", .int 0))
abbrev tU (K : Fg) : Addr := tabA K (ga K "_law_are_unknown")
abbrev qU : Str := (("_law_are_unknown" : Str) ++ ".<locals>.") ++ "<lambda>"
theorem lcLN {K : Fg} {σ : L2.St} {H1 : Hp} {Q : VK} {g : TG} {tt : TT} {te : TE} {vs : List Nat} {a : Addr} {xs : List V} (hT : SqL K H1 a xs) (hn : xs.length ≤ 40000)
    (hs : ∀ (i : Nat) (v : V) (H : Hp) (Yes : VK) (No : Hp → Prop), xs[i]? = some v → Same H1 H → (∀ H3, Same H H3 → No H3) →
      g v (wipe σ vs) H fun σ2 H2 => wipe σ2 vs = wipe σ vs ∧ tt σ2 H2 fun b H3 => if b = true then te σ2 H3 Yes else No H3)
    (hd : ∀ D H', H1 D = none → Same H1 H' → H' D = some (.lst []) → Q (.ref D) H') : LcL K g tt te vs σ Q (.ref a) H1 := by
  refine ⟨a, rfl, ⟨xs, hT⟩, fun D hD => ?_⟩
  have hz : ∀ {i : Nat}, i < xs.length → (List.range xs.length)[i]? = some i := fun {i} h => List.getElem?_range h
  refine lc_dat (K := K) walk_list (pAt (List.range xs.length) fun _ => false) (dAt (List.range xs.length) fun _ => PyData.none) hD hn (dAt_tupd fun x hx => rfl) (fun H s => s.seq hT) (fun i H x H' y => by rw [y.1]; exact Same.refl H) (fun i x H H' Yes No hi s1 y yes no => ?_) (fun H' ys s1 e1 a1 => ?_)
  · obtain ⟨rfl, hx⟩ := y
    rw [pAt_eq (hz hi)] at no
    exact hs i x H' Yes No hx s1 fun H3 s => no rfl H3 s
  · have k := keptD_list (l := List.range xs.length) (p := fun _ => false) (f := fun _ => PyData.none)
    rw [List.length_range] at k
    rw [k, List.filter_eq_nil_iff.mpr (by simp)] at a1
    cases a1
    exact hd D H' hD s1 e1
def spUnknown (K : Fg) : Sp := fun vs H Q _ => ∃ D P, vs = [.ref D.p] ∧ PlanAt K H D P ∧ (∀ z ∈ P.names, z ∈ nm6) ∧ TabS H (tU K) qU ∧ ∀ H', Fr [tU K] H H' → TabS H' (tU K) qU → Q (.bl true) H'
section
variable {P : Program} {w : World} {K : Fg} {mg : Str → Option Value} {base : Heap}
theorem ok_w_are_unknown (T : Txt K mg) (TBL : LamX.TabB base mg (codA K (ga K "_law_are_unknown")) (tU K)) : FnOk P w K mg base (L2.CX P w) 24 (ga K "_law_are_unknown") (fdOf K (ga K "_law_are_unknown")) ["_law_setup_here"] (spUnknown K) := by
  refine okC T.F_w_are_unknown sc_w_are_unknown (fun vs H Q E h => ?_) (fun A outer s H vs Q E hr h => ⟨_, PSs.nox (pss_cons (ps_for PassesOwn.never rfl (kIT K (pi_tup (pe_tup (pa_cons pe_str (pa_cons pe_str (pa_cons pe_non (pa_cons pe_int (pa_cons (pe_tup (pa_cons pe_str pa_nil)) pa_nil)))))))) (zg 1 sc_w_are_unknown.nd)
      (pss_cons (zset 2 sc_w_are_unknown.nd (pe_lst (pa_cons (z_lam0 lm_w_are_unknown_0 rfl TBL rfl rfl (lmS_by (sc := defScope s_w_are_unknown) (by decide +kernel)) rfl) (pa_cons (z_lam1 (i := 3) (y := "_law_z") (v := .int 0) lm_w_are_unknown_1 rfl TBL rfl rfl (lmS_by (sc := defScope s_w_are_unknown) (by decide +kernel)) rfl rfl pe_int) (pa_cons (z_lam1 (i := 4) (y := "_law_y") (v := .int 0) lm_w_are_unknown_2 rfl TBL rfl rfl (lmS_by (sc := defScope s_w_are_unknown) (by decide +kernel)) rfl rfl pe_int) pa_nil)))))
      (pss_cons (zset 2 sc_w_are_unknown.nd (pe_op op_cat (pv 2) (pe_lst (pa_cons (z_lam1 (i := 5) (y := "_law_x") (v := .int 0) lm_w_are_unknown_3 rfl TBL rfl rfl (lmS_by (sc := defScope s_w_are_unknown) (by decide +kernel)) rfl rfl pe_int) (pa_cons (z_lam1 (i := 6) (y := "_law_w") (v := .int 0) lm_w_are_unknown_4 rfl TBL rfl rfl (lmS_by (sc := defScope s_w_are_unknown) (by decide +kernel)) rfl rfl pe_int) pa_nil)))))
      (pss_one (ps_if (PW.pt (pw_or (pt_cmpR (op_inO T.m_Setup_contains.at_ T.m_Setup_contains.fn (ok_Setup_contains T) T.c_Setup_contains (hr.mono (by decide)) passL) (pv 1) (pv 0) (by rfl)) (pw_or1 (pt_cmpR (op_ne0K K hr.units) (pe_lcKept (own := [("_law_work", 7)]) rfl sc_w_are_unknown.nd (kIL K (pi_list (pv 2))) (blkOk_by (own := [("_law_work", 7)]) (N := n_w_are_unknown) (sc := defScope s_w_are_unknown) (by decide +kernel)) (fun _ _ _ _ _ => (zg 7 sc_w_are_unknown.nd)) (fun _ _ _ _ _ _ _ hI hF => (pts_one (pt_cmpR (op_neDK K hr.units) (z_callLB (k := 20) hI hF (lms_cons (lmOk lm_w_are_unknown_0 rfl (lmS_by (sc := defScope s_w_are_unknown) (by decide +kernel)) (own0 rfl) (bindL0 rfl (fun _ _ _ _ _ _ => rfl)) (fun _ _ _ _ E _ _ hl => (z_ixO (pv 0) (pv 1) T.m_Setup_getitem.at_ T.sub_Setup T.m_Setup_getitem.fn (ok_Setup_getitem_x T) T.c_Setup_getitem (hl.mono (by decide)) (passes_call (takes_of rfl rfl rfl rfl) (fun _ _ _ _ h => h))))) (lms_cons (lmOk lm_w_are_unknown_1 rfl (lmS_by (sc := defScope s_w_are_unknown) (by decide +kernel)) (own1 rfl rfl) (bindL1 rfl (fun _ _ _ _ _ _ _ => ⟨_, rfl, fun _ => rfl⟩)) (fun _ _ _ _ E _ _ hl => (pe_op (op_subA (K := K) T.m_Setup_sub.at_ T.m_Setup_sub.fn T.sf_Setup T.nfi_Setup T.nfn_Setup T.nfs_Setup T.nor_Setup (ok_Setup_sub_x T) T.c_Setup_sub (hl.mono (by decide)) (passes_call (takes_of rfl rfl rfl rfl) (fun _ _ _ _ h => h))) (pv 0) (pv 1)))) (lms_cons (lmOk lm_w_are_unknown_2 rfl (lmS_by (sc := defScope s_w_are_unknown) (by decide +kernel)) (own1 rfl rfl) (bindL1 rfl (fun _ _ _ _ _ _ _ => ⟨_, rfl, fun _ => rfl⟩)) (fun _ _ _ _ E _ _ hl => (z_meth (pv 0) T.cl_Setup T.m_Setup_with_rank (ok_Setup_with_rank_x T) T.c_Setup_with_rank (hl.mono (by decide)) (passes_call (takes_of rfl rfl rfl rfl) (fun _ _ _ _ h => h)) (pa_cons (pv 1) (pa_cons pe_int pa_nil))))) (lms_cons (lmOk lm_w_are_unknown_3 rfl (lmS_by (sc := defScope s_w_are_unknown) (by decide +kernel)) (own1 rfl rfl) (bindL1 rfl (fun _ _ _ _ _ _ _ => ⟨_, rfl, fun _ => rfl⟩)) (fun _ _ _ _ E _ _ hl => (z_meth (pv 0) T.cl_Setup T.m_Setup_ticks_of (ok_Setup_ticks_of_x T) T.c_Setup_ticks_of (hl.mono (by decide)) (passes_call (takes_of rfl rfl rfl rfl) (fun _ _ _ _ h => h)) (pa_cons (pv 1) pa_nil)))) (lms_cons (lmOk lm_w_are_unknown_4 rfl (lmS_by (sc := defScope s_w_are_unknown) (by decide +kernel)) (own1 rfl rfl) (bindL1 rfl (fun _ _ _ _ _ _ _ => ⟨_, rfl, fun _ => rfl⟩)) (fun _ _ _ _ E _ _ hl => (z_meth (pv 0) T.cl_Setup T.m_Setup_touched_by (ok_Setup_touched_by_x T) T.c_Setup_touched_by (hl.mono (by decide)) (passes_call (takes_of rfl rfl rfl rfl) (fun _ _ _ _ h => h)) (pa_cons (pv 1) pa_nil)))) lms_nil))))) sc_w_are_unknown.nd T.F_w_raised T.c_w_raised rfl T.g_w_raised sc_w_raised rfl (.inl (by decide +kernel)) (fun cdv => gives_w_raised T cdv) (hr.mono (by decide)) (pv 7)) (pe_tup (pa_cons pe_str (pa_cons (pv 1) pa_nil))) (nomark _)))) (fun _ _ _ _ _ _ _ hI hF => (pv 7))) (pe_lst pa_nil) (nomark _))))) (pss_one (ps_ret pe_bl)) pss_nil)))))
      (pss_one (ps_ret pe_bl))), ?_⟩)
  · obtain ⟨D, P, rfl, _⟩ := h
    rfl
  obtain ⟨D, P, rfl, pl, six, tab, q⟩ := h
  have ok := pl.ok
  have tx : ∀ {H : Hp}, TabS H (tU K) qU → ∀ {a : Addr}, H a = none → a ≠ tU K := fun {H} h {a} ha e => by
    obtain ⟨ps, e2, _⟩ := h
    rw [e, e2] at ha
    cases ha
  show (_ : TS) _ (some (.ref D.p) :: List.replicate 7 none) H
  try dsimp only [cxOf]
  dsimp only [List.replicate]
  walk_at "rz"
  rename_i tn htn Hj sj ej tb htb Hk sk ek
  have sjk := sj.trans sk
  have en0 := sk _ _ ej
  have tab0 : TabS Hk (tU K) qU := tab.ext fun b o e => sjk _ _ e
  have tnL : tn ≠ tU K := tx tab htn
  have tbL : tb ≠ tU K := tx (tab.ext fun b o e => sj _ _ e : TabS Hj (tU K) qU) htb
  have nE : ∀ {H : Hp}, TabS H (tU K) qU → ∀ a ∈ [tU K], NoE H a := fun {H} h a ha φ k => by
    obtain ⟨ps, e, _⟩ := h
    rw [List.mem_singleton.mp ha, e] at k
    cases k
  refine ⟨⟨_, SqT.of ek⟩, for_tup (xs := [.str "q", .str "", .non, .int 5, .ref tn]) (fun j σ Hx => (∃ u9 u10, σ = [some (.ref D.p), u9, u10, none, none, none, none, none]) ∧ Fr [tU K] Hk Hx ∧ PlanAt K Hx D P ∧ TabS Hx (tU K) qU ∧ Hx tb = some (.tup [.str "q", .str "", .non, .int 5, .ref tn]) ∧ Hx tn = some (.tup [.str "net"]))
    ⟨⟨_, _, rfl⟩, Fr.refl, pl.same sjk, tab0, ek, en0⟩ (fun j σ Hx _ ⟨_, _, _, _, e, _⟩ => SqT.of e) (fun j v σ Hx hj ⟨⟨u9, u10, es⟩, fx, plx, tax, ebx, enx⟩ => ?_) (fun σ Hx ⟨⟨u9, u10, es⟩, fx, plx, tax, ebx, enx⟩ => ?_)⟩
  · subst es
    have q0 : ∀ z : Str, z ∉ nm6 → z ∉ P.names := fun z h k => h (six z k)
    obtain ⟨d, dv, bd, fv, shv, td, shd, neq, kv⟩ : ∃ d, (∀ H, H tn = some (.tup [.str "net"]) → Dp K H v d) ∧ nameIn P d = false ∧ (∀ H, H tn = some (.tup [.str "net"]) → FmtOk K H v) ∧ SeqAt.shaped (.tuple [.str "line", d]) = true ∧ tupd d = true ∧ SeqAt.shaped d = true ∧ (∀ l ∈ P.ls, PyData.eqv (.str l.nm) d = false) ∧
        ((∃ z, v = .str z) ∨ v = .non ∨ (∃ i, v = .int i) ∨ v = .ref tn) := by
      have n0 : ∀ z : Str, z ∉ P.names → ∀ l ∈ P.ls, PyData.eqv (.str l.nm) (.str z) = false := fun z h l hl => by
        rw [eqv_str]
        exact decide_eq_false fun e => h (by rw [← e]; exact List.mem_map_of_mem hl)
      match j, hj with
      | 0, hj => cases hj; exact ⟨_, fun H _ => .str _, decide_eq_false (q0 _ (by decide)), fun H _ => .inl ⟨"q", by decide, by decide⟩, by decide +kernel, rfl, by decide +kernel, n0 _ (q0 _ (by decide)), .inl ⟨_, rfl⟩⟩
      | 1, hj => cases hj; exact ⟨_, fun H _ => .str _, decide_eq_false (q0 _ (by decide)), fun H _ => .inl ⟨"", by decide, by decide⟩, by decide +kernel, rfl, by decide +kernel, n0 _ (q0 _ (by decide)), .inl ⟨_, rfl⟩⟩
      | 2, hj => cases hj; exact ⟨_, fun H _ => .non, rfl, fun H _ => .inl ⟨"None", rfl, by decide⟩, by decide +kernel, rfl, by decide +kernel, fun l hl => by simp [PyData.eqv], .inr (.inl rfl)⟩
      | 3, hj => cases hj; exact ⟨_, fun H _ => .int _, rfl, fun H _ => .inl ⟨"5", by decide +kernel, by decide⟩, by decide +kernel, rfl, by decide +kernel, fun l hl => by simp [PyData.eqv], .inr (.inr (.inl ⟨_, rfl⟩))⟩
      | 4, hj => cases hj; exact ⟨.tuple [.str "net"], fun H e => .tup (SqT.of e) (.cons (.str _) .nil), rfl, fun H e => .inr ⟨tn, ["net"], rfl, SqT.of e, by decide +kernel, by decide +kernel⟩, by decide +kernel, rfl, by decide +kernel, fun l hl => by simp [PyData.eqv], .inr (.inr (.inr rfl))⟩
      | n + 5, hj => simp at hj
    have t0 := tax
    have pl0 := plx
    have eb0 := ebx
    have en0 := enx
    walk_at "rz"
    refine s_lamV ⟨t0, fun g1 H1 f1 t1 _ k1 => ?_⟩
    have t1 : TabS H1 (tU K) qU := t1
    have pl1 := plan_tab t0 pl0 f1
    have eb1 := f1.at eb0 (by simp [tbL])
    have en1 := f1.at en0 (by simp [tnL])
    walk_at "rz"
    refine s_lamV ⟨t1, fun g2 H2 f2 t2 _ k2 => ?_⟩
    have t2 : TabS H2 (tU K) qU := t2
    have pl2 := plan_tab t1 pl1 f2
    have eb2 := f2.at eb1 (by simp [tbL])
    have en2 := f2.at en1 (by simp [tnL])
    have k1 := k1.fr f2 (nE t1)
    walk_at "rz"
    refine s_lamV ⟨t2, fun g3 H3 f3 t3 _ k3 => ?_⟩
    have t3 : TabS H3 (tU K) qU := t3
    have pl3 := plan_tab t2 pl2 f3
    have eb3 := f3.at eb2 (by simp [tbL])
    have en3 := f3.at en2 (by simp [tnL])
    have k1 := k1.fr f3 (nE t2)
    have k2 := k2.fr f3 (nE t2)
    walk_at "rz"
    rename_i lw hlw HA sA eA
    have tA : TabS HA (tU K) qU := t3.ext fun b o e => sA _ _ e
    have plA := pl3.same sA
    have ebA := sA _ _ eb3
    have enA := sA _ _ en3
    have k1 := k1.same sA
    have k2 := k2.same sA
    have k3 := k3.same sA
    have lwL : lw ≠ tU K := tx t3 hlw
    refine s_lamV ⟨tA, fun g4 H4 f4 t4 _ k4 => ?_⟩
    have t4 : TabS H4 (tU K) qU := t4
    have pl4 := plan_tab tA plA f4
    have eb4 := f4.at ebA (by simp [tbL])
    have en4 := f4.at enA (by simp [tnL])
    have k1 := k1.fr f4 (nE tA)
    have k2 := k2.fr f4 (nE tA)
    have k3 := k3.fr f4 (nE tA)
    walk_at "rz"
    refine s_lamV ⟨t4, fun g5 H5 f5 t5 _ k5 => ?_⟩
    have t5 : TabS H5 (tU K) qU := t5
    have pl5 := plan_tab t4 pl4 f5
    have eb5 := f5.at eb4 (by simp [tbL])
    have en5 := f5.at en4 (by simp [tnL])
    have k1 := k1.fr f5 (nE t4)
    have k2 := k2.fr f5 (nE t4)
    have k3 := k3.fr f5 (nE t4)
    have k4 := k4.fr f5 (nE t4)
    walk_at "rz"
    rename_i l2 hl2 HB sB eB
    have eAB := sB _ _ (f5.at (f4.at eA (by simp [lwL])) (by simp [lwL]))
    refine s_cat eAB eB (by rw [sizeLine_eq]; simp) fun lc hlc => ?_
    generalize eH : upd HB lc _ = HC
    have sC := newS hlc eH
    have eC : HC lc = some (.lst [.ref g1, .ref g2, .ref g3, .ref g4, .ref g5]) := newE eH
    clear eH
    have sBC := sB.trans sC
    have k1 := k1.same sBC
    have k2 := k2.same sBC
    have k3 := k3.same sBC
    have k4 := k4.same sBC
    have k5 := k5.same sBC
    have plC := pl5.same sBC
    have tbC : TabS HC (tU K) qU := t5.ext fun b o e => sBC _ _ e
    have ebC := sBC _ _ eb5
    have enC := sBC _ _ en5
    have fxC : Fr [tU K] Hk HC := ((((((fx.trans f1).trans f2).trans f3).trans sA.fr).trans f4).trans f5).trans sBC.fr
    clear sB sC sBC eAB eB hl2 hlc eA sA f1 f2 f3 f4 f5 pl0 pl1 pl2 pl3 plA pl4 pl5 eb0 eb1 eb2 eb3 ebA eb4 eb5 en0 en1 en2 en3 enA en4 en5 t0 t1 t2 t3 tA t4 t5 fx plx ebx enx tax lwL hlw
    obtain ⟨pdx, pa, pb, hpC, _⟩ := plC.ins
    walk_at "rz"
    refine ⟨_, _, _, rfl, hpC, D, v, d, P, rfl, plC, dv _ enC, _, rfl, ?_⟩
    rw [if_neg Bool.false_ne_true, bd]
    walk_at "rz"
    refine s_lcKept ?_
    walk_at "rz"
    refine lcLN (SqL.of eC) (by simp) (fun i vf Hc Yes No hi sc1 no => ?_) (fun D3 Hc hD3 sc1 ec => ?_)
    · have plc := plC.same sc1
      have k1 := k1.same sc1
      have k2 := k2.same sc1
      have k3 := k3.same sc1
      have k4 := k4.same sc1
      have k5 := k5.same sc1
      have enc := sc1 _ _ enC
      obtain ⟨pdx, pa, pb, hpc, _⟩ := plc.ins
      have hvt : (∃ z, v = .str z) ∨ v = .non ∨ (∃ i, v = .int i) ∨ ∃ b xs, v = .ref b ∧ SqT K Hc b xs := by
        rcases kv with h | h | h | h
        · exact .inl h
        · exact .inr (.inl h)
        · exact .inr (.inr (.inl h))
        · exact .inr (.inr (.inr ⟨tn, _, h, SqT.of enc⟩))
      walk_at "rz"
      refine ⟨rfl, ?_⟩
      walk_at "rz"
      refine s_callL ?_
      walk_at "rz"
      unfold TTrai
      have fin : ∀ (Q' : VK), (∀ t8 H8, Same Hc H8 → H8 t8 = some (.tup [.str "line", v]) → Q' (.ref t8) H8) → ∀ dx H7, Same Hc H7 → H7 dx = some (.xd [("line", v)]) → RaiE K (.ref (ga K "UnknownLine")) (some dx) H7 Q' := fun Q' h dx H7 s7 e7 => .inl ⟨rfl, dx, v, rfl, e7, fun t8 H8 s8 e8 => h t8 H8 (s7.trans s8) e8⟩
      match i, hi with
      | 0, hi =>
        cases hi
        refine ⟨g1, _, rfl, List.mem_cons_self, k1, k1, ?_⟩
        walk_at "rz"
        refine ⟨D, P, v, d, rfl, plc, dv _ enc, fv _ enc, bd, fin _ fun t8 H8 s8 e8 => ?_⟩
        walk_at "rz"
        rename_i t9 ht9 H9 s9 e9
        refine s_neRefl shv (.tup (SqT.of (s9 _ _ e8)) (.cons (.str _) (.cons (dv _ (s9 _ _ (s8 _ _ enc))) .nil))) (.tup (SqT.of e9) (.cons (.str _) (.cons (dv _ (s9 _ _ (s8 _ _ enc))) .nil))) ?_
        walk_at "rz"
        exact no _ (s8.trans s9)
      | 1, hi =>
        cases hi
        refine ⟨g2, _, rfl, (List.mem_cons_of_mem _ List.mem_cons_self), k2, k2, ?_⟩
        walk_at "rz"
        refine ⟨D.p, pdx, _, rfl, hpc, hvt, D, P, v, d, rfl, plc, dv _ enc, shd, .inl ⟨neq, fv _ enc, fin _ fun t8 H8 s8 e8 => ?_⟩⟩
        walk_at "rz"
        rename_i t9 ht9 H9 s9 e9
        refine s_neRefl shv (.tup (SqT.of (s9 _ _ e8)) (.cons (.str _) (.cons (dv _ (s9 _ _ (s8 _ _ enc))) .nil))) (.tup (SqT.of e9) (.cons (.str _) (.cons (dv _ (s9 _ _ (s8 _ _ enc))) .nil))) ?_
        walk_at "rz"
        exact no _ (s8.trans s9)
      | 2, hi =>
        cases hi
        refine ⟨g3, _, rfl, (List.mem_cons_of_mem _ (List.mem_cons_of_mem _ List.mem_cons_self)), k3, k3, ?_⟩
        walk_at "rz"
        refine ⟨D, P, v, 0, d, rfl, plc, dv _ enc, fv _ enc, .inl ⟨bd, fin _ fun t8 H8 s8 e8 => ?_⟩⟩
        walk_at "rz"
        rename_i t9 ht9 H9 s9 e9
        refine s_neRefl shv (.tup (SqT.of (s9 _ _ e8)) (.cons (.str _) (.cons (dv _ (s9 _ _ (s8 _ _ enc))) .nil))) (.tup (SqT.of e9) (.cons (.str _) (.cons (dv _ (s9 _ _ (s8 _ _ enc))) .nil))) ?_
        walk_at "rz"
        exact no _ (s8.trans s9)
      | 3, hi =>
        cases hi
        refine ⟨g4, _, rfl, (List.mem_cons_of_mem _ (List.mem_cons_of_mem _ (List.mem_cons_of_mem _ List.mem_cons_self))), k4, k4, ?_⟩
        walk_at "rz"
        refine ⟨D, P, v, d, rfl, plc, dv _ enc, fv _ enc, bd, fin _ fun t8 H8 s8 e8 => ?_⟩
        walk_at "rz"
        rename_i t9 ht9 H9 s9 e9
        refine s_neRefl shv (.tup (SqT.of (s9 _ _ e8)) (.cons (.str _) (.cons (dv _ (s9 _ _ (s8 _ _ enc))) .nil))) (.tup (SqT.of e9) (.cons (.str _) (.cons (dv _ (s9 _ _ (s8 _ _ enc))) .nil))) ?_
        walk_at "rz"
        exact no _ (s8.trans s9)
      | 4, hi =>
        cases hi
        refine ⟨g5, _, rfl, (List.mem_cons_of_mem _ (List.mem_cons_of_mem _ (List.mem_cons_of_mem _ (List.mem_cons_of_mem _ List.mem_cons_self)))), k5, k5, ?_⟩
        walk_at "rz"
        refine ⟨D, P, v, d, rfl, plc, dv _ enc, fv _ enc, bd, fin _ fun t8 H8 s8 e8 => ?_⟩
        walk_at "rz"
        rename_i t9 ht9 H9 s9 e9
        refine s_neRefl shv (.tup (SqT.of (s9 _ _ e8)) (.cons (.str _) (.cons (dv _ (s9 _ _ (s8 _ _ enc))) .nil))) (.tup (SqT.of e9) (.cons (.str _) (.cons (dv _ (s9 _ _ (s8 _ _ enc))) .nil))) ?_
        walk_at "rz"
        exact no _ (s8.trans s9)
      | n + 5, hi => simp at hi
    walk_at "rz"
    rename_i l0 hl0 Hd sd ed
    refine s_eq0L (SqL.of (sd _ _ ec)) (SqL.of ed) ?_
    have scd := sc1.trans sd
    walk_at "rz"
    exact ⟨⟨_, _, rfl⟩, fxC.trans scd.fr, plC.same scd, tbC.ext fun b o e => scd _ _ e, scd _ _ ebC, scd _ _ enC⟩
  · subst es
    walk_at "rz"
    exact q Hx ((sjk.fr).trans fx) tax
end
end T
set_option maxHeartbeats 2000000
namespace T
open PySem PySem.Spec PyProof.Rows L2 Z
open He (ga ma)
open LamX (TabS)
theorem step_val {k1 k2 : List (Key × V)} {ws : List V} {s : Str × Key} (h : ∀ y, valV k1 (.inr y) = valV k2 (.inr y)) : isStep k1 ws (dSt s) = isStep k2 ws (dSt s) := by
  obtain ⟨w, k⟩ := s
  show isStepX k1 ws w (kD k) = isStepX k2 ws w (kD k)
  unfold isStepX
  cases k with
  | inl i => rfl
  | inr y =>
    show (if _ then ((valV k1 (.inr y)).isSome && (_ || decide (valV k1 (.inr y) = _))) else _) = (if _ then ((valV k2 (.inr y)).isSome && (_ || decide (valV k2 (.inr y) = _))) else _)
    rw [h y]
theorem val_mem {ls ls' : List Ln} (n' : (ls'.map (·.nm)).Nodup) (h : ∀ l ∈ ls, l ∈ ls') {y : Str} {v : V} (e : valV (⟨ls, []⟩ : Pl).kinds (.inr y) = some v) : valV (⟨ls', []⟩ : Pl).kinds (.inr y) = some v := by
  obtain ⟨l, hl, rfl, rfl⟩ := kinds_val e
  unfold valV Pl.kinds
  rw [List.find?_map]
  have h2 : (ls'.find? ((fun kv : Key × V => decide (kv.1 = (.inr l.nm : Key))) ∘ fun l => ((.inr l.nm : Key), V.str l.kd))) = some l := by
    have := find_nd (f := fun y : Ln => y.nm) n' (h l hl)
    rw [← this]
    refine congrArg (fun f => List.find? f ls') (funext fun a => ?_)
    show decide ((.inr a.nm : Key) = .inr l.nm) = (a.nm == l.nm)
    by_cases e : a.nm = l.nm
    · rw [e]; simp
    · rw [decide_eq_false fun k => e (Sum.inr.inj k)]
      simp [e]
  rw [h2]
  rfl
def revP (P : Pl) : Pl := ⟨P.ls.reverse, P.ws⟩
theorem rev_ok {P : Pl} (ok : P.Ok) : (revP P).Ok := by
  have nd : (P.ls.reverse.map (·.nm)).Nodup := by
    rw [List.map_reverse]
    exact (List.reverse_perm _).nodup_iff.mpr ok.lnd
  have hv : ∀ y, valV (revP P).kinds (.inr y) = valV P.kinds (.inr y) := fun y => by
    cases e : valV P.kinds (.inr y) with
    | some v => exact val_mem (ls := P.ls) nd (fun l hl => List.mem_reverse.mpr hl) e
    | none =>
      cases e2 : valV (revP P).kinds (.inr y) with
      | none => rfl
      | some v =>
        have := val_mem (ls := P.ls.reverse) (ls' := P.ls) ok.lnd (fun l hl => List.mem_reverse.mp hl) e2
        have this : valV P.kinds (.inr y) = some v := this
        rw [this] at e
        cases e
  refine ⟨fun e => ok.ne (List.reverse_eq_nil_iff.mp e), by show P.ls.reverse.length ≤ 12; rw [List.length_reverse]; exact ok.l12, ok.w8, fun l hl => ok.lok l (List.mem_reverse.mp hl), ok.wok, nd, ok.wnd, fun l hl s hs => ?_, fun l hl => ok.shl l (List.mem_reverse.mp hl), ok.shw⟩
  rw [step_val hv]
  exact ok.sok l (List.mem_reverse.mp hl) s hs
theorem eqvAll_lenW : ∀ {a b : List PyData}, PyData.eqvAll a b = true → a.length = b.length
  | [], [], _ => rfl
  | _ :: a, _ :: b, h => by
    have h : (_ && PyData.eqvAll a b) = true := h
    rw [List.length_cons, List.length_cons, eqvAll_lenW (Bool.and_eq_true_iff.mp h).2]
theorem plan_revW {P : Pl} (ok : P.Ok) (h : 1 < P.ls.length) : PyData.eqv (planD P) (planD (revP P)) = false := by
  refine Bool.eq_false_iff.mpr fun e => ?_
  have e2 : (PyData.eqvAll (P.ls.map dLn) (P.ls.reverse.map dLn) && (PyData.eqvAll (P.ws.map dWk) (P.ws.map dWk) && true)) = true := e
  have hq := (Bool.and_eq_true_iff.mp e2).1
  obtain ⟨ls, ws⟩ := P
  have nd := ok.lnd
  unfold Pl.names at nd
  dsimp only at h hq nd
  match ls, h, hq, nd with
  | l :: rest, h, hq, nd =>
    rw [List.reverse_cons] at hq
    cases hr : rest.reverse with
    | nil =>
      rw [List.reverse_eq_nil_iff.mp hr] at h
      simp at h
    | cons x rs =>
      rw [hr] at hq
      have hx : x ∈ rest := List.mem_reverse.mp (by rw [hr]; simp)
      have h1 : (PyData.eqv (dLn l) (dLn x) && PyData.eqvAll (rest.map dLn) ((rs ++ [l]).map dLn)) = true := hq
      have h2 := (Bool.and_eq_true_iff.mp h1).1
      have h4 : l.nm = x.nm := by
        simp only [dLn, PyData.eqv, PyData.eqvAll, Bool.and_eq_true] at h2
        simpa using h2.1
      rw [List.map_cons, List.nodup_cons] at nd
      exact nd.1 (by rw [h4]; exact List.mem_map_of_mem hx)
theorem lines_ok {P : Pl} (ok : P.Ok) {f : Ln → Ln} (ws : List Wk) (hw : ws.length ≤ 8 ∧ (∀ w ∈ ws, w ∈ P.ws) ∧ (ws.map (·.nm)).Nodup) (hn : ∀ l, (f l).nm = l.nm) (hk : ∀ l, (f l).kd = l.kd) (hl : ∀ l ∈ P.ls, isLine (dLn (f l)) = true ∧ short (dLn (f l)) = true)
    (hs : ∀ l ∈ P.ls, ∀ s ∈ (f l).st, isStep P.kinds (ws.map fun w => V.str w.nm) (dSt s) = true) : (⟨P.ls.map f, ws⟩ : Pl).Ok := by
  have en : (⟨P.ls.map f, ws⟩ : Pl).names = P.names := by
    show (P.ls.map f).map (·.nm) = P.ls.map (·.nm)
    rw [List.map_map]
    exact List.map_congr_left fun l _ => hn l
  have ek : (⟨P.ls.map f, ws⟩ : Pl).kinds = P.kinds := by
    show (P.ls.map f).map _ = P.ls.map _
    rw [List.map_map]
    exact List.map_congr_left fun l _ => by show ((.inr (f l).nm : Key), V.str (f l).kd) = _; rw [hn, hk]
  refine ⟨fun e => ok.ne (List.map_eq_nil_iff.mp e), by show (P.ls.map _).length ≤ 12; rw [List.length_map]; exact ok.l12, hw.1, fun l h => ?_, fun w h => ok.wok w (hw.2.1 w h), by rw [en]; exact ok.lnd, hw.2.2, fun l h s h2 => ?_, fun l h => ?_, fun w h => ok.shw w (hw.2.1 w h)⟩
  · obtain ⟨l, hm, rfl⟩ := List.mem_map.mp h
    exact (hl l hm).1
  · obtain ⟨l, hm, rfl⟩ := List.mem_map.mp h
    rw [ek]
    have e2 : ((⟨P.ls.map f, ws⟩ : Pl).wnames.map V.str) = ws.map fun w => V.str w.nm := by
      show (ws.map (·.nm)).map V.str = _
      rw [List.map_map]
      rfl
    rw [e2]
    exact hs l hm s h2
  · obtain ⟨l, hm, rfl⟩ := List.mem_map.mp h
    exact (hl l hm).2
def simL (l : Ln) : Ln := ⟨l.nm, l.kd, l.rk, [("run", .inl 1)]⟩
theorem sim_lines {P : Pl} (ok : P.Ok) : ∀ l ∈ P.ls, isLine (dLn (simL l)) = true ∧ short (dLn (simL l)) = true := fun l hl => by
  constructor
  · have g : (isName (.str l.nm) && (isKind (.str l.kd) && (isIntD 1 9 (.int l.rk) && isSteps 8 (.tuple (l.st.map dSt))))) = true := ok.lok l hl
    show (isName (.str l.nm) && (isKind (.str l.kd) && (isIntD 1 9 (.int l.rk) && isSteps 8 (.tuple [dSt ("run", .inl 1)])))) = true
    simp only [Bool.and_eq_true] at g
    rw [g.1, g.2.1, g.2.2.1]
    decide +kernel
  · have g : (short (.str l.nm) && (short (.str l.kd) && (true && (shorts (l.st.map dSt) && true)))) = true := ok.shl l hl
    show (short (.str l.nm) && (short (.str l.kd) && (true && (shorts [dSt ("run", .inl 1)] && true)))) = true
    simp only [Bool.and_eq_true] at g
    rw [g.1, g.2.1]
    decide +kernel
theorem sim_ok {P : Pl} (ok : P.Ok) : (⟨P.ls.map simL, P.ws⟩ : Pl).Ok := lines_ok ok P.ws ⟨ok.w8, fun _ h => h, ok.wnd⟩ (fun _ => rfl) (fun _ => rfl) (sim_lines ok) fun l hl s hs => by
  rw [List.mem_singleton.mp hs]
  exact step_run (kvs := []) (ws := []) rfl (by decide +kernel)
theorem sim_ok0 {P : Pl} (ok : P.Ok) : (⟨P.ls.map simL, []⟩ : Pl).Ok := lines_ok ok [] ⟨by decide, fun _ h => (List.not_mem_nil h).elim, List.Pairwise.nil⟩ (fun _ => rfl) (fun _ => rfl) (sim_lines ok) fun l hl s hs => by
  rw [List.mem_singleton.mp hs]
  exact step_run (kvs := []) (ws := []) rfl (by decide +kernel)
theorem sim_ne {P : Pl} (h : P.ws ≠ []) : PyData.eqv (planD ⟨P.ls.map simL, P.ws⟩) (planD ⟨P.ls.map simL, []⟩) = false := by
  refine Bool.eq_false_iff.mpr fun e => h ?_
  have e2 : (PyData.eqvAll ((P.ls.map simL).map dLn) ((P.ls.map simL).map dLn) && (PyData.eqvAll (P.ws.map dWk) [] && true)) = true := e
  have := eqvAll_lenW (Bool.and_eq_true_iff.mp (Bool.and_eq_true_iff.mp e2).2).1
  rw [List.length_map] at this
  exact List.eq_nil_of_length_eq_zero this
def fivL (l : Ln) : Ln := ⟨l.nm, l.kd, 5, l.st⟩
theorem fiv_ok {P : Pl} (ok : P.Ok) : (⟨P.ls.map fivL, P.ws⟩ : Pl).Ok := lines_ok ok P.ws ⟨ok.w8, fun _ h => h, ok.wnd⟩ (fun _ => rfl) (fun _ => rfl) (fun l hl => by
  constructor
  · have g : (isName (.str l.nm) && (isKind (.str l.kd) && (isIntD 1 9 (.int l.rk) && isSteps 8 (.tuple (l.st.map dSt))))) = true := ok.lok l hl
    show (isName (.str l.nm) && (isKind (.str l.kd) && (isIntD 1 9 (.int 5) && isSteps 8 (.tuple (l.st.map dSt))))) = true
    simp only [Bool.and_eq_true] at g
    rw [g.1, g.2.1, g.2.2.2]
    decide +kernel
  · exact ok.shl l hl) fun l hl s hs => by
  have := ok.sok l hl s hs
  unfold Pl.wnames at this
  rw [List.map_map] at this
  exact this
end T
set_option maxHeartbeats 8000000
namespace T
open PySem PySem.Spec PyProof.Rows L2 Z
open He (ga ma)
open LamX (TabS)
local macro_rules | `(tactic| walk_at "z") => `(tactic| with_reducible first | refine ⟨_, _, rfl, rfl, ?_⟩ | refine ⟨_, rfl, ?_⟩)
local macro_rules | `(tactic| walk_at "z") => `(tactic| ((with_reducible refine s_isi (d := ?d1) ?h1 ?h2 ?q1); (case h1 => first | assumption | constructor); (case h2 => decide)))
local macro_rules | `(tactic| walk_at "z") => `(tactic| with_reducible first | refine s_tup ?_ | refine s_lst ?_)
local macro_rules | `(tactic| walk_at "z") => `(tactic| ((with_reducible refine s_ne ?h1 ?q1); (case h1 => exact rfl)))
local macro_rules | `(tactic| walk_at "z") => `(tactic| ((with_reducible refine s_eq ?h1 ?q1); (case h1 => exact rfl)))
local macro_rules | `(tactic| walk_at "z") => `(tactic| with_reducible first | refine s_dcT ?_ | refine s_cvalg ?_ | refine s_fldS ?_ | refine s_I0 ?_ | refine s_U ?_)
local macro_rules | `(tactic| walk_at "z") => `(tactic| with_reducible first | refine s_make ?_ | refine s_sl ?_ | refine s_nop ?_ | refine s_part ?_ | refine s_lcE ?_ | refine s_lc ?_)
local macro_rules | `(tactic| walk_at "z") => `(tactic| with_reducible first | refine s_for ?_ | refine s_rng1 ?_ | refine s_iT ?_ | refine s_iL ?_ | refine Or.inl (Exists.intro _ (And.intro rfl ?_)) | refine Or.inr (Exists.intro _ (And.intro rfl ?_)))
local macro_rules | `(tactic| walk_at "z") => `(tactic| with_reducible first | refine s_tupRg ?_ | refine s_lstRg ?_ | refine s_rg1 ?_ | refine s_items ?_ | refine s_get2 ?_ | refine s_callI ?_)
local macro_rules | `(tactic| walk_at "z") => `(tactic| with_reducible first | refine s_fldaug ?_ | refine s_add ?_ | refine s_ipI ?_ | refine s_ixO ?_ | refine s_lcL ?_ | refine s_dputg ?_)
local macro_rules | `(tactic| walk_at "z") => `(tactic| with_reducible first | refine s_daugg ?_ | refine s_disp ?_ | refine s_pcons ?_ | refine s_pnil ?_ | refine s_gsub ?_ | refine s_augS ?_)
local macro_rules | `(tactic| walk_at "z") => `(tactic| with_reducible first | refine s_bm ?_ | refine s_bm0 ?_ | refine s_fldg ?_ | refine s_meth ?_ | refine s_prop ?_ | refine s_lcT ?_)
local macro_rules | `(tactic| walk_at "z") => `(tactic| with_reducible first | refine s_yes ?_ | refine s_gcons ?_ | refine s_gnil ?_ | refine s_din ?_ | refine s_dnin ?_ | refine s_dget ?_)
local macro_rules | `(tactic| walk_at "z") => `(tactic| with_reducible first | refine s_orV ?_ | refine s_notV ?_ | refine s_if ?_ | refine s_chain ?_ | refine s_call ?_ | refine s_bl ?_)
local macro_rules | `(tactic| walk_at "z") => `(tactic| with_reducible first | refine s_test ?_ | refine s_B ?_ | refine s_and ?_ | refine s_or ?_ | refine s_not ?_ | refine s_andV ?_)
local macro_rules | `(tactic| walk_at "z") => `(tactic| with_reducible first | refine s_op ?_ | refine s_un ?_ | refine s_cb ?_ | refine s_cons ?_ | refine s_nil ?_ | refine s_star ?_)
local macro_rules | `(tactic| walk_at "z") => `(tactic| ((with_reducible refine s_var (v := ?v1) ?h1 ?q1); (case h1 => exact rfl)))
local macro_rules | `(tactic| walk_at "z") => `(tactic| with_reducible refine s_c ?_)
local macro_rules | `(tactic| walk_at "z") => `(tactic| with_reducible first | refine s_drop ?_ | refine s_next ?_ | refine s_cont ?_ | refine s_break ?_ | refine s_par ?_ | refine s_par2 ?_)
local macro_rules | `(tactic| walk_at "z") => `(tactic| with_reducible first | refine s_seq ?_ | refine s_asg ?_ | refine s_gname ?_ | refine s_ret ?_ | refine s_retN ?_ | refine s_ifS ?_)
local macro_rules | `(tactic| walk_at "zi") => `(tactic| ((with_reducible refine ite_t ?h1 ?q1); (case h1 => rfl)))
local macro_rules | `(tactic| walk_at "zi") => `(tactic| ((with_reducible refine ite_f ?h1 ?q1); (case h1 => rfl)))
local macro_rules | `(tactic| walk_at "zi") => `(tactic| walk_at "z")
local macro_rules | `(tactic| walk_at "zn") => `(tactic| (intro p hp; generalize eH : upd _ p _ = H2; have s2 := newS hp eH; have e2 := newE eH; clear eH))
local macro_rules | `(tactic| walk_at "zt") => `(tactic| ((with_reducible refine And.intro ?h1 ?_); (case h1 => exact Nat.le_of_ble_eq_true rfl); intro p hp; generalize eH : upd _ p _ = H2; have s2 := newS hp eH; have e2 := newE eH; clear eH))
local macro_rules | `(tactic| walk_at "hl") => `(tactic| ((with_reducible apply ev_same); (· assumption); · walk_at "hl"))
local macro_rules | `(tactic| walk_at "hl") => `(tactic| ((with_reducible apply mh_same); (· assumption); · walk_at "hl"))
local macro_rules | `(tactic| walk_at "hl") => `(tactic| ((with_reducible apply hs_same); (· assumption); · walk_at "hl"))
local macro_rules | `(tactic| walk_at "hl") => `(tactic| ((with_reducible apply mst_same); (· assumption); · walk_at "hl"))
local macro_rules | `(tactic| walk_at "hl") => `(tactic| ((with_reducible apply plm_same); (· assumption); · walk_at "hl"))
local macro_rules | `(tactic| walk_at "hl") => `(tactic| ((with_reducible apply md_same); (· assumption); · walk_at "hl"))
local macro_rules | `(tactic| walk_at "hl") => `(tactic| ((with_reducible apply row_same); (· assumption); · walk_at "hl"))
local macro_rules | `(tactic| walk_at "hl") => `(tactic| ((with_reducible apply sg_same); (· assumption); · walk_at "hl"))
local macro_rules | `(tactic| walk_at "hl") => `(tactic| ((with_reducible apply cst_same); (· assumption); · walk_at "hl"))
local macro_rules | `(tactic| walk_at "hl") => `(tactic| ((with_reducible apply co_same); (· assumption); · walk_at "hl"))
local macro_rules | `(tactic| walk_at "hl") => `(tactic| ((with_reducible apply bd_same); (· assumption); · walk_at "hl"))
local macro_rules | `(tactic| walk_at "hl") => `(tactic| ((with_reducible apply pl_same); (· assumption); · walk_at "hl"))
local macro_rules | `(tactic| walk_at "hl") => `(tactic| ((with_reducible apply dpA_same); (· assumption); · walk_at "hl"))
local macro_rules | `(tactic| walk_at "hl") => `(tactic| ((with_reducible apply dp_same); (· assumption); · walk_at "hl"))
local macro_rules | `(tactic| walk_at "hl") => `(tactic| ((with_reducible apply SqL.of); · walk_at "hl"))
local macro_rules | `(tactic| walk_at "hl") => `(tactic| ((with_reducible apply SqT.of); · walk_at "hl"))
local macro_rules | `(tactic| walk_at "hl") => `(tactic| ((with_reducible apply sqL_same); (· assumption); · walk_at "hl"))
local macro_rules | `(tactic| walk_at "hl") => `(tactic| ((with_reducible apply sqT_same); (· assumption); · walk_at "hl"))
local macro_rules | `(tactic| walk_at "hl") => `(tactic| ((with_reducible apply at_same); (· assumption); · walk_at "hl"))
local macro_rules | `(tactic| walk_at "hl") => `(tactic| assumption)
local macro_rules | `(tactic| walk_at "lk") => `(tactic| with_reducible first | exact coF_fr | exact coF_lim | exact coF_jo)
local macro_rules | `(tactic| walk_at "lk") => `(tactic| with_reducible first | exact bdF_hi | exact bdF_ta | exact bdF_ra | exact bdF_jo | exact sgF_plan | exact sgF_board | exact sgF_core | exact sgF_time | exact sgF_sums | exact coF_plan)
local macro_rules | `(tactic| walk_at "lk") => `(tactic| with_reducible first | exact hsF_mo | exact hsF_tu | exact hsF_rc | exact hsF_ho | exact hsF_bs | exact hsF_ds | exact hsF_ev | exact bdF_plan | exact bdF_sh | exact bdF_wa)
local macro_rules | `(tactic| walk_at "lk") => `(tactic| with_reducible first | exact bdF_re | exact bdF_wt | exact hsF_plan | exact hsF_size | exact hsF_rr | exact hsF_sr | exact hsF_wy | exact hsF_li | exact hsF_bd | exact hsF_co)
local macro_rules | `(tactic| walk_at "lk") => `(tactic| with_reducible first | exact wvF_plan | exact wvF_size | exact plF_lr | exact plF_wr | exact plF_rn | exact plF_wn | exact bdF_tm | exact bdF_hr | exact bdF_sp | exact bdF_ru)
local macro_rules | `(tactic| walk_at "mk") => `(tactic| with_reducible first | exact mk_bar | exact mk_jo | exact mk_now | exact mk_lg | exact mk_sp | exact mk_jn | exact mk_ln | exact mk_wk)
local macro_rules | `(tactic| walk_at "mk") => `(tactic| with_reducible first | exact mh_times | exact mh_done | exact mc_ca | exact mc_bar | exact mc_jo | exact mk_ca | exact mk_ed | exact mk_hi | exact mk_up | exact mk_sh)
local macro_rules | `(tactic| walk_at "mk") => `(tactic| with_reducible first | exact mh_fates | exact mh_lines | exact mh_works | exact mh_routes | exact mh_storms | exact mh_spots | exact mh_turns | exact mh_holds | exact mh_last | exact mh_begun)
local macro_rules | `(tactic| walk_at "mk") => `(tactic| with_reducible first | exact mh_modes | exact mh_cores | exact mh_now | exact mh_order | exact mh_shut | exact mh_wanted | exact mh_high | exact mh_flags | exact mh_log | exact mh_rings)
local macro_rules | `(tactic| walk_at "cl") => `(tactic| with_reducible first | exact Txt.cl_InvalidSetup (by assumption) | exact Txt.cl_UnknownLine (by assumption) | exact Txt.cl_Setup (by assumption))
local macro_rules | `(tactic| walk_at "na") => `(tactic| with_reducible first | exact Txt.n_InvalidSetup_part (by assumption) | exact Txt.n_InvalidSetup_index (by assumption) | exact Txt.n_UnknownLine_line (by assumption) | exact Txt.n_Setup_line_rows (by assumption) | exact Txt.n_Setup_work_rows (by assumption) | exact Txt.n_Setup_rows_by_name (by assumption) | exact Txt.n_Setup_works_by_name (by assumption))
local macro_rules | `(tactic| walk_at "zz") => `(tactic| walk_at "zt")
local macro_rules | `(tactic| walk_at "zz") => `(tactic| ((with_reducible apply s_dgS); (· walk_at "hl"); (· walk_at "mk")))
local macro_rules | `(tactic| walk_at "zz") => `(tactic| ((with_reducible apply s_ixL); (· walk_at "hl"); (· with_reducible first | exact at0 | exact at1 | exact at2 | exact at3 | exact at4)))
local macro_rules | `(tactic| walk_at "zz") => `(tactic| ((with_reducible apply s_ixT); (· walk_at "hl"); (· with_reducible first | exact at0 | exact at1 | exact at2 | exact at3 | exact at4)))
local macro_rules | `(tactic| walk_at "zz") => `(tactic| ((with_reducible apply s_propat); (· walk_at "hl")))
local macro_rules | `(tactic| walk_at "zz") => `(tactic| ((with_reducible apply s_methat); (· walk_at "hl"); (· kernel_rfl)))
local macro_rules | `(tactic| walk_at "zz") => `(tactic| ((with_reducible apply s_fldat); (· walk_at "hl"); (· walk_at "cl"); (· walk_at "na"); (· walk_at "lk")))
local macro_rules | `(tactic| walk_at "zz") => `(tactic| walk_at "zi")
local macro_rules | `(tactic| walk_at "orz") => `(tactic| walk_at "zt")
local macro_rules | `(tactic| walk_at "orz") => `(tactic| ((with_reducible apply s_dgS); (· walk_at "hl"); (· walk_at "mk")))
local macro_rules | `(tactic| walk_at "orz") => `(tactic| ((with_reducible apply s_ixL); (· walk_at "hl"); (· with_reducible first | exact at0 | exact at1 | exact at2 | exact at3 | exact at4)))
local macro_rules | `(tactic| walk_at "orz") => `(tactic| ((with_reducible apply s_ixT); (· walk_at "hl"); (· with_reducible first | exact at0 | exact at1 | exact at2 | exact at3 | exact at4)))
local macro_rules | `(tactic| walk_at "orz") => `(tactic| ((with_reducible apply s_propat); (· walk_at "hl")))
local macro_rules | `(tactic| walk_at "orz") => `(tactic| ((with_reducible apply s_methat); (· walk_at "hl"); (· kernel_rfl)))
local macro_rules | `(tactic| walk_at "orz") => `(tactic| ((with_reducible apply s_fldat); (· walk_at "hl"); (· walk_at "cl"); (· walk_at "na"); (· walk_at "lk")))
local macro_rules | `(tactic| walk_at "orz") => `(tactic| ((with_reducible apply ite_t); (· rfl)))
local macro_rules | `(tactic| walk_at "orz") => `(tactic| ((with_reducible apply ite_f); (· rfl)))
local macro_rules | `(tactic| walk_at "orz") => `(tactic| with_reducible first | refine ⟨_, _, rfl, rfl, ?_⟩ | refine ⟨_, rfl, ?_⟩)
local macro_rules | `(tactic| walk_at "orz") => `(tactic| ((with_reducible apply s_isi); (· assumption); (· decide)))
local macro_rules | `(tactic| walk_at "orz") => `(tactic| with_reducible first | refine s_tup ?_ | refine s_lst ?_)
local macro_rules | `(tactic| walk_at "orz") => `(tactic| ((with_reducible apply s_ne); (· exact rfl)))
local macro_rules | `(tactic| walk_at "orz") => `(tactic| ((with_reducible apply s_eq); (· exact rfl)))
local macro_rules | `(tactic| walk_at "orz") => `(tactic| with_reducible first | refine s_lcE ?_ | refine s_lc ?_ | refine s_dcT ?_ | refine s_cvalg ?_ | refine s_I0 ?_ | refine s_U ?_)
local macro_rules | `(tactic| walk_at "orz") => `(tactic| with_reducible first | refine Or.inl (Exists.intro _ (And.intro rfl ?_)) | refine Or.inr (Exists.intro _ (And.intro rfl ?_)) | refine s_make ?_ | refine s_sl ?_ | refine s_nop ?_ | refine s_part ?_)
local macro_rules | `(tactic| walk_at "orz") => `(tactic| with_reducible first | refine s_get2 ?_ | refine s_callI ?_ | refine s_for ?_ | refine s_rng1 ?_ | refine s_iT ?_ | refine s_iL ?_)
local macro_rules | `(tactic| walk_at "orz") => `(tactic| with_reducible first | refine s_lcL ?_ | refine s_dputg ?_ | refine s_tupRg ?_ | refine s_lstRg ?_ | refine s_rg1 ?_ | refine s_items ?_)
local macro_rules | `(tactic| walk_at "orz") => `(tactic| with_reducible first | refine s_daugg ?_ | refine s_disp ?_ | refine s_gsub ?_ | refine s_fldaug ?_ | refine s_ipI ?_ | refine s_ixO ?_)
local macro_rules | `(tactic| walk_at "orz") => `(tactic| with_reducible first | refine s_chain ?_ | refine s_yes ?_ | refine s_din ?_ | refine s_dnin ?_ | refine s_bm0 ?_ | refine s_lcT ?_)
local macro_rules | `(tactic| walk_at "orz") => `(tactic| with_reducible first | refine s_un ?_ | refine s_star ?_ | refine s_and ?_ | refine s_or ?_ | refine s_orV ?_ | refine s_notV ?_)
local macro_rules | `(tactic| walk_at "orz") => `(tactic| with_reducible first | refine s_augS ?_ | refine s_retN ?_ | refine s_cont ?_ | refine s_break ?_ | refine s_par ?_ | refine s_par2 ?_)
local macro_rules | `(tactic| walk_at "orz") => `(tactic| with_reducible first | refine s_andV ?_ | refine s_add ?_ | refine s_prop ?_ | refine s_pnil ?_ | refine s_cb ?_ | refine s_not ?_)
local macro_rules | `(tactic| walk_at "orz") => `(tactic| with_reducible first | refine s_call ?_ | refine s_pcons ?_ | refine s_bm ?_ | refine s_if ?_ | refine s_gcons ?_ | refine s_gnil ?_)
local macro_rules | `(tactic| walk_at "orz") => `(tactic| with_reducible first | refine s_next ?_ | refine s_gname ?_ | refine s_drop ?_ | refine s_meth ?_ | refine s_fldS ?_ | refine s_asg ?_)
local macro_rules | `(tactic| walk_at "orz") => `(tactic| with_reducible first | refine s_fldg ?_ | refine s_ifS ?_ | refine s_dget ?_ | refine s_ret ?_ | refine s_B ?_ | refine s_test ?_)
local macro_rules | `(tactic| walk_at "orz") => `(tactic| with_reducible first | refine s_cons ?_ | refine s_c ?_ | refine s_nil ?_ | refine s_seq ?_ | refine s_op ?_ | refine s_bl ?_)
local macro_rules | `(tactic| walk_at "orz") => `(tactic| ((with_reducible apply s_var); (· exact rfl)))
local macro_rules | `(tactic| walk_at "rz") => `(tactic| repeat walk_at "orz")
local macro_rules | `(tactic| walk_at "zm") => `(tactic| (intro x dx hx hdx hne; generalize eH : upd (upd _ dx _) x _ = H2; have s2 := mkS hx hdx eH; have e2 := mkE eH; clear eH hdx hne))
local macro_rules | `(tactic| walk_at "zb") => `(tactic| with_reducible first | refine s_gcons ?_ | refine s_gnil ?_ | refine s_gname ?_ | refine s_seq ?_ | refine s_ifS ?_ | refine s_if ?_ | refine s_next ?_ | refine s_drop ?_ | refine s_ret ?_ | refine s_asg ?_)
def spLaw (K : Fg) : Sp := fun vs H Q _ => ∃ (a : Addr) (ns : List Int), vs = [.ref a] ∧ SqL K H a (ns.map V.int) ∧ H (tI K) = some (.tbl #[]) ∧ H (tN K) = some (.tbl #[]) ∧ H (tU K) = some (.tbl #[]) ∧ ∀ H', Q (.bl true) H'
theorem if_gE {c : TT} {ta tb : TS} {D : Ends} {σ : L2.St} {H : Hp} (Ex : L2.St → Hp → Prop) (hx : ∀ σ H, Ex σ H → D.nx σ H) (h : ∀ nx : L2.St → Hp → Prop, (∀ σ H, Ex σ H → nx σ H) → tIfS c ta tb { D with nx := nx } σ H) : tIfS c ta tb D σ H := h D.nx hx
theorem s_revT {K : Fg} {te : TE} {σ : L2.St} {H : Hp} {Q : VK} (q : te σ H fun x H1 => ∃ a xs, x = .ref a ∧ SqT K H1 a xs ∧ ∀ p, H1 p = none → Q (.ref p) (upd H1 p (.tup xs.reverse))) : tRevT K te σ H Q := q
theorem dpa_rev {K : Fg} {H : Hp} : ∀ {vs : List V} {ds : List PyData}, DpAll K H vs ds → DpAll K H vs.reverse ds.reverse
  | _, _, .nil => .nil
  | _, _, .cons h t => by
    rw [List.reverse_cons, List.reverse_cons]
    exact (dpa_rev t).app (.cons h .nil)
structure E3 (K : Fg) (H : Hp) (r sc : Addr) (ns : List Int) : Prop where
  row : RowAt K H r sc ns
  ti : TabS H (tI K) qI
  tn : TabS H (tN K) qN
  tu : TabS H (tU K) qU
theorem shal_signs {P : Pl} (ok : P.Ok) : shal 6 (.list [.int (P.ls.length : Nat), .tuple (P.order.map .str), .tuple (P.ls.map dLn), .tuple (P.ws.map dWk), .bool (plainB P)]) = true := by
  have l12 := ok.l12
  have w8 := ok.w8
  refine shal_list (by show 5 ≤ _; decide) fun d hd => ?_
  have hd : d = .int (P.ls.length : Nat) ∨ d = .tuple (P.order.map .str) ∨ d = .tuple (P.ls.map dLn) ∨ d = .tuple (P.ws.map dWk) ∨ d = .bool (plainB P) := by simpa using hd
  rcases hd with rfl | rfl | rfl | rfl | rfl
  · rfl
  · unfold Pl.order
    refine shal_tup (by rw [List.length_map, List.length_map, List.length_mergeSort]; omega) fun d hd => ?_
    obtain ⟨z, hz, rfl⟩ := List.mem_map.mp hd
    obtain ⟨l, hl, rfl⟩ := List.mem_map.mp hz
    exact shal_str (lay_nm ok (List.mem_mergeSort.mp hl))
  · refine shal_tup (by rw [List.length_map]; omega) fun d hd => ?_
    obtain ⟨l, hl, rfl⟩ := List.mem_map.mp hd
    exact shal_ln (n := 0) ok hl
  · refine shal_tup (by rw [List.length_map]; omega) fun d hd => ?_
    obtain ⟨x, hx, rfl⟩ := List.mem_map.mp hd
    refine shal_tup (by show 3 ≤ _; decide) fun d hd => ?_
    have hd : d = .str x.nm ∨ d = .int x.rk ∨ d = .int x.tk := by simpa using hd
    rcases hd with rfl | rfl | rfl
    · exact shal_str (ok.shw x hx).2
    · rfl
    · rfl
  · rfl
theorem tab_no {H : Hp} {t : Addr} {q : Str} (h : TabS H t q) (c : Addr) (q2 : Str) : H t ≠ some (LamX.CodeO c q2) := fun e => by
  obtain ⟨ps, e1, _⟩ := h
  rw [e1] at e
  simp [LamX.CodeO] at e
theorem tab_two {H H' : Hp} {N : List Addr} {t : Addr} {q : Str} (h : TabS H t q) (f : Fr N H H') (ht : t ∉ N) (n : ∀ a ∈ N, ∀ c q, H a ≠ some (LamX.CodeO c q)) : TabS H' t q := by
  obtain ⟨ps, e, h2, h3⟩ := h
  refine ⟨ps, f.at e ht, h2, fun pos cv k => ?_⟩
  obtain ⟨c, e1, e2⟩ := h3 pos cv k
  exact ⟨c, e1, f.at e2 fun z => n _ z _ _ e2⟩
section
variable {K : Fg} {H H' : Hp} {r sc : Addr} {ns : List Int}
theorem E3.same (h : E3 K H r sc ns) (s : Same H H') : E3 K H' r sc ns := ⟨h.row.same s, h.ti.ext fun b o e => s _ _ e, h.tn.ext fun b o e => s _ _ e, h.tu.ext fun b o e => s _ _ e⟩
theorem E3.draw (h : E3 K H r sc ns) (f : Fr [r] H H') (row : RowAt K H' r sc ns) : E3 K H' r sc ns := by
  have n : ∀ x ∈ [r], NoW H x := fun x hx => by rw [List.mem_singleton.mp hx]; exact h.row.noW
  exact ⟨row, tabs_kW h.ti f n, tabs_kW h.tn f n, tabs_kW h.tu f n⟩
theorem E3.gI (h : E3 K H r sc ns) (n1 : tI K ≠ tN K) (n2 : tI K ≠ tU K) (f : Fr [tI K] H H') (t : TabS H' (tI K) qI) : E3 K H' r sc ns := by
  have n : ∀ a ∈ [tI K], ∀ c q, H a ≠ some (LamX.CodeO c q) := fun a ha => by rw [List.mem_singleton.mp ha]; exact tab_no h.ti
  exact ⟨h.row.tabW h.ti f, t, tab_two h.tn f (by simp [n1.symm]) n, tab_two h.tu f (by simp [n2.symm]) n⟩
theorem E3.gU (h : E3 K H r sc ns) (n2 : tI K ≠ tU K) (n3 : tN K ≠ tU K) (f : Fr [tU K] H H') (t : TabS H' (tU K) qU) : E3 K H' r sc ns := by
  have n : ∀ a ∈ [tU K], ∀ c q, H a ≠ some (LamX.CodeO c q) := fun a ha => by rw [List.mem_singleton.mp ha]; exact tab_no h.tu
  exact ⟨h.row.tabW h.tu f, tab_two h.ti f (by simp [n2]) n, tab_two h.tn f (by simp [n3]) n, t⟩
theorem E3.gN (h : E3 K H r sc ns) (n1 : tI K ≠ tN K) (n3 : tN K ≠ tU K) (f : Fr [r, tN K] H H') (row : RowAt K H' r sc ns) (t : TabS H' (tN K) qN) : E3 K H' r sc ns := by
  have no : ∀ {x : Addr}, (∃ ps, H x = some (.tbl ps)) → x ≠ r := fun {x} ⟨ps, e⟩ z => by
    have := h.row.noW _ (by rw [← z]; exact e)
    simp [plainW] at this
  have n : ∀ a ∈ [r, tN K], ∀ c q, H a ≠ some (LamX.CodeO c q) := fun a ha => by
    rcases List.mem_cons.mp ha with rfl | ha
    · intro c q e
      have := h.row.noW _ e
      simp [plainW, LamX.CodeO] at this
    · rw [List.mem_singleton.mp ha]; exact tab_no h.tn
  have hi : ∃ ps, H (tI K) = some (.tbl ps) := h.ti.imp fun ps k => k.1
  have hu : ∃ ps, H (tU K) = some (.tbl ps) := h.tu.imp fun ps k => k.1
  exact ⟨row, tab_two h.ti f (by simp [n1, no hi]) n, t, tab_two h.tu f (by simp [n3.symm, no hu]) n⟩
theorem plan_E3 {D : Z.PA} {P : Pl} (h : E3 K H r sc ns) (pl : PlanAt K H D P) {N : List Addr} (hN : ∀ a ∈ N, a ∈ [r, tI K, tN K, tU K]) (f : Fr N H H') : PlanAt K H' D P := pl.keep f fun a ha z => by
  have := hN a z
  simp only [List.mem_cons, List.not_mem_nil, or_false] at this
  rcases this with rfl | rfl | rfl | rfl
  · exact noown h.row pl ha
  · exact notab h.ti pl ha
  · exact notab h.tn pl ha
  · exact notab h.tu pl ha
end
section
variable {P : Program} {w : World} {K : Fg} {mg : Str → Option Value} {base : Heap}
theorem ok_Setup_eq_a (T : Txt K mg) : FnOk P w K mg base (L2.CX P w) 2 (ma K (ga K "Setup") "__eq__") (fdOf K (ma K (ga K "Setup") "__eq__")) ["self", "other"] (fun vs H Q _ => ∃ D P b ds, vs = [.ref D.p, .ref b] ∧ PlanAt K H D P ∧ Dp K H (.ref b) (.tuple ds) ∧ Q (.bl false) H) := by
  refine FunD.ok T.F_Setup_eq sc_Setup_eq (fun vs H Q E h => ?_) (fun cdv A outer s H vs Q E hr h => ⟨_, PSs.nox (pss_one (ps_ret (pe_and (pe_callB (call_isiOK K) (by rfl) T.u_isinstance (by decide +kernel) (pa_cons (pv 1) (pa_cons (z_ref T.g_Setup) pa_nil))) (pe_one (pe_cmpR (op_eqDK K hr.units) (pe_tup (pa_cons (kFld K (pe_fld (pv 0) rfl)) (pa_cons (kFld K (pe_fld (pv 0) rfl)) pa_nil))) (pe_tup (pa_cons (kFld K (pe_fld (pv 1) rfl)) (pa_cons (kFld K (pe_fld (pv 1) rfl)) pa_nil))) (nomark _)))))), ?_⟩)
  · obtain ⟨D, P, b, ds, rfl, _⟩ := h
    rfl
  obtain ⟨D, P, b, ds, rfl, pl, hd, q⟩ := h
  show (_ : TS) _ [some (.ref D.p), some (.ref b)] H
  try dsimp only [cxOf]
  obtain ⟨dx, a, c, hp, da, db⟩ := pl.ins
  walk_at "rz"
  refine ⟨.ref b, .ref (ga K "Setup"), _, _, false, rfl, .own _, hd.ty, T.it_Setup, ?_⟩
  walk_at "rz"
  exact q
theorem ok_law (T : Txt K mg) (TBI : LamX.TabB base mg (codA K (ga K "_law_is_line_told")) (tI K)) (TBN : LamX.TabB base mg (codA K (ga K "_law_is_ranked")) (tN K)) (TBU : LamX.TabB base mg (codA K (ga K "_law_are_unknown")) (tU K)) : FnOk P w K mg base (L2.CX P w) 32 (ga K "law") (fdOf K (ga K "law")) ["_law_script"] (spLaw K) := by
  have ok_w_alike := fun (T : Txt K mg) => okA (P := P) (w := w) (base := base) T 6
  have ok_w_is_line_told := fun (T : Txt K mg) => ok_w_is_line_told (P := P) (w := w) (base := base) T TBI
  have ok_w_is_ranked := fun (T : Txt K mg) => ok_w_is_ranked (P := P) (w := w) (base := base) T TBN
  have ok_w_are_unknown := fun (T : Txt K mg) => ok_w_are_unknown (P := P) (w := w) (base := base) T TBU
  refine FunD.ok T.F_law sc_law (fun vs H Q E h => ?_) (fun cdv A outer s H vs Q E hr h => ⟨_, PSs.nox (pss_cons (zset 1 sc_law.nd (pe_lst (pa_cons (pv 0) (pa_cons pe_int (pa_cons pe_int (pa_cons pe_int pa_nil))))))
      (pss_cons (ps_for PassesOwn.never rfl (pi_range1 rfl T.u_range (pa_cons pe_int pa_nil)) (zg 2 sc_law.nd)
      (pss_cons (ps_asg (z_call (ok_w_setup T) T.c_w_setup (hr.mono (by decide)) rfl T.g_w_setup passL (pa_cons (pv 1) (pa_cons pe_int pa_nil))) (kGT K (pg_tup (n := 2) rfl (pgs_cons (zg 3 sc_law.nd) (pgs_cons (zg 4 sc_law.nd) pgs_nil)))))
      (pss_cons (ps_if (pt_cmpR op_eq (z_call (ok_w_taken T) T.c_w_taken (hr.mono (by decide)) rfl T.g_w_taken passL (pa_cons (pv 1) (pa_cons pe_int pa_nil))) pe_int (nomark _)) (pss_cons (ps_par (by rfl) sc_law.nd (i := 3) (j := 4) rfl rfl (by decide) rfl rfl (pa_cons (z_call (ok_w_plain T) T.c_w_plain (hr.mono (by decide)) rfl T.g_w_plain passL (pa_cons (pv 1) (pa_cons pe_int (pa_cons pe_int pa_nil)))) (pa_cons (pe_tup pa_nil) pa_nil)) (by rfl))
      (pss_one (ps_if (pt_cmpR op_eq (z_call (ok_w_taken T) T.c_w_taken (hr.mono (by decide)) rfl T.g_w_taken passL (pa_cons (pv 1) (pa_cons pe_int pa_nil))) pe_int (nomark _)) (pss_one (zset 3 sc_law.nd (pe_callTy (call_tuple_frzK K) (by rfl) T.u_tuple (by decide +kernel) (pa_cons (pe_lc (own := [("_law_line", 8)]) rfl sc_law.nd (kIT K (pi_tup (pv 3))) (blkOk_by (own := [("_law_line", 8)]) (N := n_law) (sc := defScope s_law) (by decide +kernel)) (fun _ _ _ _ _ => (zg 8 sc_law.nd)) (fun _ _ _ _ _ => pts_nil) (fun _ _ _ _ _ => (pe_op (op_catAK K) (pe_op (op_catAK K) (pe_slice (sl_tupAK K) (pv 8) po_none (po_some pe_int)) (pe_tup (pa_cons pe_int pa_nil))) (pe_slice (sl_tupAK K) (pv 8) (po_some pe_int) po_none)))) pa_nil)))) pss_nil))) pss_nil)
      (pss_cons (zset 5 sc_law.nd (z_make T.mk_Setup (ok_Setup_init T) T.c_Setup_init (hr.mono (by decide)) rfl T.g_Setup passL (pa_cons (pv 3) (pa_cons (pv 4) pa_nil))))
      (pss_cons (zset 6 sc_law.nd (pe_callTy (call_tuple_ofK K) (by rfl) T.u_tuple (by decide +kernel) (pa_cons (pe_lc (own := [("_law_rank", 10), ("_law_name", 11)]) rfl sc_law.nd (kIL K (pi_list (pe_callB (cr_sortedDatK K hr.units) (by rfl) T.u_sorted (by decide +kernel) (pa_cons (pe_lc (own := [("_law_line", 8)]) rfl sc_law.nd (kIT K (pi_tup (pv 3))) (blkOk_by (own := [("_law_line", 8)]) (N := n_law) (sc := defScope s_law) (by decide +kernel)) (fun _ _ _ _ _ => (zg 8 sc_law.nd)) (fun _ _ _ _ _ => pts_nil) (fun _ _ _ _ _ => (pe_tup (pa_cons (pe_op op_sub pe_int (pe_ix (ix_tupK K) (pv 8) pe_int (fun _ _ => rfl))) (pa_cons (pe_ix (ix_tupK K) (pv 8) pe_int (fun _ _ => rfl)) pa_nil))))) pa_nil)))) (blkOk_by (own := [("_law_rank", 10), ("_law_name", 11)]) (N := n_law) (sc := defScope s_law) (by decide +kernel)) (fun _ _ _ _ _ => (kGT K (pg_tup (n := 2) rfl (pgs_cons (zg 10 sc_law.nd) (pgs_cons (zg 11 sc_law.nd) pgs_nil))))) (fun _ _ _ _ _ => pts_nil) (fun _ _ _ _ _ => (pv 11))) pa_nil)))
      (pss_cons (zset 7 sc_law.nd (pe_lst (pa_cons (pe_callB (cr_lenO T.m_Setup_len.at_ T.m_Setup_len.fn (ok_Setup_len T) T.c_Setup_len (hr.mono (by decide))) (by rfl) T.u_len (by decide +kernel) (pa_cons (pv 5) pa_nil)) (pa_cons (z_prop (pv 5) T.cl_Setup T.p_Setup_order (ok_Setup_order T) T.c_Setup_order (hr.mono (by decide)) rfl) (pa_cons (z_prop (pv 5) T.cl_Setup T.p_Setup_lines (ok_Setup_lines T) T.c_Setup_lines (hr.mono (by decide)) rfl) (pa_cons (z_prop (pv 5) T.cl_Setup T.p_Setup_works (ok_Setup_works T) T.c_Setup_works (hr.mono (by decide)) rfl) (pa_cons (z_prop (pv 5) T.cl_Setup T.p_Setup_is_plain (ok_Setup_is_plain T) T.c_Setup_is_plain (hr.mono (by decide)) rfl) pa_nil)))))))
      (pss_cons (ps_if (pt_not (pt_val (z_call (ok_w_alike T) T.c_w_alike (hr.mono (by decide)) rfl T.g_w_alike passL (pa_cons (pv 7) (pa_cons (pe_lst (pa_cons (pe_callB (call_lenK K) (by rfl) T.u_len (by decide +kernel) (pa_cons (pv 3) pa_nil)) (pa_cons (pv 6) (pa_cons (pv 3) (pa_cons (pv 4) (pa_cons (z_call (ok_w_is_plain T) T.c_w_is_plain (hr.mono (by decide)) rfl T.g_w_is_plain passL (pa_cons (pv 3) pa_nil)) pa_nil)))))) pa_nil))))) (pss_one (ps_ret pe_bl)) pss_nil)
      (pss_cons (ps_if (pt_not (pt_val (z_call (ok_w_are_unknown T) T.c_w_are_unknown (hr.mono (by decide)) rfl T.g_w_are_unknown passL (pa_cons (pv 5) pa_nil)))) (pss_one (ps_ret pe_bl)) pss_nil)
      (pss_cons (ps_for PassesOwn.never rfl (kIT K (pi_tup (pv 3))) (zg 8 sc_law.nd)
      (pss_cons (ps_if (pt_not (pt_val (z_call (ok_w_is_line_told T) T.c_w_is_line_told (hr.mono (by decide)) rfl T.g_w_is_line_told passL (pa_cons (pv 5) (pa_cons (pv 3) (pa_cons (pv 8) pa_nil)))))) (pss_one (ps_ret pe_bl)) pss_nil)
      (pss_one (ps_if (pt_not (pt_val (z_call (ok_w_is_ranked T) T.c_w_is_ranked (hr.mono (by decide)) rfl T.g_w_is_ranked passL (pa_cons (pv 1) (pa_cons (pv 5) (pa_cons (pv 3) (pa_cons (pv 4) (pa_cons (pv 8) pa_nil)))))))) (pss_one (ps_ret pe_bl)) pss_nil))))
      (pss_cons (ps_if (PW.pt (pw_or (pt_cmpR (op_eqT (K := K) T.m_Setup_eq.at_ T.m_Setup_eq.fn (ok_Setup_eq_a T) T.c_Setup_eq (hr.mono (by decide)) passL) (pv 5) (pv 3) (nomark _)) (pw_or1 (pt_not (pt_cmpR (op_eqO T.m_Setup_eq.at_ T.m_Setup_eq.fn (ok_Setup_eq T) T.c_Setup_eq (hr.mono (by decide)) passL) (pv 5) (z_make T.mk_Setup (ok_Setup_init T) T.c_Setup_init (hr.mono (by decide)) rfl T.g_Setup passL (pa_cons (pv 3) (pa_cons (pv 4) pa_nil))) (nomark _)))))) (pss_one (ps_ret pe_bl)) pss_nil)
      (pss_cons (ps_if (PW.pt (pw_and (pt_cmpR op_gt (pe_callB (call_lenK K) (by rfl) T.u_len (by decide +kernel) (pa_cons (pv 3) pa_nil)) pe_int (nomark _)) (pw_and1 (pt_cmpR (op_eqO T.m_Setup_eq.at_ T.m_Setup_eq.fn (ok_Setup_eq T) T.c_Setup_eq (hr.mono (by decide)) passL) (pv 5) (z_make T.mk_Setup (ok_Setup_init T) T.c_Setup_init (hr.mono (by decide)) rfl T.g_Setup passL (pa_cons (pe_revTK K (pv 3)) (pa_cons (pv 4) pa_nil))) (nomark _))))) (pss_one (ps_ret pe_bl)) pss_nil)
      (pss_cons (zset 9 sc_law.nd (pe_callTy (call_tuple_ofK K) (by rfl) T.u_tuple (by decide +kernel) (pa_cons (pe_lc (own := [("_law_line", 8)]) rfl sc_law.nd (kIT K (pi_tup (pv 3))) (blkOk_by (own := [("_law_line", 8)]) (N := n_law) (sc := defScope s_law) (by decide +kernel)) (fun _ _ _ _ _ => (zg 8 sc_law.nd)) (fun _ _ _ _ _ => pts_nil) (fun _ _ _ _ _ => (pe_op (op_catAK K) (pe_slice (sl_tupAK K) (pv 8) po_none (po_some pe_int)) (pe_tup (pa_cons (pe_tup (pa_cons (pe_tup (pa_cons pe_str (pa_cons pe_int pa_nil))) pa_nil)) pa_nil))))) pa_nil)))
      (pss_one (ps_if (PW.pt (pw_and (pt_cmpR (op_ne0K K hr.units) (pv 4) (pe_tup pa_nil) (nomark _)) (pw_and1 (pt_cmpR (op_eqO T.m_Setup_eq.at_ T.m_Setup_eq.fn (ok_Setup_eq T) T.c_Setup_eq (hr.mono (by decide)) passL) (z_make T.mk_Setup (ok_Setup_init T) T.c_Setup_init (hr.mono (by decide)) rfl T.g_Setup passL (pa_cons (pv 9) (pa_cons (pv 4) pa_nil))) (z_make T.mk_Setup (ok_Setup_init T) T.c2_Setup_init (hr.mono (by decide)) rfl T.g_Setup passL (pa_cons (pv 9) pa_nil)) (nomark _))))) (pss_one (ps_ret pe_bl)) pss_nil))))))))))))))
      (pss_one (ps_ret pe_bl)))), ?_⟩)
  · obtain ⟨a, ns, rfl, _⟩ := h
    rfl
  obtain ⟨sc, ns, rfl, hsc, hI0, hN0, hU0, q⟩ := h
  show (_ : TS) _ (some (.ref sc) :: List.replicate 11 none) H
  try dsimp only [cxOf]
  dsimp only [List.replicate]
  walk_at "rz"
  rename_i r hr0 H1 s1 e1
  have row1 := row_new hsc hr0 s1 e1
  have e31 : E3 K H1 r sc ns := ⟨row1, TabS.nil (s1 _ _ hI0), TabS.nil (s1 _ _ hN0), TabS.nil (s1 _ _ hU0)⟩
  clear e1
  walk_at "rz"
  refine ⟨by omega, by omega, for_range (lo := 0) (n := 4) (fun i σ Ha => (∃ y2 y3 y4 y5 y6 y7 y8 y9 y10 y11, σ = [some (.ref sc), some (.ref r), y2, y3, y4, y5, y6, y7, y8, y9, y10, y11]) ∧ E3 K Ha r sc ns)
    ⟨⟨_, _, _, _, _, _, _, _, _, _, rfl⟩, e31⟩ (fun i σ Ha _ ⟨⟨y2, y3, y4, y5, y6, y7, y8, y9, y10, y11, es⟩, ea⟩ => ?_) (fun σ Ha ⟨⟨y2, y3, y4, y5, y6, y7, y8, y9, y10, y11, es⟩, ea⟩ => ?_)⟩
  · subst es
    clear q
    walk_at "rz"
    refine ⟨r, sc, ns, 5, rfl, ea.row, by omega, by omega, fun t a b P0 H2 f2 row2 dr hT da db frz => ?_⟩
    have e2 := ea.draw f2 row2
    refine s_gtup hT rfl ?_
    refine s_gcons (s_gname (s_gcons (s_gname (s_gnil (s_seq ?_)))))
    dsimp only [List.set]
    refine if_gE (fun σ H' => ∃ (P : Pl) (la wa : Addr), σ = [some (.ref sc), some (.ref r), some (.int (0 + (i : Nat))), some (.ref la), some (.ref wa), y5, y6, y7, y8, y9, y10, y11] ∧ E3 K H' r sc ns ∧ P.Ok ∧ (∀ z ∈ P.names, z ∈ nm6) ∧ Dp K H' (.ref la) (.tuple (P.ls.map dLn)) ∧ Dp K H' (.ref wa) (.tuple (P.ws.map dWk)) ∧ FrzL H' la) ?rest (fun nx hx => ?pick)
    case pick =>
      walk_at "rz"
      refine s_take row2 (by decide) (by decide) fun m H3 m0 m1 f3 row3 => ?_
      have e3 := e2.draw f3 row3
      walk_at "rz"
      by_cases hm : m = 0
      · refine ite_t (decide_eq_true (congrArg V.int hm)) ?_
        walk_at "rz"
        refine ⟨r, sc, ns, 5, 9, rfl, row3, by decide, by decide, by decide, by decide, fun t1 P1 H4 f4 row4 pp d1 frz1 => ?_⟩
        have e4 := e3.draw f4 row4
        walk_at "rz"
        rename_i tz htz H5 s5 e5
        have e5' := e4.same s5
        refine s_take e5'.row (by decide) (by decide) fun m2 H6 _ _ f6 row6 => ?_
        have e6 := e5'.draw f6 row6
        have f46 : Fr [r] H4 H6 := (s5.fr).trans f6
        have d6 : Dp K H6 (.ref t1) (.tuple (P1.ls.map dLn)) := d1.tk f46.tk (tupds_map tupd_dLn _)
        have z6 : Dp K H6 (.ref tz) (.tuple (P1.ws.map dWk)) := by rw [pp.ws]; exact .tup (f6.tk.sqT (SqT.of e5)) .nil
        walk_at "rz"
        by_cases hm2 : m2 = 0
        · refine ite_t (decide_eq_true (congrArg V.int hm2)) ?_
          walk_at "rz"
          obtain ⟨_, xs, e, hT6, hA6⟩ := d6.tupI
          cases e
          have l12 := pp.ok.l12
          refine lcT_d (l := P1.ls) (da := dLn) hT6 hA6 (fun _ => true) (fun l => dLn (fivL l)) (by omega) (fun _ _ => tupd_dLn _) (fun l v Ha Yes No hl sa hdv yes no => ?_) (fun c7 H7 us hc7 s7 e7 a7 => ?_)
          · obtain ⟨t9, zs, rfl, hT9, hA9⟩ := hdv.tupI
            cases hA9 with | cons g1 hA9 => ?_
            cases hA9 with | cons g2 hA9 => ?_
            cases hA9 with | cons g3 hA9 => ?_
            cases hA9 with | cons g4 hA9 => ?_
            cases hA9
            cases g1
            cases g2
            cases g3
            walk_at "rz"
            refine ⟨rfl, ?_⟩
            walk_at "rz"
            refine s_slA hT9 fun a1 Hb sb eb => ?_
            rw [show (2 : Int) = ((2 : Nat) : Int) from rfl, cut_take] at eb
            walk_at "rz"
            rename_i a2 ha2 Hc sc1 ec
            refine s_catW (sc1.sqT eb) (SqT.of ec) (by rw [sizeLine_eq]; simp) fun a3 Hd sd ed => ?_
            walk_at "rz"
            have sbd := (sb.trans sc1).trans sd
            refine s_slA (sbd.sqT hT9) fun a4 He se ee => ?_
            rw [show (3 : Int) = ((3 : Nat) : Int) from rfl, cut_drop] at ee
            refine s_catW (se.sqT ed) ee (by rw [sizeLine_eq]; simp) fun a5 Hf sf ef => ?_
            have saf := (sbd.trans se).trans sf
            refine yes rfl _ _ saf ?_
            exact .tup ef (.cons (.str _) (.cons (.str _) (.cons (.int _) (.cons (g4.same saf) .nil))))
          rw [List.filter_eq_self.mpr fun _ _ => rfl] at a7
          walk_at "rz"
          refine ⟨c7, us, rfl, SqL.of e7, fun t8 o8 ht8 ho8 => ?_⟩
          generalize eH : upd H7 t8 _ = H8
          have s8 := newS ht8 eH
          have e8 := newE eH
          clear eH
          have s68 := s7.trans s8
          walk_at "rz"
          refine hx _ _ ⟨⟨P1.ls.map fivL, P1.ws⟩, t8, tz, rfl, e6.same s68, fiv_ok pp.ok, fun z hz => pp.six z ?_, ?_, z6.same s68, ⟨_, o8, e8, ho8⟩⟩
          · obtain ⟨l, hl, rfl⟩ := List.mem_map.mp hz
            obtain ⟨l2, hl2, rfl⟩ := List.mem_map.mp (show l ∈ P1.ls.map fivL from hl)
            exact List.mem_map.mpr ⟨l2, hl2, rfl⟩
          · show Dp K H8 (.ref t8) (.tuple ((P1.ls.map fivL).map dLn))
            rw [List.map_map]
            exact .tup (FrzT.sqT ⟨o8, e8, ho8⟩) (a7.same s8)
        · refine ite_f (decide_eq_false fun e => hm2 (by injection e)) ?_
          walk_at "rz"
          exact hx _ _ ⟨P1, t1, tz, rfl, e6, pp.ok, pp.six, d6, z6, frz1.fr f46⟩
      · refine ite_f (decide_eq_false fun e => hm (by injection e)) ?_
        walk_at "rz"
        exact hx _ _ ⟨P0, a, b, rfl, e3, dr.ok, dr.six, da.tk f3.tk (tupds_map tupd_dLn _), db.tk f3.tk (tupds_map tupd_dWk _), frz.fr f3⟩
    case rest =>
      rintro σ H3 ⟨P, la, wa, rfl, e3, ok, six, dla, dwa, frz3⟩
      clear e2 row2 f2 da db hT dr frz ea
      walk_at "rz"
      walk_at "zm"
      rename_i x dx hx0 H4 s4 e4
      have l12 := ok.l12
      refine ⟨x, la, wa, dx, P, rfl, e4, dla.same s4, dwa.same s4, ok, fun H5 rd wd hrd hwd hrw f5 pl => ⟨rfl, ?_⟩⟩
      obtain ⟨D, hD⟩ : ∃ D : Z.PA, D = ⟨x, rd, wd⟩ := ⟨_, rfl⟩
      rw [← hD] at pl
      have hDp : D.p = x := by rw [hD]
      rw [← hDp]
      have s35 : Same H3 H5 := ((s4.fr : Fr [] H3 H4).seq f5 (fun a ha => .inr (by rw [List.mem_singleton.mp ha]; exact hx0))).same
      have e5 := e3.same s35
      have dla5 := dla.same s35
      have dwa5 := dwa.same s35
      have frz5 := frz3.same s35
      clear hD hDp e4 s4 f5 hrd hwd hrw hx0 e3 dla dwa frz3 s35
      obtain ⟨_, xs, e, hT5, hA5⟩ := dla5.tupI
      cases e
      walk_at "rz"
      refine lcT_d (l := P.ls) (da := dLn) hT5 hA5 (fun _ => true) ordD (by omega) (fun _ _ => rfl) (fun l v H5 Yes No hl s5 hd yes no => ?_) (fun nl H6 ns6 hnl s6 e6 a6 => ?_)
      · obtain ⟨t, zs, rfl, ht, ha⟩ := hd.tupI
        cases ha with | cons h1 ha => ?_
        cases ha with | cons h2 ha => ?_
        cases ha with | cons h3 ha => ?_
        cases h1
        cases h3
        walk_at "rz"
        refine ⟨rfl, ?_⟩
        walk_at "rz"
        rename_i p hp H2 s2 e2
        exact yes rfl _ _ s2 (.tup (SqT.of e2) (.cons (.int _) (.cons (.str _) .nil)))
      rw [List.filter_eq_self.mpr (fun _ _ => rfl)] at a6
      walk_at "rz"
      refine ⟨nl, ns6, P.ls.map ordD, rfl, SqL.of e6, a6, PySem.W.AllAlike.of (fun _ _ => rfl), PySem.W.Sortable.tuples (fun b => ⟨_, _, rfl⟩), fun d hd => ?_, fun ys p ha hp2 => ?_⟩
      · obtain ⟨l, _, rfl⟩ := List.mem_map.mp hd
        exact of_decide_eq_true rfl
      rw [← List.map_mergeSort (f := ordD) (r := PySem.W.dataLe false ordD) (s := PySem.W.dataLe false id) (fun a _ b _ => rfl)] at ha
      generalize eH : upd H6 p _ = H7
      have s7 := newS hp2 eH
      have e7 := newE eH
      clear eH
      walk_at "rz"
      have hlen : (P.ls.mergeSort (PySem.W.dataLe false ordD)).length = P.ls.length := List.length_mergeSort _
      refine lcL_d (l := P.ls.mergeSort (PySem.W.dataLe false ordD)) (da := ordD) (SqL.of e7) (ha.same s7) (fun _ => true) (fun l => .str l.nm) (by omega) (fun _ _ => rfl) (fun l v H5 Yes No hl s5 hd yes no => ?_) (fun nm H8 ms hnm s8 e8 a8 => ?_)
      · obtain ⟨t, zs, rfl, ht, hz⟩ := hd.tupI
        cases hz with | cons h1 hz => ?_
        cases hz with | cons h2 hz => ?_
        cases hz
        cases h1
        cases h2
        refine s_gtup ht rfl ?_
        walk_at "rz"
        refine ⟨rfl, ?_⟩
        walk_at "rz"
        exact yes rfl _ _ (Same.refl _) (.str _)
      rw [List.filter_eq_self.mpr (fun _ _ => rfl), map_str] at a8
      have e4 := dp_strs a8
      subst e4
      walk_at "rz"
      refine ⟨nm, _, rfl, .inl ⟨SqL.of e8, fun to hto => ?_⟩⟩
      generalize eH : upd H8 to _ = H9
      have s9 := newS hto eH
      have e9 : H9 to = some (.tup (P.order.map V.str)) := newE eH
      clear eH
      have s59 := ((s6.trans s7).trans s8).trans s9
      have e39 := e5.same s59
      have pl9 := pl.same s59
      have dla9 := dla5.same s59
      have dwa9 := dwa5.same s59
      have frz9 := frz5.same s59
      have hT9 := s59.sqT hT5
      have hA9 := hA5.same s59
      clear e5 pl dla5 dwa5 frz5 hT5 hA5 s6 s7 s8 s9 s59 e6 e7 e8 a6 a8 ha hnm hnl hto hp2
      obtain ⟨pdx, pa, pb, hp9, _⟩ := pl9.ins
      walk_at "rz"
      refine ⟨D.p, pdx, _, rfl, hp9, D, P, rfl, pl9, ((P.ls.length : Nat) : Int), rfl, by omega, by omega, ?_⟩
      walk_at "rz"
      refine ⟨D, P, rfl, pl9, fun HA ao sA hao eao => ?_⟩
      have plA := pl9.same sA
      have hpA := sA _ _ hp9
      walk_at "rz"
      refine ⟨D, P, rfl, plA, fun al dal => ?_⟩
      walk_at "rz"
      refine ⟨D, P, rfl, plA, fun aw daw => ?_⟩
      walk_at "rz"
      refine ⟨D, P, rfl, plA, fun HB sB => ?_⟩
      walk_at "rz"
      rename_i lt hlt HC sC eC
      have s9C := sA.trans (sB.trans sC)
      refine s_lenT (s9C.sqT hT9) ?_
      rw [show xs.length = P.ls.length by rw [hA9.len, List.length_map]]
      walk_at "rz"
      refine ⟨la, P, rfl, dla9.same s9C, ok, fun HD sD => ?_⟩
      walk_at "rz"
      rename_i l2 hl2 HE sE eE
      have sCE := sD.trans sE
      have s9E := s9C.trans sCE
      have sBE := sC.trans sCE
      have sAE := sB.trans sBE
      have dt : Dp K HE (.ref lt) (.list [.int (P.ls.length : Nat), .tuple (P.order.map .str), .tuple (P.ls.map dLn), .tuple (P.ws.map dWk), .bool (plainB P)]) := .lst (SqL.of (sCE _ _ eC)) (.cons (.int _) (.cons (.tup (SqT.of (sAE _ _ eao)) (dstrL _)) (.cons (dal.same sAE) (.cons (daw.same sAE) (.cons (.bl _) .nil)))))
      have du : Dp K HE (.ref l2) (.list [.int (P.ls.length : Nat), .tuple (P.order.map .str), .tuple (P.ls.map dLn), .tuple (P.ws.map dWk), .bool (plainB P)]) := .lst (SqL.of eE) (.cons (.int _) (.cons (.tup (SqT.of (s9E _ _ e9)) (dstrL _)) (.cons (dla9.same s9E) (.cons (dwa9.same s9E) (.cons (.bl _) .nil)))))
      refine ⟨_, _, _, rfl, dt, du, shal_signs ok, fun HF sF => ?_⟩
      have s9F := s9E.trans sF
      have eF := e39.same s9F
      have plF := pl9.same s9F
      have dlaF := dla9.same s9F
      have dwaF := dwa9.same s9F
      have frzF := frz9.same s9F
      clear dt du eC eE eao e9 dal daw sA sB sC sD sE sF s9C sCE s9E sBE sAE s9F hpA plA hp9 pl9 dla9 dwa9 frz9 hT9 hA9 hlt hl2 hao e39
      walk_at "rz"
      refine ⟨D, P, rfl, plF, six, eF.tu, fun HG fG tuG => ?_⟩
      have eG := eF.gU T.tl_ne2 T.tl_ne3 fG tuG
      have plG := plan_E3 eF plF (by simp) fG
      have dlaG : Dp K HG (.ref la) (.tuple (P.ls.map dLn)) := dlaF.tk fG.tk (tupds_map tupd_dLn _)
      have dwaG : Dp K HG (.ref wa) (.tuple (P.ws.map dWk)) := dwaF.tk fG.tk (tupds_map tupd_dWk _)
      have frzG := frzF.fr fG
      clear eF plF dlaF dwaF frzF fG tuG
      obtain ⟨_, las, e, hTG, hAG⟩ := dlaG.tupI
      cases e
      have lla : las.length = P.ls.length := by rw [hAG.len, List.length_map]
      walk_at "rz"
      refine ⟨⟨_, hTG⟩, for_tup (xs := las) (fun j σ Hx => (∃ u8, σ = [some (.ref sc), some (.ref r), some (.int (0 + (i : Nat))), some (.ref la), some (.ref wa), some (.ref D.p), some (.ref to), some (.ref lt), u8, y9, y10, y11]) ∧ E3 K Hx r sc ns ∧ PlanAt K Hx D P ∧ Dp K Hx (.ref la) (.tuple (P.ls.map dLn)) ∧ Dp K Hx (.ref wa) (.tuple (P.ws.map dWk)) ∧ FrzL Hx la ∧ SqT K Hx la las ∧ DpAll K Hx las (P.ls.map dLn))
        ⟨⟨_, rfl⟩, eG, plG, dlaG, dwaG, frzG, hTG, hAG⟩ (fun j σ Hx _ ⟨_, _, _, _, _, _, h, _⟩ => h) (fun j v σ Hx hj ⟨⟨u8, es⟩, ex, plx, dlax, dwax, frzx, hTx, hAx⟩ => ?_) (fun σ Hx ⟨⟨u8, es⟩, ex, plx, dlax, dwax, frzx, hTx, hAx⟩ => ?_)⟩
      · subst es
        clear eG plG dlaG dwaG frzG hTG hAG
        obtain ⟨dd, hdd, dv⟩ := hAx.getv hj
        rw [List.getElem?_map] at hdd
        obtain ⟨ln, hln, rfl⟩ := Option.map_eq_some_iff.mp hdd
        have hlm := List.mem_of_getElem? hln
        walk_at "rz"
        refine ⟨D, P, la, v, ln, rfl, plx, dlax, hlm, dv, ex.ti, fun Ha fa ta => ?_⟩
        have exa := ex.gI T.tl_ne1 T.tl_ne2 fa ta
        have pla := plan_E3 ex plx (by simp) fa
        have dlaa : Dp K Ha (.ref la) (.tuple (P.ls.map dLn)) := dlax.tk fa.tk (tupds_map tupd_dLn _)
        have dwaa : Dp K Ha (.ref wa) (.tuple (P.ws.map dWk)) := dwax.tk fa.tk (tupds_map tupd_dWk _)
        have dva := dv.tk fa.tk (tupd_dLn _)
        walk_at "rz"
        refine ⟨r, sc, ns, D, P, la, wa, v, j, ln, rfl, exa.row, pla, dlaa, dwaa, hln, six _ (List.mem_map_of_mem hlm), dva, frzx.fr fa, exa.tn, fun Hb fb rowb tb => ?_⟩
        have exb := exa.gN T.tl_ne1 T.tl_ne3 fb rowb tb
        have plb := plan_E3 exa pla (by simp) fb
        have tkb := fa.tk.trans fb.tk
        walk_at "rz"
        exact ⟨⟨_, rfl⟩, exb, plb, dlaa.tk fb.tk (tupds_map tupd_dLn _), dwaa.tk fb.tk (tupds_map tupd_dWk _), (frzx.fr fa).fr fb, fb.tk.sqT (fa.tk.sqT hTx), (hAx.tk fa.tk (tupds_map tupd_dLn _)).tk fb.tk (tupds_map tupd_dLn _)⟩
      · subst es
        clear eG plG dlaG dwaG frzG hTG hAG
        obtain ⟨pdx, pa, pb, hpx, _⟩ := plx.ins
        walk_at "rz"
        refine ⟨D.p, la, pdx, _, las, rfl, rfl, hpx, hTx, T.nft_Setup, D, P, la, _, rfl, plx, dlax, _, rfl, ?_⟩
        walk_at "rz"
        intro x2 dx2 hx2 hdx2 hne2
        generalize eH : upd (upd Hx dx2 _) x2 _ = Ha
        have sa := mkS hx2 hdx2 eH
        have ea2 := mkE eH
        clear eH
        refine ⟨x2, la, wa, dx2, P, rfl, ea2, dlax.same sa, dwax.same sa, ok, fun Hb rd wd hrd hwd hrw fb plb => ⟨rfl, ?_⟩⟩
        have sb : Same Hx Hb := ((sa.fr : Fr [] Hx Ha).seq fb (fun a ha => .inr (by rw [List.mem_singleton.mp ha]; exact hx2))).same
        have pla := plx.same sb
        obtain ⟨adx, aa, ab, hpa, _⟩ := pla.ins
        obtain ⟨bdx, ba, bb, hpb, _⟩ := plb.ins
        refine ⟨D.p, x2, adx, bdx, _, _, rfl, rfl, hpa, hpb, D, ⟨x2, rd, wd⟩, P, P, rfl, pla, plb, fun Hc sc1 => ⟨_, rfl, ?_⟩⟩
        rw [plan_refl ok]
        refine ⟨true, rfl, ite_f rfl ?_⟩
        refine s_next (s_seq ?_)
        have sxc := sb.trans sc1
        have exc := ex.same sxc
        have plc := plx.same sxc
        have dlac := dlax.same sxc
        have dwac := dwax.same sxc
        have hTc := sxc.sqT hTx
        have hAc := hAx.same sxc
        clear ex plx dlax dwax frzx hTx hAx hpx sa ea2 hx2 hdx2 hne2 hrd hwd hrw fb plb sb pla hpa hpb sc1 sxc
        refine if_gE (fun σ H' => σ = [some (.ref sc), some (.ref r), some (.int (0 + (i : Nat))), some (.ref la), some (.ref wa), some (.ref D.p), some (.ref to), some (.ref lt), u8, y9, y10, y11] ∧ Same Hc H') ?rest2 (fun nx2 hx2 => ?pick2)
        case pick2 =>
          obtain ⟨pdx, pa, pb, hpc, _⟩ := plc.ins
          walk_at "rz"
          refine s_lenT hTc ?_
          rw [lla]
          walk_at "rz"
          by_cases h1 : 1 < P.ls.length
          · refine ite_t (decide_eq_true (by omega)) ?_
            walk_at "rz"
            refine s_revT ?_
            walk_at "rz"
            refine ⟨la, las, rfl, hTc, fun p hp => ?_⟩
            generalize eH : upd Hc p _ = Hd
            have sd := newS hp eH
            have ed := newE eH
            clear eH
            have dp : Dp K Hd (.ref p) (.tuple ((revP P).ls.map dLn)) := .tup (SqT.of ed) (by
              have := dpa_rev (hAc.same sd)
              rw [← List.map_reverse] at this
              exact this)
            walk_at "rz"
            intro x3 dx3 hx3 hdx3 hne3
            generalize eH : upd (upd Hd dx3 _) x3 _ = He
            have se := mkS hx3 hdx3 eH
            have ee3 := mkE eH
            clear eH
            refine ⟨x3, p, wa, dx3, revP P, rfl, ee3, dp.same se, (dwac.same sd).same se, rev_ok ok, fun Hf rd wd hrd hwd hrw ff plf => ⟨rfl, ?_⟩⟩
            have sf : Same Hd Hf := ((se.fr : Fr [] Hd He).seq ff (fun a ha => .inr (by rw [List.mem_singleton.mp ha]; exact hx3))).same
            have plcf := plc.same (sd.trans sf)
            obtain ⟨adx, aa, ab, hpa, _⟩ := plcf.ins
            obtain ⟨bdx, ba, bb, hpb, _⟩ := plf.ins
            refine ⟨D.p, x3, adx, bdx, _, _, rfl, rfl, hpa, hpb, D, ⟨x3, rd, wd⟩, P, revP P, rfl, plcf, plf, fun Hg sg => ⟨_, rfl, ?_⟩⟩
            rw [plan_revW ok h1]
            walk_at "rz"
            exact hx2 _ _ ⟨rfl, (sd.trans sf).trans sg⟩
          · refine ite_f (decide_eq_false (by omega)) ?_
            walk_at "rz"
            exact hx2 _ _ ⟨rfl, Same.refl _⟩
        case rest2 =>
          rintro σ Hd ⟨rfl, sd⟩
          walk_at "rz"
          refine lcT_d (l := P.ls) (da := dLn) (sd.sqT hTc) (hAc.same sd) (fun _ => true) (fun l => dLn (simL l)) (by omega) (fun _ _ => tupd_dLn _) (fun l v Ha Yes No hl sa hdv yes no => ?_) (fun c7 H7 us hc7 s7 e7 a7 => ?_)
          · obtain ⟨t9, zs, rfl, hT9, hA9⟩ := hdv.tupI
            cases hA9 with | cons g1 hA9 => ?_
            cases hA9 with | cons g2 hA9 => ?_
            cases hA9 with | cons g3 hA9 => ?_
            cases hA9 with | cons g4 hA9 => ?_
            cases hA9
            cases g1
            cases g2
            cases g3
            walk_at "rz"
            refine ⟨rfl, ?_⟩
            walk_at "rz"
            refine s_slA hT9 fun a1 Hb sb eb => ?_
            rw [show (3 : Int) = ((3 : Nat) : Int) from rfl, cut_take] at eb
            walk_at "rz"
            rename_i b1 hb1 Hc1 sc1 ec1 b2 hb2 Hc2 sc2 ec2 b3 hb3 Hc3 sc3 ec3
            refine s_catW (((sc1.trans sc2).trans sc3).sqT eb) (SqT.of ec3) (by rw [sizeLine_eq]; simp) fun a5 Hf sf ef => ?_
            have saf := (sb.trans ((sc1.trans sc2).trans sc3)).trans sf
            refine yes rfl _ _ saf ?_
            exact .tup ef (.cons (.str _) (.cons (.str _) (.cons (.int _) (.cons (.tup (SqT.of ((sc3.trans sf) _ _ ec2)) (.cons (.tup (SqT.of ((sc2.trans (sc3.trans sf)) _ _ ec1)) (.cons (.str _) (.cons (.int _) .nil))) .nil)) .nil))))
          rw [List.filter_eq_self.mpr fun _ _ => rfl] at a7
          walk_at "rz"
          refine ⟨c7, us, rfl, .inl ⟨SqL.of e7, fun t8 ht8 => ?_⟩⟩
          generalize eH : upd H7 t8 _ = H8
          have s8 := newS ht8 eH
          have e8 := newE eH
          clear eH
          have sc8 := (sd.trans s7).trans s8
          have d8 : Dp K H8 (.ref t8) (.tuple ((P.ls.map simL).map dLn)) := by
            rw [List.map_map]
            exact .tup (SqT.of e8) (a7.same s8)
          walk_at "rz"
          rename_i tz htz H9 s9 e9
          have sc9 := sc8.trans s9
          obtain ⟨_, wvs, e, hTw, hAw⟩ := (dwac.same sc9).tupI
          cases e
          refine ⟨wa, tz, wvs, rfl, rfl, .inr ⟨hTw, SqT.of e9⟩, ?_⟩
          have lw : wvs.length = P.ws.length := by rw [hAw.len, List.length_map]
          cases hwv : wvs with
          | nil =>
            refine ⟨false, rfl, ite_f rfl ?_⟩
            walk_at "rz"
            exact ⟨⟨_, _, _, _, _, _, _, _, _, _, rfl⟩, exc.same sc9⟩
          | cons w0 wr =>
            have hne : P.ws ≠ [] := fun e => by rw [e, hwv] at lw; cases lw
            refine ⟨true, rfl, ite_t rfl ?_⟩
            walk_at "rz"
            intro x4 dx4 hx4 hdx4 hne4
            generalize eH : upd (upd H9 dx4 _) x4 _ = He
            have se := mkS hx4 hdx4 eH
            have ee4 := mkE eH
            clear eH
            refine ⟨x4, t8, wa, dx4, ⟨P.ls.map simL, P.ws⟩, rfl, ee4, (d8.same s9).same se, (dwac.same sc9).same se, sim_ok ok, fun Hf rd wd hrd hwd hrw ff plf => ⟨rfl, ?_⟩⟩
            have sf : Same H9 Hf := ((se.fr : Fr [] H9 He).seq ff (fun a ha => .inr (by rw [List.mem_singleton.mp ha]; exact hx4))).same
            walk_at "rz"
            intro x5 dx5 hx5 hdx5 hne5
            generalize eH : upd (upd Hf dx5 _) x5 _ = Hg
            have sg := mkS hx5 hdx5 eH
            have eg5 := mkE eH
            clear eH
            refine ⟨x5, t8, _, dx5, ⟨P.ls.map simL, []⟩, rfl, eg5, ((d8.same s9).same sf).same sg, .tup (T.dt_Setup_init _) .nil, sim_ok0 ok, fun Hh rd2 wd2 hrd2 hwd2 hrw2 fh plh => ⟨rfl, ?_⟩⟩
            have sh : Same Hf Hh := ((sg.fr : Fr [] Hf Hg).seq fh (fun a ha => .inr (by rw [List.mem_singleton.mp ha]; exact hx5))).same
            have plfh := plf.same sh
            obtain ⟨adx, aa, ab, hpa, _⟩ := plfh.ins
            obtain ⟨bdx, ba, bb, hpb, _⟩ := plh.ins
            refine ⟨x4, x5, adx, bdx, _, _, rfl, rfl, hpa, hpb, ⟨x4, rd, wd⟩, ⟨x5, rd2, wd2⟩, _, _, rfl, plfh, plh, fun Hi si => ⟨_, rfl, ?_⟩⟩
            rw [sim_ne hne]
            walk_at "rz"
            exact ⟨⟨_, _, _, _, _, _, _, _, _, _, rfl⟩, exc.same (((sc9.trans sf).trans sh).trans si)⟩
  · subst es
    walk_at "rz"
    exact q _
end
end T
set_option maxHeartbeats 0
namespace T
open PySem PySem.Spec PyProof.Rows L2 Z
open He (ga ma)
theorem facts {P : Program} {w : World} {K : Fg} {h : Heap} {mg : Str → Option Value} {f : Addr} (X : K.In h) (G : h.Ns mainGlobals mg) (hfa : mg ("law" : Str) = some (.ref f)) (c : SaysZ fa fn K) :
    ∃ fd : FuncData, (∀ (s : Shared) (v : Value), BindsTo s fd ⟨[v], []⟩ [("_law_script", v)]) ∧ ∀ base : Heap, LamX.TabB base mg (codA K (ga K "_law_is_line_told")) (tI K) → LamX.TabB base mg (codA K (ga K "_law_is_ranked")) (tN K) → LamX.TabB base mg (codA K (ga K "_law_are_unknown")) (tU K) → FnOk P w K mg base (L2.CX P w) 32 f fd ["_law_script"] (spLaw K) := by
  have T := txt_of X G c
  have e := hfa.symm.trans T.g_law
  cases e
  have b := FunD.bindsA (ps := ["_law_script"]) T.F_law fun _ _ _ _ _ _ us hl => match us, hl with | [_], _ => rfl
  exact ⟨_, fun s v => b s [v] rfl, fun base TA TB TC => ok_law T TA TB TC⟩
end T
open PySem PySem.W PySem.Calls PyProof.Rows
theorem PySem.Challenge.cw_callbells_k02_signs_of_set_ups_holds : PySem.Challenge.rw_callbells_k02_signs_of_set_ups.Holds := by
  refine T.early fun w mg f h Y G hm => ?_
  obtain ⟨K, KX, c, ct⟩ := Y
  obtain ⟨fd, hb, hF⟩ := T.facts (P := (PySem.Challenge.rw_callbells_k02_signs_of_set_ups).prog) (w := w) KX G hm c
  have one : ∀ {R : PySem.Addr → Prop}, (∀ u ∈ [He.ga K "_law_is_line_told", He.ga K "_law_is_ranked", He.ga K "_law_are_unknown"], R u) → R (He.ga K "_law_is_line_told") ∧ R (He.ga K "_law_is_ranked") ∧ R (He.ga K "_law_are_unknown") := fun h => ⟨h _ (List.mem_cons_self ..), h _ (List.mem_cons_of_mem _ (List.mem_cons_self ..)), h _ (List.mem_cons_of_mem _ (List.mem_cons_of_mem _ (List.mem_cons_self ..)))⟩
  refine ⟨K, fd, T.spLaw K, [He.ga K "_law_is_line_told", He.ga K "_law_is_ranked", He.ga K "_law_are_unknown"], KX, fun u hu => ?_, hb, fun H a ns hl ht hS => ⟨a, ns, rfl, hS, (one ht).1, (one ht).2.1, (one ht).2.2, fun _ => rfl⟩, fun base _ _ hB => hF base (one hB).1 (one hB).2.1 (one hB).2.2⟩
  rcases List.mem_cons.mp hu with hu | hu
  · rw [hu]
    exact ct (fun K => He.ga K "_law_is_line_told") (List.mem_cons_self ..)
  rcases List.mem_cons.mp hu with hu | hu
  · rw [hu]
    exact ct (fun K => He.ga K "_law_is_ranked") (List.mem_cons_of_mem _ (List.mem_cons_self ..))
  · rw [List.mem_singleton.mp hu]
    exact ct (fun K => He.ga K "_law_are_unknown") (List.mem_cons_of_mem _ (List.mem_cons_of_mem _ (List.mem_cons_self ..)))
